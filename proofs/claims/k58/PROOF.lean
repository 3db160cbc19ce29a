import PyProof.Rows.All
import Wide.All
import OpenK.AllK
import Wide.FinOn
import PySem.Value
import HandS.ForMost
import HandS.Walk
import PyProof.TupleCall
import KE.OsGo
import KE.KSuperObj
import KE.KExcSuper
import HandS.ExcSuper
import HandS.ExcInit
import HandS.ForSpec
import HandS.Exc
import HandS.ExcField
import HandS.ForExc
import HandS.TupAny
import HandS.Deep
import HandS.IsInst
import HandS.Conv
import HandS.NoneIn
import PyProof.P3In
import HandS.Flow
import PyProof.ReprRoads
import KE.SortData
import KE.OsSortAny
import HandS.TupLen
import HandS.More
import PyProof.ReprLen
import KE.DataFind
import KE.GoesMore
import HandS.Zip
import HandS.Style
import HandS.Ends
import PySem.Challenge.RW_nowayleft_k58_whole_heaps_at_their_great
set_option linter.all false
namespace MP
open PySem

/-- values: tuples (and lists, dicts that nobody writes any more) by what they hold; what may be written stands in the store -/
inductive D where
  | non | bl (b : Bool) | int (i : Int) | str (s : Str)
  | tup (l : List D) | xtp (l : List D) | lst (l : List D) | dct (t : Bool) (ks vs : List D) | ref (n : Nat) | fn (n : Nat)

inductive Bd where
  | lst (l : List D)
  | dct (t : Bool) (kvs : List (D × D))
  | ins (c : Nat) (fs : List (Nat × D))
structure Ob where
  lk : Bool
  bd : Bd
abbrev Sto := List Ob
abbrev GE := List (Option D)

inductive R (α : Type) where
  | ok (a : α) (s : Sto)
  | exc (c : Nat) (p : D) (s : Sto)
  | bad

inductive Bop where | add | sub | mul | fdiv | mod | pow | shl | shr | band
inductive Cop where | eq | ne | lt | le | gt | ge | isin | notin | isn | isnn
inductive Bi where | xtuple | len | tuple | list | all | any | max | min | sum | abs | int | sorted | dict | str
inductive Bm where | append | pop | pop0 | extend | count | index | get | update
inductive Ty where | tuple | int | bool | list | str

inductive Pat where
  | v (i : Nat)
  | tup (l : List Pat)

inductive Ex where
  | var (i : Nat)
  | con (d : D)
  | tup (es : List Ex)
  | lst (bx : Bool) (es : List Ex)
  | dct (t : Bool) (ks vs : List Ex)
  | bin (op : Bop) (a b : Ex)
  | neg (a : Ex)
  | not (a : Ex)
  | and (es : List Ex)
  | or (es : List Ex)
  | cmp (op : Cop) (a b : Ex)
  | cmp2 (op1 op2 : Cop) (a b c : Ex)
  | reprEq (a b : Ex)
  | ite (c a b : Ex)
  | call (f : Nat) (es : List Ex)
  | callv (i : Nat) (es : List Ex)
  | bi (bx : Bool) (b : Bi) (es : List Ex)
  | bm (m : Bm) (o : Ex) (es : List Ex)
  | isin (a : Ex) (t : Ty)
  | ix (o i : Ex)
  | sl (o : Ex) (lo hi : Option Ex)
  | comp (bx : Bool) (elt : Ex) (tg : Pat) (it : Ex) (ifs : List Ex) (own : List Nat)
  | comp2 (bx : Bool) (elt : Ex) (tg : Pat) (it : Ex) (ifs : List Ex) (tg1 : Pat) (it1 : Ex) (ifs1 : List Ex) (own own1 : List Nat)
  | rngv (bx : Bool) (b : Bi) (es : List Ex)
  | rng (es : List Ex)
  | enum (e : Ex)
  | zip (a b : Ex)

inductive Tg where
  | p (p : Pat)
  | sub (o i : Ex)

inductive Hx where
  | fld
  | con (d : D)

inductive St where
  | asg (tg : Tg) (e : Ex)
  | par (l : List Nat) (es : List Ex)
  | aug (i : Nat) (op : Bop) (e : Ex)
  | ex (e : Ex)
  | ret (e : Ex)
  | retn
  | ite (c : Ex) (a b : List St)
  | whl (c : Ex) (b : List St)
  | for_ (tg : Pat) (it : Ex) (b : List St)
  | brk | cnt | pass
  | raise (c : Nat) (e : Ex)
  | try_ (b : List St) (c : Nat) (i : Nat) (h : Hx)

/-! ### plain helpers -/
def isPure : Nat → D → Bool
  | 0, _ => false
  | n + 1, d => match d with
    | .non | .bl _ | .int _ => true
    | .str s => s.cps.all (· < 0x110000)
    | .tup l | .lst l => l.all (isPure n)
    | _ => false
def eqD : Nat → D → D → Bool
  | 0, _, _ => false
  | n + 1, a, b => match a with
    | .non => (match b with | .non => true | _ => false)
    | .bl x => (match b with | .bl y => x == y | .int j => (if x then 1 else 0) == j | _ => false)
    | .int i => (match b with | .int j => i == j | .bl y => i == (if y then 1 else 0) | _ => false)
    | .str x => (match b with | .str y => x == y | _ => false)
    | .tup l => (match b with | .tup k => eqDs (eqD n) l k | _ => false)
    | .lst l => (match b with | .lst k => eqDs (eqD n) l k | _ => false)
    | _ => false
where eqDs (f : D → D → Bool) : List D → List D → Bool
  | [], [] => true
  | x :: xs, y :: ys => f x y && eqDs f xs ys
  | _, _ => false
/-- the very same (kinds too) -/
def sameD : Nat → D → D → Bool
  | 0, _, _ => false
  | n + 1, a, b => match a with
    | .non => (match b with | .non => true | _ => false)
    | .bl x => (match b with | .bl y => x == y | _ => false)
    | .int i => (match b with | .int j => i == j | _ => false)
    | .str x => (match b with | .str y => x == y | _ => false)
    | .tup l => (match b with | .tup k => eqD.eqDs (sameD n) l k | _ => false)
    | .lst l => (match b with | .lst k => eqD.eqDs (sameD n) l k | _ => false)
    | _ => false
def deep : Nat := 60
def small64 (i : Int) : Bool := decide (-18446744073709551616 < i) && decide (i < 18446744073709551616)
/-- how long the shown text may be -/
def wgt : Nat → D → Nat
  | 0, _ => 1000000
  | n + 1, d => match d with
    | .int i => if small64 i then 70 else 1000000
    | .str s => s.cps.size
    | .tup l => wgts (wgt n) l
    | .lst l => wgts (wgt n) l
    | .non => 0
    | .bl _ => 0
    | _ => 1000000
where wgts (f : D → Nat) : List D → Nat
  | [] => 0
  | x :: l => f x + 1 + wgts f l
def fitsD (d : D) : Bool := decide (wgt deep d ≤ 200000)
/-- a list in the store by what it holds -/
def top (S : Sto) (d : D) : D := match d with
  | .ref n => (match S[n]? with | some ⟨_, .lst l⟩ => .lst l | _ => d)
  | _ => d
def seqOf (S : Sto) (d : D) : Option (List D) := match d with
  | .tup l => some l
  | .xtp l => some l
  | .lst l => some l
  | .ref n => (match S[n]? with | some ⟨_, .lst l⟩ => some l | _ => none)
  | _ => none
def dctOf (S : Sto) (d : D) : Option (Bool × List (D × D)) := match d with
  | .dct t ks vs => some (t, ks.zip vs)
  | .ref n => (match S[n]? with | some ⟨_, .dct t l⟩ => some (t, l) | _ => none)
  | _ => none
def truth (S : Sto) (d : D) : Option Bool := match d with
  | .non => some false
  | .bl b => some b
  | .int i => some (i != 0)
  | .str s => if s.length ≤ 16777216 then some (s.length != 0) else none
  | .tup l => some (!l.isEmpty)
  | .xtp l => some (!l.isEmpty)
  | .lst l => some (!l.isEmpty)
  | .ref n => (match S[n]? with | some ⟨_, .lst l⟩ => some (!l.isEmpty) | some ⟨false, .dct false l⟩ => some (!l.isEmpty) | _ => none)
  | .dct _ _ _ => none
  | .fn _ => none
def lineOk (n : Nat) : Bool := decide (n ≤ 16777216)
def smallDiv (j : Int) : Bool := decide (0 < j) && decide (j < 1073741824)
def isNon (d : D) : Bool := match d with | .non => true | _ => false
def leafK (d : D) : Bool := match d with | .int _ | .str _ => true | _ => false
/-- a key: an int or a text (t = false), or a tuple (t = true) of keys, None, tuples -/
def isKey (t : Bool) (d : D) : Bool := match d with
  | .int _ | .str _ => !t
  | .tup l => t && l.all leafK
  | _ => false
def findK (k : D) : List (D × D) → Option D
  | [] => none
  | (a, v) :: r => if sameD deep a k then some v else findK k r
def putK (k v : D) (l : List (D × D)) : List (D × D) := if (findK k l).isSome then l.map (fun p => if sameD deep p.1 k then (p.1, v) else p) else l ++ [(k, v)]
def mergeD : List (D × D) → List (D × D) → List (D × D)
  | l, [] => l
  | l, (k, v) :: r => mergeD (putK k v l) r
/-- refs below m alone -/
def below (m : Nat) : Nat → D → Bool
  | 0, _ => false
  | n + 1, d => match d with
    | .ref k => decide (k < m)
    | .tup l | .xtp l | .lst l => l.all (below m n)
    | .dct _ ks vs => ks.all (below m n) && vs.all (below m n)
    | _ => true
/-- what stands at m and above, by what it holds -/
def unbox (m : Nat) (S : Sto) : Nat → D → Option D
  | 0, _ => none
  | n + 1, d => match d with
    | .ref k => if k < m then some d else (match S[k]? with
      | some ⟨_, .lst l⟩ => (l.mapM (unbox m S n)).map .lst
      | some ⟨_, .dct t l⟩ => (match (l.map (·.1)).mapM (unbox m S n), (l.map (·.2)).mapM (unbox m S n) with | some ks, some vs => some (.dct t ks vs) | _, _ => none)
      | _ => none)
    | .tup l => (l.mapM (unbox m S n)).map .tup
    | .xtp l => (l.mapM (unbox m S n)).map .xtp
    | .lst l => (l.mapM (unbox m S n)).map .lst
    | .dct t ks vs => (match ks.mapM (unbox m S n), vs.mapM (unbox m S n) with | some ks, some vs => some (.dct t ks vs) | _, _ => none)
    | _ => some d
def ixN (n : Nat) (i : Int) : Option Nat := if 0 ≤ i then (if i < n then some i.toNat else none) else if -(n : Int) ≤ i then some (i + n).toNat else none
def sx (n d : Nat) : Option Int → Nat
  | none => d
  | some v => if v < 0 then (v + (n : Int)).toNat else min v.toNat n
def cut (l : List D) (lo hi : Option Int) : List D := (l.drop (sx l.length 0 lo)).take (sx l.length l.length hi - sx l.length 0 lo)
def intsD : List D → Option (List Int)
  | [] => some []
  | .int i :: r => (intsD r).map (i :: ·)
  | _ :: _ => none
def boolsD : List D → Option (List Bool)
  | [] => some []
  | .bl i :: r => (boolsD r).map (i :: ·)
  | _ :: _ => none
/-- order of numbers, of tuples of numbers -/
def isI (d : D) : Bool := match d with | .int _ => true | _ => false
def isTI (d : D) : Bool := match d with | .tup (.int _ :: r) => r.all isI | _ => false
def ltI : List D → List D → Bool
  | [], [] => false
  | [], _ :: _ => true
  | _ :: _, [] => false
  | x :: l, y :: k => match x with
    | .int a => (match y with | .int b => if a == b then ltI l k else decide (a < b) | _ => false)
    | _ => false
def ltD (a b : D) : Bool := match a with
  | .int i => (match b with | .int j => decide (i < j) | _ => false)
  | .tup l => (match b with | .tup k => ltI l k | _ => false)
  | _ => false
def insD (x : D) : List D → List D
  | [] => [x]
  | y :: r => if !ltD y x then x :: y :: r else y :: insD x r
def isortD : List D → List D
  | [] => []
  | x :: r => insD x (isortD r)
def sortD (l : List D) : Option (List D) := if l.all isI || l.all isTI then some (isortD l) else none
def pairsOf : List D → Option (List (D × D))
  | [] => some []
  | .tup [k, v] :: r => (pairsOf r).map ((k, v) :: ·)
  | _ :: _ => none
def rangeD (lo : Int) (c : Int) : Nat → List D
  | 0 => []
  | n + 1 => .int lo :: rangeD (lo + c) c n
def enumD : Nat → List D → List D
  | _, [] => []
  | n, x :: r => .tup [.int n, x] :: enumD (n + 1) r
def zipD : List D → List D → List D
  | x :: xs, y :: ys => .tup [x, y] :: zipD xs ys
  | _, _ => []

def R.lift {α : Type} (o : Option α) (S : Sto) : R α := match o with | some a => .ok a S | none => .bad
def R.bind {α β : Type} (r : R α) (k : α → Sto → R β) : R β := match r with | .ok a s => k a s | .exc c p s => .exc c p s | .bad => .bad

def binop (S : Sto) (op : Bop) (a b : D) : Option D := match op with
  | .add => (match a, b with
    | .int i, .int j => some (.int (i + j))
    | .str x, .str y => if lineOk (x.length + y.length) then some (.str (x ++ y)) else none
    | .tup x, .tup y => if lineOk (x.length + y.length) then some (.tup (x ++ y)) else none
    | _, _ => (match top S a, top S b with
      | .lst x, .lst y => if lineOk (x.length + y.length) then some (.lst (x ++ y)) else none
      | _, _ => none))
  | .sub => (match a, b with | .int i, .int j => some (.int (i - j)) | _, _ => none)
  | .mul => (match a, b with
    | .int i, .int j => if small64 i || small64 j then some (.int (i * j)) else none
    | _, _ => none)
  | .fdiv => (match a, b with | .int i, .int j => if smallDiv j then some (.int (i / j)) else none | _, _ => none)
  | .mod => (match a, b with | .int i, .int j => if decide (0 < j) then some (.int (i % j)) else none | _, _ => none)
  | _ => none

def cmpop (S : Sto) (op : Cop) (a b : D) : Option Bool := match op with
  | .eq => (let a := top S a; let b := top S b; if isPure deep a && isPure deep b then some (eqD deep a b) else none)
  | .ne => (let a := top S a; let b := top S b; if isPure deep a && isPure deep b then some (!eqD deep a b) else none)
  | .lt => (match a, b with | .int i, .int j => some (decide (i < j)) | _, _ => none)
  | .le => (match a, b with | .int i, .int j => some (decide (i ≤ j)) | _, _ => none)
  | .gt => (match a, b with | .int i, .int j => some (decide (j < i)) | _, _ => none)
  | .ge => (match a, b with | .int i, .int j => some (decide (j ≤ i)) | _, _ => none)
  | .isn => if isNon b then some (isNon a) else none
  | .isnn => if isNon b then some (!isNon a) else none
  | .isin => member S a b
  | .notin => (member S a b).map not
where member (S : Sto) (a b : D) : Option Bool := match seqOf S b with
  | some l => if isPure deep a && l.all (isPure deep) then some (l.any fun x => eqD deep x a) else none
  | none => match dctOf S b with
    | some (t, l) => if isKey t a then some (findK a l).isSome else (if isNon a && !t then some false else none)
    | none => none

def writable (ms : List Nat) (n : Nat) (d : D) : Bool := ms.all fun m => decide (m ≤ n) || below m deep d
def lstOf (S : Sto) (d : D) : Option (List D) := match top S d with | .lst l => some l | _ => none
def maxI (i : Int) : List Int → Int
  | [] => i
  | j :: r => maxI (if j > i then j else i) r
def minI (i : Int) : List Int → Int
  | [] => i
  | j :: r => minI (if j < i then j else i) r
def tupOf (S : Sto) (d : D) : Option (List D) := match d with
  | .tup l => some l
  | _ => lstOf S d
def biop (S : Sto) (b : Bi) (args : List D) : Option D := match b, args with
  | .len, [d] => (match d with
    | .str s => if lineOk s.length then some (.int s.length) else none
    | _ => match seqOf S d with
      | some l => some (.int l.length)
      | none => match dctOf S d with | some (_, l) => some (.int l.length) | none => none)
  | .tuple, [d] => (tupOf S d).map .tup
  | .xtuple, [d] => (lstOf S d).map .xtp
  | .list, [d] => (seqOf S d).map .lst
  | .all, [d] => (match lstOf S d with | some l => (boolsD l).map fun bs => .bl (bs.all id) | none => none)
  | .any, [d] => (match lstOf S d with | some l => (boolsD l).map fun bs => .bl (bs.any id) | none => none)
  | .max, [d] => (match lstOf S d with | some l => (match intsD l with | some (i :: r) => some (.int (maxI i r)) | _ => none) | none => none)
  | .min, [d] => (match lstOf S d with | some l => (match intsD l with | some (i :: r) => some (.int (minI i r)) | _ => none) | none => none)
  | .max, [.int i, .int j] => some (.int (if j > i then j else i))
  | .min, [.int i, .int j] => some (.int (if j < i then j else i))
  | .sum, [d] => (match lstOf S d with | some l => (intsD l).map fun is => .int is.sum | none => none)
  | .abs, [.int i] => some (.int (if i < 0 then -i else i))
  | .int, [.int i] => some (.int i)
  | .sorted, [d] => (match lstOf S d with
    | some l => (sortD l).map .lst
    | none => match dctOf S d with | some (_, l) => (sortD (l.map (·.1))).map .lst | none => none)
  | .dict, [d] => (match lstOf S d with
    | some l => (match pairsOf l with
      | some kvs => if kvs.all fun p => isKey false p.1 then (let z := mergeD [] kvs; some (.dct false (z.map (·.1)) (z.map (·.2)))) else none
      | none => none)
    | none => none)
  | _, _ => none
def cntOf (S : Sto) (d : D) : Option (List D) := match d with
  | .xtp l => some l
  | _ => lstOf S d
def bmOk (S : Sto) (k : Bm) (d : D) : Bool := match k with
  | .get => (dctOf S d).isSome
  | .update => (dctOf S d).isSome
  | .count => (cntOf S d).isSome
  | .index => (cntOf S d).isSome
  | _ => (lstOf S d).isSome
def bmop (ms : List Nat) (S : Sto) (k : Bm) (o : D) (args : List D) : R D := match k, o, args with
  | .append, .ref n, [d] => (match S[n]? with
    | some ⟨false, .lst l⟩ => if writable ms n d && lineOk (l.length + 1) then .ok .non (S.set n ⟨false, .lst (l ++ [d])⟩) else .bad
    | _ => .bad)
  | .count, d, [x] => (match cntOf S d with
    | some l => if isPure deep x && l.all (isPure deep) then .ok (.int (l.countP fun y => eqD deep y x)) S else .bad
    | none => .bad)
  | .get, d, [k, x] => (match dctOf S d with
    | some (t, l) => if isKey t k then .ok ((findK k l).getD x) S else .bad
    | none => .bad)
  | .update, .ref n, [.dct false ks vs] => (match S[n]? with
    | some ⟨false, .dct false l⟩ => if (ks.zip vs).all (fun p => writable ms n p.1 && writable ms n p.2) && lineOk (l.length + ks.length) then .ok .non (S.set n ⟨false, .dct false (mergeD l (ks.zip vs))⟩) else .bad
    | _ => .bad)
  | _, _, _ => .bad
inductive Kd where | non | bl | int | str | tup | lst | dct
def kdOf (S : Sto) (d : D) : Option Kd := match d with
  | .non => some .non
  | .bl _ => some .bl
  | .int _ => some .int
  | .str _ => some .str
  | .tup _ => some .tup
  | .xtp _ => some .tup
  | .lst _ => some .lst
  | .dct false _ _ => some .dct
  | .ref n => (match S[n]? with | some ⟨_, .lst _⟩ => some .lst | some ⟨_, .dct false _⟩ => some .dct | _ => none)
  | _ => none
def tyTab (k : Kd) (t : Ty) : Bool := match k, t with
  | .tup, .tuple => true
  | .lst, .list => true
  | .int, .int => true
  | .bl, .int => true
  | .bl, .bool => true
  | .str, .str => true
  | _, _ => false
def tyOf (S : Sto) (d : D) (t : Ty) : Option Bool := (kdOf S d).map fun k => tyTab k t
def ixop (S : Sto) (o i : D) : Option D := match dctOf S o with
  | some (t, l) => if isKey t i then findK i l else none
  | none => match seqOf S o, i with
    | some l, .int k => (match ixN l.length k with | some n => l[n]? | none => none)
    | _, _ => none
def slop (S : Sto) (o : D) (lo hi : Option Int) : Option D := match top S o with
  | .tup l => some (.tup (cut l lo hi))
  | .lst l => some (.lst (cut l lo hi))
  | _ => none

/-! ### evaluation, one level over a level below -/
def scalD (d : D) : Bool := match d with | .non => true | .bl _ => true | .int _ => true | .str _ => true | _ => false
abbrev EvF := Ex → GE → Sto → R D
abbrev TtF := Ex → GE → Sto → R Bool
def evL (E : EvF) : List Ex → GE → Sto → R (List D)
  | [], _, S => .ok [] S
  | e :: r, g, S => (E e g S).bind fun d S1 => (evL E r g S1).bind fun l S2 => .ok (d :: l) S2
def evAnd (E : EvF) : List Ex → GE → Sto → R D
  | [], _, _ => .bad
  | [e], g, S => E e g S
  | e :: r, g, S => (E e g S).bind fun d S1 => match truth S1 d with | some true => evAnd E r g S1 | some false => .ok d S1 | none => .bad
def evOr (E : EvF) : List Ex → GE → Sto → R D
  | [], _, _ => .bad
  | [e], g, S => E e g S
  | e :: r, g, S => (E e g S).bind fun d S1 => match truth S1 d with | some false => evOr E r g S1 | some true => .ok d S1 | none => .bad
def ttAnd (T : TtF) : List Ex → GE → Sto → R Bool
  | [], _, S => .ok true S
  | e :: r, g, S => (T e g S).bind fun b S1 => if b then ttAnd T r g S1 else .ok false S1
def ttOr (T : TtF) : List Ex → GE → Sto → R Bool
  | [], _, S => .ok false S
  | e :: r, g, S => (T e g S).bind fun b S1 => if b then .ok true S1 else ttOr T r g S1
def setEnv (g : GE) (i : Nat) (d : D) : GE := g.set i (some d)
def wipeE (g : GE) : List Nat → GE
  | [] => g
  | i :: r => (wipeE g r).set i none
/-! a target: a name, or a tuple of targets -/
mutual
def asgN : Pat → D → GE → Option GE
  | .v i, d, g => some (setEnv g i d)
  | .tup l, d, g => match d with
    | .tup ds => asgNs l ds g
    | _ => none
def asgNs : List Pat → List D → GE → Option GE
  | [], [], g => some g
  | p :: l, d :: ds, g => (match asgN p d g with | some g1 => asgNs l ds g1 | none => none)
  | _, _, _ => none
end
def putAll (g : GE) : List Nat → List D → GE
  | i :: r, d :: l => putAll (setEnv g i d) r l
  | _, _ => g
def flatD (d : D) (S : Sto) : R (List D × Option Nat) := match d with
  | .tup l => .ok (l, none) S
  | .xtp l => .ok (l, none) S
  | .lst l => .ok (l, none) S
  | .ref n => (match S[n]? with
    | some ⟨true, .lst l⟩ => .ok (l, none) S
    | some ⟨true, .dct _ l⟩ => .ok (l.map (·.1), none) S
    | _ => .bad)
  | _ => .bad
/-- .. of a name: an object of the store may be locked now -/
def flatV (d : D) (S : Sto) : R (List D × Option Nat) := match d with
  | .dct _ ks _ => .ok (ks, none) S
  | .ref n => (match S[n]? with
    | some ⟨false, .lst l⟩ => .ok (l, some n) S
    | some ⟨false, .dct _ l⟩ => .ok (l.map (·.1), some n) S
    | _ => flatD d S)
  | _ => flatD d S
def ok62 (a : Int) : Bool := decide (-4611686018427387904 ≤ a) && decide (a < 4611686018427387904)
def rng1D (x : D) (S : Sto) : R (List D × Option Nat) := match x with
  | .int a => if ok62 a then .ok (rangeD 0 1 a.toNat, none) S else .bad
  | _ => .bad
def rng2D (x y : D) (S : Sto) : R (List D × Option Nat) := match x with
  | .int a => (match y with | .int b => if ok62 a && ok62 b then .ok (rangeD a 1 (b - a).toNat, none) S else .bad | _ => .bad)
  | _ => .bad
def enmD (d : D) (S : Sto) : R (List D × Option Nat) := match d with
  | .tup l => .ok (enumD 0 l, none) S
  | .xtp l => .ok (enumD 0 l, none) S
  | .lst l => .ok (enumD 0 l, none) S
  | _ => .bad
/-- what is walked: the items, and the store's object that is locked meanwhile -/
def itE (E : EvF) (it : Ex) (g : GE) (S : Sto) : R (List D × Option Nat) := match it with
  | .rng es => (match es with
    | [a] => (E a g S).bind rng1D
    | [a, b] => (E a g S).bind fun x S1 => (E b g S1).bind fun y S2 => rng2D x y S2
    | _ => .bad)
  | .enum e => (E e g S).bind enmD
  | .zip a b => (E a g S).bind fun d S1 => (E b g S1).bind fun d' S2 => match d, d' with
    | .tup l, .tup k => .ok (zipD l k, none) S2
    | _, _ => .bad
  | .var i => (match g[i]? with | some (some d) => flatV d S | _ => .bad)
  | e => (E e g S).bind flatD
def noX {α : Type} (r : R α) : R α := match r with | .exc _ _ _ => .bad | r => r
def lockAt (b : Bool) (o : Option Nat) (S : Sto) : Sto := match o with
  | none => S
  | some n => match S[n]? with | some x => S.set n ⟨b, x.bd⟩ | none => S
/-- the list at n0 grows -/
def compL (E : EvF) (T : TtF) (elt : Ex) (tg : Pat) (ifs : List Ex) (g : GE) (n0 : Nat) : List D → Sto → R Unit
  | [], S => .ok () S
  | d :: r, S => match asgN tg d g with
    | none => .bad
    | some g1 => (noX (ttAnd T ifs g1 S)).bind fun b S1 => if b then (noX (E elt g1 S1)).bind fun x S2 => (match S2[n0]? with
        | some ⟨false, .lst l⟩ => if lineOk (l.length + 1) then compL E T elt tg ifs g n0 r (S2.set n0 ⟨false, .lst (l ++ [x])⟩) else .bad
        | _ => .bad)
      else compL E T elt tg ifs g n0 r S1
def compL2 (E : EvF) (T : TtF) (elt : Ex) (tg : Pat) (ifs : List Ex) (tg1 : Pat) (it1 : Ex) (ifs1 : List Ex) (own1 : List Nat) (g : GE) (n0 : Nat) : List D → Sto → R Unit
  | [], S => .ok () S
  | d :: r, S => match asgN tg d g with
    | none => .bad
    | some g1 => (noX (ttAnd T ifs g1 S)).bind fun b S1 => if b then
        (noX (itE E it1 g1 S1)).bind fun p S2 => match p.2 with
          | some _ => .bad
          | none => (compL E T elt tg1 ifs1 (wipeE g1 own1) n0 p.1 S2).bind fun _ S3 => compL2 E T elt tg ifs tg1 it1 ifs1 own1 g n0 r S3
      else compL2 E T elt tg ifs tg1 it1 ifs1 own1 g n0 r S1
def compEnd (bx : Bool) (n0 : Nat) (o : Option Nat) (S : Sto) : R D := match S[n0]? with
  | some ⟨false, .lst l⟩ => if bx then .ok (.ref n0) (lockAt false o S) else if decide (S.length = n0 + 1) && l.all (below n0 deep) then .ok (.lst l) (lockAt false o (S.take n0)) else .bad
  | _ => .bad
def compD (bx : Bool) (o : Option Nat) (S : Sto) (f : Nat → Sto → R Unit) : R D := (f S.length (S ++ [⟨false, .lst []⟩])).bind fun _ S2 => compEnd bx S.length o S2
/-- a list's value, or a new list of the store -/
def boxL (bx : Bool) (l : List D) (S : Sto) : R D := if lineOk l.length then (if bx then .ok (.ref S.length) (S ++ [⟨false, .lst l⟩]) else .ok (.lst l) S) else .bad

def biE (bx : Bool) (b : Bi) (S : Sto) (l : List D) : R D := match biop S b l with
  | none => .bad
  | some r => if bx then (match r with
      | .lst x => boxL true x S
      | .dct t ks vs => .ok (.ref S.length) (S ++ [⟨false, .dct t (ks.zip vs)⟩])
      | _ => .bad)
    else .ok r S
abbrev CallF := Nat → List D → List Nat → Sto → R D
def evStep (nf : Nat) (call : CallF) (ms : List Nat) (EE : List Nat → EvF) (TT : List Nat → TtF) : EvF := let E := EE ms; let T := TT ms; fun x g S => match x with
  | .var i => (match g[i]? with | some (some d) => .ok d S | _ => .bad)
  | .con d => .ok d S
  | .tup es => (evL E es g S).bind fun l S1 => if lineOk l.length then .ok (.tup l) S1 else .bad
  | .lst bx es => (evL E es g S).bind fun l S1 => boxL bx l S1
  | .dct t ks vs => (match ks, vs with
    | [], [] => .ok (.ref S.length) (S ++ [⟨false, .dct t []⟩])
    | [.var i], [.con (.bl b)] => (match g[i]? with
      | some (some a) => if isKey false a && !t then .ok (.ref S.length) (S ++ [⟨false, .dct false [(a, .bl b)]⟩]) else .bad
      | _ => .bad)
    | _, _ => .bad)
  | .bin op a b => (E a g S).bind fun x S1 => (E b g S1).bind fun y S2 => .lift (binop S2 op x y) S2
  | .neg a => (E a g S).bind fun x S1 => match x with | .int i => .ok (.int (-i)) S1 | _ => .bad
  | .not a => (E a g S).bind fun d S1 => .lift ((truth S1 d).map fun b => .bl (!b)) S1
  | .and es => evAnd E es g S
  | .or es => evOr E es g S
  | .cmp op a b => (E a g S).bind fun x S1 => (E b g S1).bind fun y S2 => .lift ((cmpop S2 op x y).map .bl) S2
  | .cmp2 op1 op2 a b c => (E a g S).bind fun x S1 => (E b g S1).bind fun y S2 => match cmpop S2 op1 x y with
    | some true => (E c g S2).bind fun z S3 => (.lift ((cmpop S3 op2 y z).map .bl) S3)
    | some false => .ok (.bl false) S2
    | none => .bad
  | .reprEq a b => (E a g S).bind fun x S1 => if isPure deep x && fitsD x then ((E b g S1).bind fun y S2 => if sameD deep x y then .ok (.bl true) S2 else .bad) else .bad
  | .ite c a b => (T c g S).bind fun t S1 => if t then E a g S1 else E b g S1
  | .call f es => (evL E es g S).bind fun l S1 => call f l ms S1
  | .callv i es => (match g[i]? with
    | some (some (.fn f)) => if f < nf then (evL E es g S).bind fun l S1 => call f l ms S1 else .bad
    | _ => .bad)
  | .bi bx b es => (evL E es g S).bind fun l S1 => biE bx b S1 l
  | .bm k o es => (E o g S).bind fun d S1 => if bmOk S1 k d then ((evL E es g S1).bind fun l S2 => bmop ms S2 k d l) else .bad
  | .isin a t => (E a g S).bind fun d S1 => .lift ((tyOf S1 d t).map .bl) S1
  | .ix o i => (E o g S).bind fun d S1 => (E i g S1).bind fun k S2 => .lift (ixop S2 d k) S2
  | .sl o lo hi => (E o g S).bind fun d S1 => (evO E lo g S1).bind fun a S2 => (evO E hi g S2).bind fun b S3 => .lift (slop S3 d a b) S3
  | .comp bx elt tg it ifs own => (itE E it g S).bind fun p S1 => compD bx p.2 (lockAt true p.2 S1) fun n0 S2 => compL (EE (n0 :: ms)) (TT (n0 :: ms)) elt tg ifs (wipeE g own) n0 p.1 S2
  | .comp2 bx elt tg it ifs tg1 it1 ifs1 own own1 => (itE E it g S).bind fun p S1 => (match p.2 with | some _ => .bad | none => compD bx none S1 fun n0 S2 => compL2 (EE (n0 :: ms)) (TT (n0 :: ms)) elt tg ifs tg1 it1 ifs1 own1 (wipeE g own) n0 p.1 S2)
  | .rngv bx b es => (itE E (.rng es) g S).bind fun p S1 => (match b with
    | .tuple => if lineOk p.1.length then .ok (.tup p.1) S1 else .bad
    | .list => boxL bx p.1 S1
    | _ => .bad)
  | .rng _ | .enum _ | .zip _ _ => .bad
where evO (E : EvF) (o : Option Ex) (g : GE) (S : Sto) : R (Option Int) := match o with
  | none => .ok none S
  | some e => (E e g S).bind fun d S1 => match d with | .int i => .ok (some i) S1 | _ => .bad
def ttStep (E1 : EvF) (E : EvF) (T : TtF) : TtF := fun x g S => match x with
  | .and es => ttAnd T es g S
  | .or es => ttOr T es g S
  | .not a => (T a g S).bind fun b S1 => .ok (!b) S1
  | .cmp op a b => (E a g S).bind fun x S1 => (E b g S1).bind fun y S2 => .lift (cmpop S2 op x y) S2
  | .cmp2 op1 op2 a b c => (E a g S).bind fun x S1 => (E b g S1).bind fun y S2 => match cmpop S2 op1 x y with
    | some true => (E c g S2).bind fun z S3 => (.lift (cmpop S3 op2 y z) S3)
    | some false => .ok false S2
    | none => .bad
  | .ite _ _ _ => .bad
  | .reprEq _ _ => .bad
  | e => (E1 e g S).bind fun d S1 => .lift (truth S1 d) S1
def evP (nf : Nat) (call : CallF) : Nat → (List Nat → EvF) × (List Nat → TtF)
  | 0 => (fun _ _ _ _ => .bad, fun _ _ _ _ => .bad)
  | n + 1 => (fun ms => evStep nf call ms (evP nf call n).1 (evP nf call n).2, fun ms => ttStep (evStep nf call ms (evP nf call n).1 (evP nf call n).2) ((evP nf call n).1 ms) ((evP nf call n).2 ms))

/-! ### statements -/
inductive Fl where | next | ret (d : D) | brk | cnt
inductive RS where
  | ok (f : Fl) (g : GE) (s : Sto)
  | exc (c : Nat) (p : D) (g : GE) (s : Sto)
  | bad
def R.st {α : Type} (r : R α) (g : GE) (k : α → Sto → RS) : RS := match r with | .ok a s => k a s | .exc c p s => .exc c p g s | .bad => .bad
/-- x[k] = d -/
def setop (ms : List Nat) (S : Sto) (x k d : D) : Option Sto := match x with
  | .ref n => (match S[n]? with
    | some ⟨false, .lst l⟩ => (match k with
      | .int z => (match ixN l.length z with
        | some j => if writable ms n d then some (S.set n ⟨false, .lst (l.set j d)⟩) else none
        | none => none)
      | _ => none)
    | some ⟨false, .dct t l⟩ => if isKey t k && writable ms n d && lineOk (l.length + 1) then some (S.set n ⟨false, .dct t (putK k d l)⟩) else none
    | _ => none)
  | _ => none
def asgTg (ms : List Nat) (E : EvF) (tg : Tg) (d : D) (g : GE) (S : Sto) : RS := match tg with
  | .p p => (match asgN p d g with | some g1 => .ok .next g1 S | none => .bad)
  | .sub o i => (E o g S).st g fun x S1 => (E i g S1).st g fun k S2 => (match setop ms S2 x k d with | some S3 => .ok .next g S3 | none => .bad)
abbrev StF := List St → GE → Sto → RS
def forL (X : StF) (tg : Pat) (b : List St) : List D → GE → Sto → RS
  | [], g, S => .ok .next g S
  | d :: r, g, S => match asgN tg d g with
    | none => .bad
    | some g1 => match X b g1 S with
      | .ok .next g2 S2 => forL X tg b r g2 S2
      | .ok .cnt g2 S2 => forL X tg b r g2 S2
      | .ok .brk g2 S2 => .ok .next g2 S2
      | z => z
def whlL (T : TtF) (X : StF) (c : Ex) (b : List St) : Nat → GE → Sto → RS
  | 0, _, _ => .bad
  | n + 1, g, S => (T c g S).st g fun t S1 => if t then
      match X b g S1 with
      | .ok .next g2 S2 => whlL T X c b n g2 S2
      | .ok .cnt g2 S2 => whlL T X c b n g2 S2
      | .ok .brk g2 S2 => .ok .next g2 S2
      | z => z
    else .ok .next g S1
def unlockRS (o : Option Nat) (dk : Bool) (r : RS) : RS := match r with
  | .ok f g s => .ok f g (lockAt false o s)
  | .exc c p g s => if o.isSome || dk then .bad else .exc c p g s
  | .bad => .bad
/-- a name's dict value -/
def isDV (it : Ex) (g : GE) : Bool := match it with
  | .var i => (match g[i]? with | some (some (.dct _ _ _)) => true | _ => false)
  | _ => false
def turns : Nat := 1000000
/-- sub c c': the class c is c' or one of its subclasses -/
def exStep (sub : Nat → Nat → Bool) (ms : List Nat) (E : EvF) (T : TtF) (X : StF) : St → GE → Sto → RS := fun x g S => match x with
  | .asg tg e => (E e g S).st g fun d S1 => asgTg ms E tg d g S1
  | .par l es => (evL E es g S).st g fun ds S1 => if ds.length = l.length then .ok .next (putAll g l ds) S1 else .bad
  | .aug i op e => (match op with
    | .add => (match g[i]? with
      | some (some (.int a)) => (E e g S).st g fun b S1 => (match b with | .int z => .ok .next (setEnv g i (.int (a + z))) S1 | _ => .bad)
      | _ => .bad)
    | _ => .bad)
  | .ex e => (E e g S).st g fun _ S1 => .ok .next g S1
  | .ret e => (E e g S).st g fun d S1 => .ok (.ret d) g S1
  | .retn => .ok (.ret .non) g S
  | .ite c a b => (T c g S).st g fun t S1 => if t then X a g S1 else X b g S1
  | .whl c b => whlL T X c b turns g S
  | .for_ tg it b => (itE E it g S).st g fun p S1 => unlockRS p.2 (isDV it g) (forL X tg b p.1 g (lockAt true p.2 S1))
  | .brk => .ok .brk g S
  | .cnt => .ok .cnt g S
  | .pass => .ok .next g S
  | .raise c e => (E e g S).st g fun d S1 => .exc c d g S1
  | .try_ b c i h => (match X b g S with
    | .exc c' p g1 S1 => if sub c' c then (match h with
        | .fld => .ok (.ret p) (g1.set i none) S1
        | .con d => .ok (.ret d) (g1.set i none) S1) else .exc c' p g1 S1
    | z => z)
def exL (X : St → GE → Sto → RS) : List St → GE → Sto → RS
  | [], g, S => .ok .next g S
  | s :: r, g, S => match X s g S with
    | .ok .next g1 S1 => exL X r g1 S1
    | z => z
def exP (sub : Nat → Nat → Bool) (nf : Nat) (call : CallF) (ms : List Nat) : Nat → StF
  | 0 => fun _ _ _ => .bad
  | n + 1 => exL (exStep sub ms ((evP nf call n).1 ms) ((evP nf call n).2 ms) (exP sub nf call ms n))

/-! ### defs -/
structure FnI where
  name : String
  ar : Nat
  nloc : Nat
  clean : Bool
  body : List St
structure Prg where
  fns : List FnI
  sub : Nat → Nat → Bool
def fuel : Nat := 40
def finish (m : Nat) (r : RS) : R D := match r with
  | .ok .next _ S => .ok .non (S.take m)
  | .ok (.ret d) _ S => (match unbox m S deep d with | some v => .ok v (S.take m) | none => .bad)
  | .exc c p _ S => (match unbox m S deep p with | some v => .exc c v (S.take m) | none => .bad)
  | _ => .bad
def finishI (r : RS) : R D := match r with
  | .ok .next _ S => .ok .non S
  | .ok (.ret d) _ S => .ok d S
  | .exc c p _ S => .exc c p S
  | _ => .bad
def callK (P : Prg) : Nat → CallF
  | 0 => fun _ _ _ _ => .bad
  | k + 1 => fun f args ms S => match P.fns[f]? with
    | none => .bad
    | some i => if args.length = i.ar then
        (let g := args.map some ++ List.replicate (i.nloc - i.ar) none
         if i.clean then finish S.length (exP P.sub P.fns.length (callK P k) (S.length :: ms) fuel i.body g S)
         else finishI (exP P.sub P.fns.length (callK P k) ms fuel i.body g S))
      else .bad
end MP

set_option linter.all false
set_option Elab.async false
set_option maxRecDepth 100000
namespace MP
open PySem L2

/-! ### keys -/
def keyD (d : D) : Option Key := match d with | .int i => some (.inl i) | .str s => some (.inr s) | _ => none
def keyDs : List D → Option (List Key)
  | [] => some []
  | d :: l => (match keyD d, keyDs l with | some a, some b => some (a :: b) | _, _ => none)
def keyT (d : D) : Option (List Key) := match d with | .tup l => keyDs l | _ => none

/-! ### what stands at an address and is not written -/
def LstAt (K : PySem.W.Frag) (β : List Addr) (H : Hp) (p : Addr) (xs : List V) : Prop := (Rd H p (.lst xs) ∧ p ∉ β) ∨ SqL K (fun _ => none) p xs
def TupAt (K : PySem.W.Frag) (β : List Addr) (H : Hp) (p : Addr) (xs : List V) : Prop := H p = some (.tup xs) ∧ p ∉ β
theorem rd_none {p : Addr} {u : HO} (h : Rd (fun _ => none) p u) : False := by rcases h with h | ⟨o, h⟩ <;> cases h
theorem LstAt.sq {K β H p xs} (h : LstAt K β H p xs) : SqL K H p xs := by
  rcases h with ⟨h, _⟩ | h | h
  · exact .inl h
  · exact (rd_none h).elim
  · exact .inr h
theorem TupAt.sq {K β H p xs} (h : TupAt K β H p xs) : SqT K H p xs := .inl (.inl h.1)

/-- the store grows, what it does not hold stays -/
structure Ext (β : List Addr) (H : Hp) (β' : List Addr) (H' : Hp) : Prop where
  pre : ∃ t, β' = β ++ t ∧ ∀ a ∈ t, H a = none
  keep : ∀ a o, H a = some o → a ∉ β → H' a = some o
  frz : ∀ a ob u, H a = some (.frz ob u) → H' a = some (.frz ob u)
theorem Ext.refl (β H) : Ext β H β H := ⟨⟨[], by simp, by simp⟩, fun _ _ h _ => h, fun _ _ _ h => h⟩
theorem Ext.nmem {β H β' H' a} {o : HO} (e : Ext β H β' H') (h : H a = some o) (hb : a ∉ β) : a ∉ β' := by
  obtain ⟨t, rfl, ht⟩ := e.pre
  intro hm
  rcases List.mem_append.mp hm with h1 | h1
  · exact hb h1
  · rw [ht a h1] at h; cases h
theorem Ext.rd {β H β' H' p} {u : HO} (e : Ext β H β' H') (h : Rd H p u) (hb : p ∉ β) : Rd H' p u ∧ p ∉ β' := by
  rcases h with h | ⟨o, h⟩
  · exact ⟨.inl (e.keep _ _ h hb), e.nmem h hb⟩
  · exact ⟨.inr ⟨o, e.keep _ _ h hb⟩, e.nmem h hb⟩
theorem LstAt.ext {K β H β' H' p xs} (e : Ext β H β' H') (h : LstAt K β H p xs) : LstAt K β' H' p xs := by
  rcases h with ⟨h, hb⟩ | h
  · exact .inl (e.rd h hb)
  · exact .inr h
theorem TupAt.ext {K β H β' H' p xs} (e : Ext β H β' H') (h : TupAt K β H p xs) : TupAt K β' H' p xs := ⟨e.keep _ _ h.1 h.2, e.nmem h.1 h.2⟩
/-- a dict that is not written -/
def DctAt (β : List Addr) (H : Hp) (p : Addr) (o : HO) : Prop := Rd H p o ∧ p ∉ β
theorem DctAt.ext {β H β' H' p o} (e : Ext β H β' H') (h : DctAt β H p o) : DctAt β' H' p o := e.rd h.1 h.2

mutual
/-- the value v is d -/
def RepD (fa : Nat → Addr) (K : PySem.W.Frag) (β : List Addr) (H : Hp) : D → V → Prop
  | .non, v => v = .non
  | .bl b, v => v = .bl b
  | .int i, v => v = .int i
  | .str s, v => v = .str s
  | .tup l, v => ∃ p xs, v = .ref p ∧ TupAt K β H p xs ∧ RepL fa K β H l xs
  | .xtp l, v => ∃ p xs o, v = .ref p ∧ H p = some (.frz o (.tup xs)) ∧ o.dict = none ∧ p ∉ β ∧ RepL fa K β H l xs
  | .lst l, v => ∃ p xs, v = .ref p ∧ LstAt K β H p xs ∧ RepL fa K β H l xs
  | .dct t ks vs, v => ∃ p us, v = .ref p ∧ RepL fa K β H vs us ∧ (if t then ∃ kk : List (List Key), ks.map keyT = kk.map some ∧ DctAt β H p (.dT (kk.zip us)) ∧ kk.length = us.length
      else ∃ kk : List Key, ks.map keyD = kk.map some ∧ DctAt β H p (.dK (kk.zip us)) ∧ kk.length = us.length)
  | .ref n, v => ∃ a, β[n]? = some a ∧ v = .ref a
  | .fn n, v => v = .ref (fa n)
def RepL (fa : Nat → Addr) (K : PySem.W.Frag) (β : List Addr) (H : Hp) : List D → List V → Prop
  | [], xs => xs = []
  | d :: l, xs => ∃ x r, xs = x :: r ∧ RepD fa K β H d x ∧ RepL fa K β H l r
end
section
variable {fa : Nat → Addr} {K : PySem.W.Frag} {β β' : List Addr} {H H' : Hp}
mutual
theorem RepD.ext (e : Ext β H β' H') : ∀ (d : D) (v : V), RepD fa K β H d v → RepD fa K β' H' d v
  | .non, _, h => by unfold RepD at h ⊢; exact h
  | .bl _, _, h => by unfold RepD at h ⊢; exact h
  | .int _, _, h => by unfold RepD at h ⊢; exact h
  | .str _, _, h => by unfold RepD at h ⊢; exact h
  | .fn _, _, h => by unfold RepD at h ⊢; exact h
  | .tup l, _, h => by
    unfold RepD at h ⊢
    obtain ⟨p, xs, rfl, h1, h2⟩ := h
    exact ⟨p, xs, rfl, h1.ext e, RepL.ext e l xs h2⟩
  | .xtp l, _, h => by
    unfold RepD at h ⊢
    obtain ⟨p, xs, o, rfl, h1, h2, h3, h4⟩ := h
    exact ⟨p, xs, o, rfl, e.keep _ _ h1 h3, h2, e.nmem h1 h3, RepL.ext e l xs h4⟩
  | .lst l, _, h => by
    unfold RepD at h ⊢
    obtain ⟨p, xs, rfl, h1, h2⟩ := h
    exact ⟨p, xs, rfl, h1.ext e, RepL.ext e l xs h2⟩
  | .dct t ks vs, _, h => by
    unfold RepD at h ⊢
    obtain ⟨p, us, rfl, h1, h2⟩ := h
    refine ⟨p, us, rfl, RepL.ext e vs us h1, ?_⟩
    cases t
    · obtain ⟨kk, a, b, c⟩ := h2
      exact ⟨kk, a, b.ext e, c⟩
    · obtain ⟨kk, a, b, c⟩ := h2
      exact ⟨kk, a, b.ext e, c⟩
  | .ref n, _, h => by
    unfold RepD at h ⊢
    obtain ⟨a, h1, rfl⟩ := h
    obtain ⟨t, rfl, _⟩ := e.pre
    refine ⟨a, ?_, rfl⟩
    rw [List.getElem?_append_left (List.getElem?_eq_some_iff.mp h1).1]
    exact h1
theorem RepL.ext (e : Ext β H β' H') : ∀ (l : List D) (xs : List V), RepL fa K β H l xs → RepL fa K β' H' l xs
  | [], _, h => by unfold RepL at h ⊢; exact h
  | d :: l, _, h => by
    unfold RepL at h ⊢
    obtain ⟨x, r, rfl, h1, h2⟩ := h
    exact ⟨x, r, rfl, RepD.ext e d x h1, RepL.ext e l r h2⟩
end
theorem RepL.length : ∀ {l : List D} {xs : List V}, RepL fa K β H l xs → l.length = xs.length
  | [], _, h => by unfold RepL at h; subst h; rfl
  | d :: l, _, h => by
    unfold RepL at h
    obtain ⟨x, r, rfl, _, h2⟩ := h
    simp [RepL.length h2]
theorem RepL.get : ∀ {l : List D} {xs : List V} {i : Nat} {d : D}, RepL fa K β H l xs → l[i]? = some d → ∃ x, xs[i]? = some x ∧ RepD fa K β H d x
  | [], _, _, _, _, e => by simp at e
  | d :: l, _, 0, _, h, e => by
    unfold RepL at h
    obtain ⟨x, r, rfl, h1, h2⟩ := h
    simp at e; subst e
    exact ⟨x, rfl, h1⟩
  | d :: l, _, i + 1, _, h, e => by
    unfold RepL at h
    obtain ⟨x, r, rfl, h1, h2⟩ := h
    simpa using RepL.get h2 (by simpa using e)
theorem RepL.get' {l : List D} {xs : List V} {i : Nat} {x : V} (h : RepL fa K β H l xs) (e : xs[i]? = some x) : ∃ d, l[i]? = some d ∧ RepD fa K β H d x := by
  have hl := h.length
  obtain ⟨h1, _⟩ := List.getElem?_eq_some_iff.mp e
  have h2 : l[i]? = some (l[i]'(by omega)) := by simp [show i < l.length by omega]
  obtain ⟨y, h3, h4⟩ := h.get h2
  rw [e] at h3; cases h3
  exact ⟨_, h2, h4⟩
theorem RepL.append : ∀ {l k : List D} {xs ys : List V}, RepL fa K β H l xs → RepL fa K β H k ys → RepL fa K β H (l ++ k) (xs ++ ys)
  | [], _, _, _, h, h' => by unfold RepL at h; subst h; simpa using h'
  | d :: l, _, _, _, h, h' => by
    unfold RepL at h
    obtain ⟨x, r, rfl, h1, h2⟩ := h
    show RepL fa K β H (d :: (l ++ _)) (x :: (r ++ _))
    unfold RepL
    exact ⟨x, _, rfl, h1, RepL.append h2 h'⟩
theorem RepL.nil : RepL fa K β H [] [] := by unfold RepL; rfl
theorem RepL.cons {d : D} {l : List D} {x : V} {xs : List V} (h1 : RepD fa K β H d x) (h2 : RepL fa K β H l xs) : RepL fa K β H (d :: l) (x :: xs) := by unfold RepL; exact ⟨x, xs, rfl, h1, h2⟩
theorem RepL.uncons {d : D} {l : List D} {xs : List V} (h : RepL fa K β H (d :: l) xs) : ∃ x r, xs = x :: r ∧ RepD fa K β H d x ∧ RepL fa K β H l r := by unfold RepL at h; exact h
theorem RepL.unnil {xs : List V} (h : RepL fa K β H [] xs) : xs = [] := by unfold RepL at h; exact h
theorem RepL.set : ∀ {l : List D} {xs : List V} {i : Nat} {d : D} {x : V}, RepL fa K β H l xs → RepD fa K β H d x → RepL fa K β H (l.set i d) (xs.set i x)
  | [], _, _, _, _, h, _ => by rw [h.unnil]; exact .nil
  | d :: l, _, 0, _, _, h, h' => by
    obtain ⟨y, r, rfl, h1, h2⟩ := h.uncons
    exact .cons h' h2
  | d :: l, _, i + 1, _, _, h, h' => by
    obtain ⟨y, r, rfl, h1, h2⟩ := h.uncons
    exact .cons h1 (RepL.set h2 h')
theorem RepL.take : ∀ {l : List D} {xs : List V} (n : Nat), RepL fa K β H l xs → RepL fa K β H (l.take n) (xs.take n)
  | _, _, 0, _ => .nil
  | [], _, n + 1, h => by rw [h.unnil]; exact .nil
  | d :: l, _, n + 1, h => by
    obtain ⟨y, r, rfl, h1, h2⟩ := h.uncons
    exact .cons h1 (RepL.take n h2)
theorem RepL.drop : ∀ {l : List D} {xs : List V} (n : Nat), RepL fa K β H l xs → RepL fa K β H (l.drop n) (xs.drop n)
  | _, _, 0, h => h
  | [], _, n + 1, h => by rw [h.unnil]; exact .nil
  | d :: l, _, n + 1, h => by
    obtain ⟨y, r, rfl, h1, h2⟩ := h.uncons
    exact RepL.drop n h2
theorem RepL.reverse : ∀ {l : List D} {xs : List V}, RepL fa K β H l xs → RepL fa K β H l.reverse xs.reverse
  | [], _, h => by rw [h.unnil]; exact .nil
  | d :: l, _, h => by
    obtain ⟨y, r, rfl, h1, h2⟩ := h.uncons
    rw [List.reverse_cons, List.reverse_cons]
    exact (RepL.reverse h2).append (.cons h1 .nil)
theorem RepL.ofInts : ∀ (ns : List Int), RepL fa K β H (ns.map D.int) (ns.map V.int)
  | [] => .nil
  | n :: r => .cons (by unfold RepD; rfl) (RepL.ofInts r)
theorem RepL.toInts : ∀ {l : List D} {xs : List V} {ns : List Int}, RepL fa K β H l xs → intsD l = some ns → xs = ns.map V.int
  | [], _, _, h, e => by
    rw [h.unnil]; simp [MP.intsD] at e; subst e; rfl
  | d :: l, _, ns, h, e => by
    obtain ⟨y, r, rfl, h1, h2⟩ := h.uncons
    cases d <;> simp [MP.intsD] at e
    obtain ⟨ms, e1, rfl⟩ := e
    unfold RepD at h1
    subst h1
    rw [RepL.toInts h2 e1]; rfl
theorem RepL.toBools : ∀ {l : List D} {xs : List V} {ns : List Bool}, RepL fa K β H l xs → boolsD l = some ns → xs = ns.map V.bl
  | [], _, _, h, e => by
    rw [h.unnil]; simp [MP.boolsD] at e; subst e; rfl
  | d :: l, _, ns, h, e => by
    obtain ⟨y, r, rfl, h1, h2⟩ := h.uncons
    cases d <;> simp [MP.boolsD] at e
    obtain ⟨ms, e1, rfl⟩ := e
    unfold RepD at h1
    subst h1
    rw [RepL.toBools h2 e1]; rfl

/-! ### the store -/
def At (lk : Bool) (H : Hp) (a : Addr) (o : HO) : Prop := if lk then ∃ ob, H a = some (.frz ob o) else H a = some o
theorem At.rd {lk H a o} (h : At lk H a o) : Rd H a o := by
  cases lk
  · exact .inl h
  · exact .inr h
theorem At.hit {lk H a o} (h : At lk H a o) : ∃ u, H a = some u := by
  cases lk
  · exact ⟨_, h⟩
  · obtain ⟨ob, h⟩ := h; exact ⟨_, h⟩
def RepO (fa : Nat → Addr) (K : PySem.W.Frag) (β : List Addr) (H : Hp) (a : Addr) (ob : Ob) : Prop := match ob.bd with
  | .lst l => ∃ xs, At ob.lk H a (.lst xs) ∧ RepL fa K β H l xs
  | .dct t l => ∃ us, RepL fa K β H (l.map (·.2)) us ∧ (if t then ∃ kk : List (List Key), (l.map (·.1)).map keyT = kk.map Option.some ∧ At ob.lk H a (.dT (kk.zip us))
      else ∃ kk : List Key, (l.map (·.1)).map keyD = kk.map Option.some ∧ At ob.lk H a (.dK (kk.zip us)))
  | .ins _ _ => False
theorem RepO.hit {a : Addr} {ob : Ob} (h : RepO fa K β H a ob) : ∃ u, H a = some u := by
  obtain ⟨lk, bd⟩ := ob
  cases bd with
  | lst l => obtain ⟨xs, h, _⟩ := h; exact h.hit
  | dct t l =>
    obtain ⟨us, _, h⟩ := h
    cases t
    · obtain ⟨_, _, h⟩ := h; exact h.hit
    · obtain ⟨_, _, h⟩ := h; exact h.hit
  | ins c fs => exact h.elim
structure RepS (fa : Nat → Addr) (K : PySem.W.Frag) (β : List Addr) (H : Hp) (S : Sto) : Prop where
  len : β.length = S.length
  nd : β.Nodup
  at_ : ∀ (n : Nat) a ob, β[n]? = some a → S[n]? = some ob → RepO fa K β H a ob
theorem RepS.get {S : Sto} (h : RepS fa K β H S) {n : Nat} {ob : Ob} (e : S[n]? = some ob) : ∃ a, β[n]? = some a ∧ RepO fa K β H a ob := by
  have h1 := (List.getElem?_eq_some_iff.mp e).1
  have h2 : β[n]? = some (β[n]'(by rw [h.len]; exact h1)) := by simp [show n < β.length by rw [h.len]; exact h1]
  exact ⟨_, h2, h.at_ n _ ob h2 e⟩
theorem RepS.hit {S : Sto} (h : RepS fa K β H S) {a : Addr} (hm : a ∈ β) : ∃ u, H a = some u := by
  obtain ⟨n, h1, h2⟩ := List.getElem_of_mem hm
  have e : β[n]? = some a := by simp [h1, h2]
  have e2 : S[n]? = some (S[n]'(by rw [← h.len]; exact h1)) := by simp [show n < S.length by rw [← h.len]; exact h1]
  exact (h.at_ n a _ e e2).hit
theorem RepS.fresh {S : Sto} (h : RepS fa K β H S) {p : Addr} (hp : H p = none) : p ∉ β := fun hm => by
  obtain ⟨u, e⟩ := h.hit hm
  rw [hp] at e; cases e

theorem Ext.trans {β₁ β₂ β₃ : List Addr} {H₁ H₂ H₃ : Hp} {S : Sto} (a : Ext β₁ H₁ β₂ H₂) (s : RepS fa K β₂ H₂ S) (b : Ext β₂ H₂ β₃ H₃) : Ext β₁ H₁ β₃ H₃ := by
  obtain ⟨t, e1, h1⟩ := a.pre
  obtain ⟨u, e2, h2⟩ := b.pre
  refine ⟨⟨t ++ u, by rw [e2, e1, List.append_assoc], fun x hx => ?_⟩, fun x o hx hb => ?_, fun x ob u hx => b.frz x ob u (a.frz x ob u hx)⟩
  · rcases List.mem_append.mp hx with h | h
    · exact h1 x h
    · cases e : H₁ x with
      | none => rfl
      | some o =>
        by_cases hb : x ∈ β₁
        · obtain ⟨w, hw⟩ := s.hit (a := x) (by rw [e1]; exact List.mem_append_left _ hb)
          rw [h2 x h] at hw; cases hw
        · have := a.keep x o e hb
          rw [h2 x h] at this; cases this
  · exact b.keep x o (a.keep x o hx hb) (a.nmem hx hb)
/-- a new object that the store does not hold -/
theorem Ext.new {p : Addr} {o : HO} (hp : H p = none) : Ext β H β (upd H p o) :=
  ⟨⟨[], by simp, by simp⟩, fun a u h _ => by rw [upd_ne (ne_of_none h hp)]; exact h, fun a ob u h => by rw [upd_ne (ne_of_none h hp)]; exact h⟩
/-- what the store holds, behind other changes -/
theorem RepO.ext {a : Addr} {ob : Ob} (e : Ext β H β' H') (hH : H' a = H a) (h : RepO fa K β H a ob) : RepO fa K β' H' a ob := by
  have at' : ∀ {o : HO}, At ob.lk H a o → At ob.lk H' a o := fun {o} x => by
    unfold At at x ⊢
    rw [hH]; exact x
  obtain ⟨lk, bd⟩ := ob
  cases bd with
  | lst l => obtain ⟨xs, h1, h2⟩ := h; exact ⟨xs, at' h1, h2.ext e⟩
  | dct t l =>
    obtain ⟨us, h1, h2⟩ := h
    refine ⟨us, h1.ext e, ?_⟩
    cases t
    · obtain ⟨kk, h3, h4⟩ := h2; exact ⟨kk, h3, at' h4⟩
    · obtain ⟨kk, h3, h4⟩ := h2; exact ⟨kk, h3, at' h4⟩
  | ins c fs => exact h.elim
theorem RepS.new {S : Sto} {p : Addr} {o : HO} (h : RepS fa K β H S) (hp : H p = none) : RepS fa K β (upd H p o) S :=
  ⟨h.len, h.nd, fun n a ob e1 e2 => (h.at_ n a ob e1 e2).ext (Ext.new hp) (upd_ne fun e => h.fresh hp (e ▸ List.mem_of_getElem? e1))⟩
/-- a new object that the store takes -/
theorem Ext.push {p : Addr} {o : HO} (hp : H p = none) : Ext β H (β ++ [p]) (upd H p o) :=
  ⟨⟨[p], rfl, by simp [hp]⟩, fun a u h _ => by rw [upd_ne (ne_of_none h hp)]; exact h, fun a ob u h => by rw [upd_ne (ne_of_none h hp)]; exact h⟩
theorem RepS.push {S : Sto} {p : Addr} {o : HO} {ob : Ob} (h : RepS fa K β H S) (hp : H p = none) (hn : RepO fa K (β ++ [p]) (upd H p o) p ob) : RepS fa K (β ++ [p]) (upd H p o) (S ++ [ob]) := by
  refine ⟨by simp [h.len], ?_, fun n a ob' e1 e2 => ?_⟩
  · exact List.nodup_append.mpr ⟨h.nd, by simp, fun a ha b hb => by simp at hb; subst hb; exact fun e => h.fresh hp (e ▸ ha)⟩
  · by_cases hn' : n < β.length
    · rw [List.getElem?_append_left hn'] at e1
      rw [List.getElem?_append_left (by rw [← h.len]; exact hn')] at e2
      exact (h.at_ n a ob' e1 e2).ext (Ext.push hp) (upd_ne fun e => h.fresh hp (e ▸ List.mem_of_getElem? e1))
    · have hlen : n = β.length := by
        have := (List.getElem?_eq_some_iff.mp e1).1
        simp at this; omega
      subst hlen
      rw [List.getElem?_append_right (Nat.le_refl _)] at e1
      rw [h.len, List.getElem?_append_right (Nat.le_refl _)] at e2
      simp at e1 e2
      subst e1 e2
      exact hn
/-- an object of the store changes -/
def NoFrz (H : Hp) (a : Addr) : Prop := ∀ ob u, H a ≠ some (.frz ob u)
theorem nofrz_of {H : Hp} {a : Addr} {o : HO} (h : H a = some o) (ho : ∀ ob u, o ≠ .frz ob u) : NoFrz H a := fun ob u e => by rw [h] at e; exact ho ob u (Option.some.inj e)
theorem Ext.upd {n : Nat} {a : Addr} {o : HO} (hn : β[n]? = some a) (nf : NoFrz H a) : Ext β H β (upd H a o) :=
  ⟨⟨[], by simp, by simp⟩, fun b u h hb => by rw [upd_ne (fun e => hb (by rw [e]; exact List.mem_of_getElem? hn))]; exact h, fun b ob u h => by rw [upd_ne (fun e => nf ob u (by rw [← e]; exact h))]; exact h⟩
theorem nodup_get {l : List Addr} (h : l.Nodup) {i j : Nat} {a : Addr} (e1 : l[i]? = some a) (e2 : l[j]? = some a) : i = j := by
  obtain ⟨h1, g1⟩ := List.getElem?_eq_some_iff.mp e1
  obtain ⟨h2, g2⟩ := List.getElem?_eq_some_iff.mp e2
  exact (List.getElem_inj h).mp (g1.trans g2.symm)
theorem RepS.upd {S : Sto} {n : Nat} {a : Addr} {o : HO} {ob : Ob} (h : RepS fa K β H S) (hn : β[n]? = some a) (nf : NoFrz H a) (hnew : RepO fa K β (upd H a o) a ob) : RepS fa K β (upd H a o) (S.set n ob) := by
  refine ⟨by simp [h.len], h.nd, fun m b ob' e1 e2 => ?_⟩
  by_cases hm : m = n
  · subst hm
    rw [hn] at e1; cases e1
    have hl : m < S.length := by rw [← h.len]; exact (List.getElem?_eq_some_iff.mp hn).1
    rw [List.getElem?_set_self hl] at e2
    cases e2
    exact hnew
  · rw [List.getElem?_set_ne (Ne.symm hm)] at e2
    exact (h.at_ m b ob' e1 e2).ext (Ext.upd hn nf) (upd_ne fun e => hm (nodup_get h.nd e1 (e ▸ hn)))

/-! ### refs below m -/
mutual
def Bl (m : Nat) : D → Prop
  | .ref n => n < m
  | .tup l => BlL m l
  | .xtp l => BlL m l
  | .lst l => BlL m l
  | .dct _ ks vs => BlL m vs
  | _ => True
def BlL (m : Nat) : List D → Prop
  | [] => True
  | d :: l => Bl m d ∧ BlL m l
end
theorem BlL.all {m : Nat} : ∀ {l : List D}, (∀ d ∈ l, Bl m d) → BlL m l
  | [], _ => by unfold BlL; trivial
  | d :: l, h => by unfold BlL; exact ⟨h d (by simp), BlL.all fun x hx => h x (by simp [hx])⟩
theorem BlL.mem {m : Nat} : ∀ {l : List D}, BlL m l → ∀ d ∈ l, Bl m d
  | [], _, _, hd => by simp at hd
  | d :: l, h, x, hx => by
    unfold BlL at h
    rcases List.mem_cons.mp hx with e | e
    · rw [e]; exact h.1
    · exact BlL.mem h.2 x e
theorem below_bl {m : Nat} : ∀ {n : Nat} {d : D}, below m n d = true → Bl m d
  | 0, _, h => by simp [below] at h
  | n + 1, d, h => by
    cases d with
    | ref k => unfold Bl; simpa [below] using h
    | tup l => unfold Bl; simp [below] at h; exact .all fun x hx => below_bl (h x hx)
    | xtp l => unfold Bl; simp [below] at h; exact .all fun x hx => below_bl (h x hx)
    | lst l => unfold Bl; simp [below] at h; exact .all fun x hx => below_bl (h x hx)
    | dct t ks vs => unfold Bl; simp [below] at h; exact .all fun x hx => below_bl (h.2 x hx)
    | _ => unfold Bl; trivial
mutual
theorem RepD.shrink {m : Nat} : ∀ (d : D) (v : V), Bl m d → RepD fa K β H d v → RepD fa K (β.take m) H d v
  | .non, _, _, h => by unfold RepD at h ⊢; exact h
  | .bl _, _, _, h => by unfold RepD at h ⊢; exact h
  | .int _, _, _, h => by unfold RepD at h ⊢; exact h
  | .str _, _, _, h => by unfold RepD at h ⊢; exact h
  | .fn _, _, _, h => by unfold RepD at h ⊢; exact h
  | .tup l, _, b, h => by
    unfold RepD at h ⊢
    unfold Bl at b
    obtain ⟨p, xs, rfl, h1, h2⟩ := h
    exact ⟨p, xs, rfl, ⟨h1.1, fun e => h1.2 (List.mem_of_mem_take e)⟩, RepL.shrink l xs b h2⟩
  | .xtp l, _, b, h => by
    unfold RepD at h ⊢
    unfold Bl at b
    obtain ⟨p, xs, o, rfl, h1, h2, h3, h4⟩ := h
    exact ⟨p, xs, o, rfl, h1, h2, fun e => h3 (List.mem_of_mem_take e), RepL.shrink l xs b h4⟩
  | .lst l, _, b, h => by
    unfold RepD at h ⊢
    unfold Bl at b
    obtain ⟨p, xs, rfl, h1, h2⟩ := h
    refine ⟨p, xs, rfl, ?_, RepL.shrink l xs b h2⟩
    rcases h1 with ⟨h1, hb⟩ | h1
    · exact .inl ⟨h1, fun e => hb (List.mem_of_mem_take e)⟩
    · exact .inr h1
  | .dct t ks vs, _, b, h => by
    unfold RepD at h ⊢
    unfold Bl at b
    obtain ⟨p, us, rfl, h1, h2⟩ := h
    refine ⟨p, us, rfl, RepL.shrink vs us b h1, ?_⟩
    cases t
    · obtain ⟨kk, x, ⟨y, z⟩, c⟩ := h2
      exact ⟨kk, x, ⟨y, fun e => z (List.mem_of_mem_take e)⟩, c⟩
    · obtain ⟨kk, x, ⟨y, z⟩, c⟩ := h2
      exact ⟨kk, x, ⟨y, fun e => z (List.mem_of_mem_take e)⟩, c⟩
  | .ref n, _, b, h => by
    unfold RepD at h ⊢
    unfold Bl at b
    obtain ⟨a, h1, rfl⟩ := h
    exact ⟨a, by rw [List.getElem?_take_of_lt b]; exact h1, rfl⟩
theorem RepL.shrink {m : Nat} : ∀ (l : List D) (xs : List V), BlL m l → RepL fa K β H l xs → RepL fa K (β.take m) H l xs
  | [], _, _, h => by unfold RepL at h ⊢; exact h
  | d :: l, _, b, h => by
    unfold RepL at h ⊢
    unfold BlL at b
    obtain ⟨x, r, rfl, h1, h2⟩ := h
    exact ⟨x, r, rfl, RepD.shrink d x b.1 h1, RepL.shrink l r b.2 h2⟩
end
mutual
/-- what is represented over β has its refs below β's length -/
theorem RepD.bl : ∀ (d : D) (v : V), RepD fa K β H d v → Bl β.length d
  | .non, _, _ => by unfold Bl; trivial
  | .bl _, _, _ => by unfold Bl; trivial
  | .int _, _, _ => by unfold Bl; trivial
  | .str _, _, _ => by unfold Bl; trivial
  | .fn _, _, _ => by unfold Bl; trivial
  | .tup l, _, h => by
    unfold RepD at h; unfold Bl
    obtain ⟨p, xs, rfl, h1, h2⟩ := h
    exact RepL.bl l xs h2
  | .xtp l, _, h => by
    unfold RepD at h; unfold Bl
    obtain ⟨p, xs, o, rfl, h1, h2, h3, h4⟩ := h
    exact RepL.bl l xs h4
  | .lst l, _, h => by
    unfold RepD at h; unfold Bl
    obtain ⟨p, xs, rfl, h1, h2⟩ := h
    exact RepL.bl l xs h2
  | .dct t ks vs, _, h => by
    unfold RepD at h; unfold Bl
    obtain ⟨p, us, rfl, h1, h2⟩ := h
    exact RepL.bl vs us h1
  | .ref n, _, h => by
    unfold RepD at h; unfold Bl
    obtain ⟨a, h1, rfl⟩ := h
    exact (List.getElem?_eq_some_iff.mp h1).1
theorem RepL.bl : ∀ (l : List D) (xs : List V), RepL fa K β H l xs → BlL β.length l
  | [], _, _ => by unfold BlL; trivial
  | d :: l, _, h => by
    unfold RepL at h; unfold BlL
    obtain ⟨x, r, rfl, h1, h2⟩ := h
    exact ⟨RepD.bl d x h1, RepL.bl l r h2⟩
end
mutual
theorem Bl.mono {m n : Nat} (h : m ≤ n) : ∀ (d : D), Bl m d → Bl n d
  | .non, _ => by unfold Bl; trivial
  | .bl _, _ => by unfold Bl; trivial
  | .int _, _ => by unfold Bl; trivial
  | .str _, _ => by unfold Bl; trivial
  | .fn _, _ => by unfold Bl; trivial
  | .tup l, b => by unfold Bl at b ⊢; exact BlL.mono h l b
  | .xtp l, b => by unfold Bl at b ⊢; exact BlL.mono h l b
  | .lst l, b => by unfold Bl at b ⊢; exact BlL.mono h l b
  | .dct t ks vs, b => by unfold Bl at b ⊢; exact BlL.mono h vs b
  | .ref k, b => by unfold Bl at b ⊢; omega
theorem BlL.mono {m n : Nat} (h : m ≤ n) : ∀ (l : List D), BlL m l → BlL n l
  | [], _ => by unfold BlL; trivial
  | d :: l, b => by unfold BlL at b ⊢; exact ⟨Bl.mono h d b.1, BlL.mono h l b.2⟩
end
def BlO (m : Nat) (ob : Ob) : Prop := match ob.bd with
  | .lst l => BlL m l
  | .dct _ l => BlL m (l.map (·.2))
  | .ins _ _ => True
def LowS (ms : List Nat) (S : Sto) : Prop := ∀ m ∈ ms, m ≤ S.length ∧ ∀ (n : Nat) ob, n < m → S[n]? = some ob → BlO m ob
theorem RepO.bl {a : Addr} {ob : Ob} (h : RepO fa K β H a ob) : BlO β.length ob := by
  obtain ⟨lk, bd⟩ := ob
  cases bd with
  | lst l => obtain ⟨xs, _, h⟩ := h; exact RepL.bl _ _ h
  | dct t l => obtain ⟨us, h, _⟩ := h; exact RepL.bl _ _ h
  | ins c fs => exact h.elim
theorem RepS.low {S : Sto} (h : RepS fa K β H S) {ms : List Nat} (l : LowS ms S) : LowS (S.length :: ms) S := fun m hm => by
  rcases List.mem_cons.mp hm with e | e
  · subst e
    refine ⟨Nat.le_refl _, fun n ob hn e => ?_⟩
    obtain ⟨a, _, r⟩ := h.get e
    rw [← h.len]
    exact r.bl
  · exact l m e
theorem LowS.push {ms : List Nat} {S : Sto} (h : LowS ms S) (ob : Ob) : LowS ms (S ++ [ob]) := fun m hm => by
  obtain ⟨h1, h2⟩ := h m hm
  refine ⟨by simp; omega, fun n o hn e => ?_⟩
  rw [List.getElem?_append_left (by omega)] at e
  exact h2 n o hn e
theorem LowS.set {ms : List Nat} {S : Sto} (h : LowS ms S) {k : Nat} {ob : Ob} (hk : ∀ m ∈ ms, k < m → BlO m ob) : LowS ms (S.set k ob) := fun m hm => by
  obtain ⟨h1, h2⟩ := h m hm
  refine ⟨by simpa using h1, fun n o hn e => ?_⟩
  by_cases hkn : k = n
  · subst hkn
    rw [List.getElem?_set_self (by omega)] at e
    cases e
    exact hk m hm hn
  · rw [List.getElem?_set_ne hkn] at e
    exact h2 n o hn e
theorem writable_bl {ms : List Nat} {n : Nat} {d : D} (h : writable ms n d = true) : ∀ m ∈ ms, n < m → Bl m d := fun m hm hn => by
  unfold writable at h
  have := List.all_eq_true.mp h m hm
  simp at this
  rcases this with h | h
  · omega
  · exact below_bl h

/-! ### environments -/
def RepE (fa : Nat → Addr) (K : PySem.W.Frag) (β : List Addr) (H : Hp) (g : GE) (σ : L2.St) : Prop :=
  g.length = σ.length ∧ ∀ (i : Nat) d, g[i]? = some (some d) → ∃ v, σ[i]? = some (some v) ∧ RepD fa K β H d v
theorem RepE.ext {g : GE} {σ : L2.St} (e : Ext β H β' H') (h : RepE fa K β H g σ) : RepE fa K β' H' g σ :=
  ⟨h.1, fun i d hi => let ⟨v, h1, h2⟩ := h.2 i d hi; ⟨v, h1, h2.ext e⟩⟩
theorem RepE.set {g : GE} {σ : L2.St} {i : Nat} {d : D} {v : V} (h : RepE fa K β H g σ) (r : RepD fa K β H d v) : RepE fa K β H (g.set i (some d)) (σ.set i (some v)) := by
  refine ⟨by simp [h.1], fun j d' hj => ?_⟩
  by_cases e : i = j
  · subst e
    by_cases hl : i < g.length
    · rw [List.getElem?_set_self hl] at hj
      cases hj
      exact ⟨v, by rw [List.getElem?_set_self (by rw [← h.1]; exact hl)], r⟩
    · rw [List.getElem?_eq_none (by simpa using hl)] at hj; cases hj
  · rw [List.getElem?_set_ne e] at hj
    obtain ⟨u, h1, h2⟩ := h.2 j d' hj
    exact ⟨u, by rw [List.getElem?_set_ne e]; exact h1, h2⟩
theorem RepE.setN {g : GE} {σ : L2.St} {i : Nat} {o : Option V} (h : RepE fa K β H g σ) : RepE fa K β H (g.set i none) (σ.set i o) := by
  refine ⟨by simp [h.1], fun j d' hj => ?_⟩
  by_cases e : i = j
  · subst e
    by_cases hl : i < g.length
    · rw [List.getElem?_set_self hl] at hj; cases hj
    · rw [List.getElem?_eq_none (by simpa using hl)] at hj; cases hj
  · rw [List.getElem?_set_ne e] at hj
    obtain ⟨u, h1, h2⟩ := h.2 j d' hj
    exact ⟨u, by rw [List.getElem?_set_ne e]; exact h1, h2⟩
theorem RepE.wipe {g : GE} {σ : L2.St} : ∀ (l : List Nat), RepE fa K β H g σ → RepE fa K β H (wipeE g l) (L2.wipe σ l)
  | [], h => h
  | i :: r, h => by
    show RepE fa K β H ((wipeE g r).set i none) ((L2.wipe σ r).set i none)
    exact (RepE.wipe r h).setN
end
end MP

set_option linter.all false
set_option Elab.async false
set_option maxRecDepth 100000
namespace MP
open PySem L2

/-- what is known of a def's text: its names by slot; the module's ints and defs; its exception classes -/
structure Sc where
  N : List Str
  gi : List (Str × Int)
  gf : List (Str × Nat)
  gc : List (Str × Nat)

def nm (c : Sc) (i : Nat) (x : Str) : Bool := decide (c.N[i]? = some x)
def isVis (sc : Scope) (x : Str) : Bool := match sc.names.lookup x with | some .local | some .cell | some .free => true | _ => false
def isLoc (sc : Scope) (x : Str) : Bool := match sc.names.lookup x with | some .local | some .cell => true | _ => false
def isGl (sc : Scope) (x : Str) : Bool := match sc.names.lookup x with | some .globalImplicit => true | _ => false
def okN (x : Str) : Bool := !(x == ("__debug__" : Str)) && !(x == ("__classdict__" : Str))
/-- a built-in's name, not the module's -/
def bltns : List Str := ["len", "tuple", "list", "all", "any", "max", "min", "sum", "abs", "int", "sorted", "dict", "str", "isinstance", "repr", "range", "enumerate", "zip", "bool"]
def biName : Bi → Str
  | .xtuple => "tuple" | .len => "len" | .tuple => "tuple" | .list => "list" | .all => "all" | .any => "any" | .max => "max" | .min => "min" | .sum => "sum" | .abs => "abs" | .int => "int" | .sorted => "sorted" | .dict => "dict" | .str => "str"
def tyName : Ty → Str
  | .tuple => "tuple" | .int => "int" | .bool => "bool" | .list => "list" | .str => "str"
def bmName : Bm → Str
  | .append => "append" | .pop => "pop" | .pop0 => "pop" | .extend => "extend" | .count => "count" | .index => "index" | .get => "get" | .update => "update"
def opOf : Bop → Operator
  | .add => .Add | .sub => .Sub | .mul => .Mult | .fdiv => .FloorDiv | .mod => .Mod | .pow => .Pow | .shl => .LShift | .shr => .RShift | .band => .BitAnd
def cmpOf : Cop → CmpOp
  | .eq => .Eq | .ne => .NotEq | .lt => .Lt | .le => .LtE | .gt => .Gt | .ge => .GtE | .isin => .In | .notin => .NotIn | .isn => .Is | .isnn => .IsNot
def isNoneE (e : Expr) : Bool := match e with | .Constant .none _ _ => true | _ => false
def gname (sc : Scope) (x : Str) (e : Expr) : Bool := match e with | .Name y _ => y == x && isGl sc x | _ => false
/-- a comparison's right side: None for is, is not -/
def cmpR (op : Cop) (e : Expr) : Bool := match op with | .isn | .isnn => isNoneE e | _ => true
/-- a def's slots of a comprehension's own names -/
def ownOf (c : Sc) (own : List Nat) : List (Str × Nat) := own.filterMap fun i => (c.N[i]?).map fun x => (x, i)

def mtPat (c : Sc) (sc : Scope) : Nat → Pat → Expr → Bool
  | 0, _, _ => false
  | f + 1, p, e => match p with
    | .v i => (match e with | .Name x _ => nm c i x && isLoc sc x | _ => false)
    | .tup l => (match e with | .Tuple es _ _ => mtPats f l es | _ => false)
where mtPats (f : Nat) : List Pat → List Expr → Bool
  | [], [] => true
  | p :: l, e :: es => mtPat c sc f p e && mtPats f l es
  | _, _ => false

mutual
def patIn (own : List Nat) : Pat → Bool
  | .v i => own.contains i
  | .tup l => patsIn own l
def patsIn (own : List Nat) : List Pat → Bool
  | [] => true
  | p :: l => patIn own p && patsIn own l
end
abbrev MtF := Scope → Ex → Expr → Bool
def mtL (M : MtF) (sc : Scope) : List Ex → List Expr → Bool
  | [], [] => true
  | x :: l, e :: es => M sc x e && mtL M sc l es
  | _, _ => false
def mtO (M : MtF) (sc : Scope) : Option Ex → Option Expr → Bool
  | none, none => true
  | some x, some e => M sc x e
  | _, _ => false
def isTup (e : Expr) : Bool := match e with | .Tuple _ _ _ => true | _ => false
/-- what is walked, for the target tg -/
def mtIt (M : MtF) (sc : Scope) (x : Ex) (tg e : Expr) : Bool := match x with
  | .rng es => (match e with
    | .Call f as [] _ => gname sc "range" f && mtL M sc es as && (as.length == 1 || as.length == 2)
    | _ => false)
  | .enum a => (match e with
    | .Call f [b] [] _ => gname sc "enumerate" f && M sc a b && isTup tg
    | _ => false)
  | .zip _ _ => false
  | x => M sc x e
/-- a subscript's index is no slice -/
def noSl (e : Expr) : Bool := match e with | .Slice _ _ _ _ => false | .Tuple _ _ _ => false | _ => true
def isStar (e : Expr) : Bool := match e with | .Starred _ _ => true | _ => false
def recvOk (e : Expr) : Bool := match e with | .Name _ _ => true | .Subscript _ _ _ => true | _ => false
def mtC2 (c : Sc) (fp : Nat) (M : MtF) (sc : Scope) (elt : Ex) (tg : Pat) (it : Ex) (ifs : List Ex) (tg1 : Pat) (it1 : Ex) (ifs1 : List Ex) (own own1 : List Nat) (e : Expr) : Bool := (match e with
    | .ListComp elt' [⟨tg', it', ifs', z⟩, ⟨tg1', it1', ifs1', z1⟩] scope _ => decide (z = 0) && decide (z1 = 0) && blkC c.N sc scope (ownOf c own) && decide ((ownOf c own).map (·.2) = own) && (match it with | .var _ => true | _ => false) && mtIt M sc it tg' it' &&
        mtPat c scope fp tg tg' && patIn own tg && mtL M (relS scope sc) ifs ifs' && decide (ifs.length ≤ 1) && M (relS scope sc) elt elt' && own1.all own.contains && mtIt M (relS scope sc) it1 tg1' it1' && (match it1 with | .var _ => false | _ => true) &&
        mtPat c scope fp tg1 tg1' && patIn own1 tg1 && mtL M (relS scope sc) ifs1 ifs1' && decide (ifs1.length ≤ 1)
    | _ => false)
def mtStep (c : Sc) (fp : Nat) (M : MtF) : MtF := fun sc x e => match x with
  | .var i => (match e with | .Name y _ => nm c i y && isVis sc y && okN y | _ => false)
  | .con d => (match e with
    | .Constant k _ _ => (match k, d with
      | .none, .non => true
      | .bool b, .bl b' => b == b'
      | .int i, .int j => i == j
      | .str s, .str t => s == t
      | _, _ => false)
    | .Name y _ => isGl sc y && okN y && (match d with
      | .int i => decide (c.gi.lookup y = some i)
      | .fn f => decide (c.gf.lookup y = some f)
      | _ => false)
    | _ => false)
  | .tup es => (match e with | .Tuple as _ _ => mtL M sc es as | _ => false)
  | .lst _ es => (match e with | .List as _ => mtL M sc es as | _ => false)
  | .dct _ ks vs => (match e with
    | .Dict kk vv _ => (match ks, vs, kk, vv with
      | [], [], [], [] => true
      | [.var i], [.con (.bl b)], [some k'], [v'] => M sc (.var i) k' && (match v' with | .Constant (.bool b') _ _ => b == b' | _ => false)
      | _, _, _, _ => false)
    | _ => false)
  | .bin op a b => (match e with | .BinOp a' o b' _ => o == opOf op && M sc a a' && M sc b b' | _ => false)
  | .neg a => (match e with | .UnaryOp .USub a' _ => M sc a a' | _ => false)
  | .not a => (match e with | .UnaryOp .Not a' _ => M sc a a' | _ => false)
  | .and es => (match e with | .BoolOp .And as _ => decide (2 ≤ es.length) && mtL M sc es as | _ => false)
  | .or es => (match e with | .BoolOp .Or as _ => decide (2 ≤ es.length) && mtL M sc es as | _ => false)
  | .cmp op a b => (match e with | .Compare a' [o] [b'] _ => o == cmpOf op && cmpR op b' && M sc a a' && M sc b b' | _ => false)
  | .cmp2 op1 op2 a b d => (match e with
    | .Compare a' [o1, o2] [b', d'] _ => o1 == cmpOf op1 && o2 == cmpOf op2 && M sc a a' && M sc b b' && M sc d d'
    | _ => false)
  | .reprEq a b => (match e with
    | .Compare (.Call f [a'] [] _) [.Eq] [.Call g [b'] [] _] _ => gname sc "repr" f && gname sc "repr" g && M sc a a' && M sc b b'
    | _ => false)
  | .ite t a b => (match e with | .IfExp t' a' b' _ => M sc t t' && M sc a a' && M sc b b' | _ => false)
  | .call f es => (match e with
    | .Call (.Name y _) as [] _ => isGl sc y && okN y && decide (c.gf.lookup y = some f) && mtL M sc es as && decide (1 ≤ es.length)
    | _ => false)
  | .callv i es => (match e with
    | .Call (.Name y _) as [] _ => nm c i y && isVis sc y && okN y && mtL M sc es as && decide (1 ≤ es.length)
    | _ => false)
  | .bi _ b es => (match e with
    | .Call f as [] _ => gname sc (biName b) f && mtL M sc es as && decide (1 ≤ es.length)
    | _ => false)
  | .bm k o es => (match e with
    | .Call (.Attribute o' n p) as [] q => n == bmName k && recvOk o' && M sc o o' && mtL M sc es as && (p.endLine == q.line) && decide (1 ≤ es.length) && decide (es.length < 20)
    | _ => false)
  | .isin a t => (match e with
    | .Call f [a', y] [] _ => gname sc "isinstance" f && M sc a a' && gname sc (tyName t) y
    | _ => false)
  | .ix o i => (match e with | .Subscript o' i' _ => M sc o o' && M sc i i' && noSl i' | _ => false)
  | .sl o lo hi => (match e with
    | .Subscript o' (.Slice lo' hi' none _) _ => M sc o o' && mtO M sc lo lo' && mtO M sc hi hi'
    | _ => false)
  | .comp _ elt tg it ifs own => (match e with
    | .ListComp elt' [⟨tg', it', ifs', z⟩] scope _ => decide (z = 0) && blkC c.N sc scope (ownOf c own) && decide ((ownOf c own).map (·.2) = own) && mtIt M sc it tg' it' &&
        mtPat c scope fp tg tg' && patIn own tg && mtL M (relS scope sc) ifs ifs' && decide (ifs.length ≤ 1) && M (relS scope sc) elt elt'
    | _ => false)
  | .comp2 _ elt tg it ifs tg1 it1 ifs1 own own1 => mtC2 c fp M sc elt tg it ifs tg1 it1 ifs1 own own1 e
  | .rngv _ b es => (match e with
    | .Call f [.Call f2 [a'] [] _] [] _ => gname sc "tuple" f && gname sc "range" f2 && (match b with | .tuple => true | _ => false) && (match es with | [a] => M sc a a' | _ => false)
    | _ => false)
  | .rng _ | .enum _ | .zip _ _ => false
def mtE (c : Sc) : Nat → MtF
  | 0 => fun _ _ _ => false
  | f + 1 => mtStep c f (mtE c f)

abbrev MtS := List St → List Stmt → Bool
def isComp (e : Expr) : Bool := match e with | .ListComp _ _ _ _ => true | .SetComp _ _ _ _ => true | .DictComp _ _ _ _ _ => true | _ => false
def mtNames (c : Sc) (sc : Scope) : List Nat → List Expr → Bool
  | [], [] => true
  | i :: l, .Name y _ :: es => nm c i y && isLoc sc y && mtNames c sc l es
  | _, _ => false
def lkLoc (sc : Scope) (x : Str) : Bool := match sc.names.lookup x with | some .local => true | _ => false
/-- a tuple's target in which a name is no plain local one -/
def someCell (sc : Scope) (g : Expr) : Bool := match g with
  | .Tuple ts _ _ => ts.any fun t => match t with | .Name y _ => !(lkLoc sc y) | _ => true
  | .List _ _ => false
  | _ => true
/-- the stores are not swapped -/
def noSwap (sc : Scope) (g v : Expr) : Bool := !isTup v || someCell sc g
def mtSStep (c : Sc) (sc : Scope) (fp : Nat) (M : MtF) (X : MtS) : St → Stmt → Bool := fun s t => match s with
  | .asg tg e => (match t with
    | .Assign [g] v _ => M sc e v && noSwap sc g v && !(match v with | .SetComp _ _ _ _ => true | .DictComp _ _ _ _ _ => true | .ListComp _ (_ :: _ :: _) _ _ => true | _ => false) && (match tg with
      | .p p => mtPat c sc fp p g
      | .sub o i => (match g with | .Subscript o' i' _ => M sc o o' && M sc i i' && noSl i' && !isComp v | _ => false))
    | _ => false)
  | .par l es => (match t with
    | .Assign [.Tuple [.Name x px, .Name y py, .Name z pz] _ _] (.Tuple [a, b, d] _ _) _ => (match l with
      | [i, j, q] => nm c i x && nm c j y && nm c q z && lkLoc sc x && lkLoc sc y && lkLoc sc z && decide (px.line = py.line) && decide (px.line = pz.line) && !(x == y) && !(x == z) && !(y == z) &&
          !([a, b, d].all (foldedForSure 8)) && !([a, b, d].all (constantsAlone 8)) && decide (i ≠ j) && decide (i ≠ q) && decide (j ≠ q) && mtL M sc es [a, b, d]
      | _ => false)
    | _ => false)
  | .aug i op e => (match t with | .AugAssign (.Name y _) o v _ => nm c i y && isLoc sc y && isVis sc y && okN y && o == opOf op && M sc e v | _ => false)
  | .ex e => (match t with | .Expr v _ => M sc e v && !isComp v | _ => false)
  | .ret e => (match t with | .Return (some v) _ => M sc e v | _ => false)
  | .retn => (match t with | .Return none _ => true | _ => false)
  | .ite k a b => (match t with | .If k' a' b' _ => M sc k k' && X a a' && X b b' | _ => false)
  | .whl k b => (match t with | .While k' b' [] _ => M sc k k' && X b b' | _ => false)
  | .for_ tg it b => (match t with | .For g i b' [] _ => mtPat c sc fp tg g && mtIt M sc it g i && X b b' | _ => false)
  | .brk => (match t with | .Break _ => true | _ => false)
  | .cnt => (match t with | .Continue _ => true | _ => false)
  | .pass => (match t with | .Pass _ => true | _ => false)
  | .raise k e => (match t with
    | .Raise (some (.Call (.Name y _) [a] [] _)) none _ => isGl sc y && okN y && decide (c.gc.lookup y = some k) && M sc e a
    | _ => false)
  | .try_ b k i h => (match t with
    | .Try b' [.ExceptHandler (some (.Name y _)) (some n) h' _] [] [] _ => X b b' && isGl sc y && okN y && decide (c.gc.lookup y = some k) && nm c i n && okN n && (match sc.names.lookup n with | some .local => true | _ => false) &&
      (match h with
        | .fld => (match h' with | [.Return (some (.Attribute (.Name m _) a _)) _] => m == n && a == ("reason" : Str) | _ => false)
        | .con d => (match h' with | [.Return (some v) _] => M sc (.con d) v | _ => false))
    | _ => false)
def mtSL (X : St → Stmt → Bool) : List St → List Stmt → Bool
  | [], [] => true
  | s :: l, t :: r => X s t && mtSL X l r
  | _, _ => false
def mtS (c : Sc) (sc : Scope) : Nat → MtS
  | 0 => fun _ _ => false
  | f + 1 => mtSL (mtSStep c sc f (mtE c f) (mtS c sc f))
end MP

set_option Elab.async false
set_option linter.all false
set_option maxRecDepth 100000
set_option maxHeartbeats 2000000
namespace PySem
namespace ErrX
open PySem.W PySem.Calls PyProof.Rows PySem.HandSPX
/-! ### an own error over ValueError whose __init__ calls super().__init__(text) and keeps reason -/
abbrev veT : List Value := [.type "ValueError", .type "Exception", .type "BaseException", .type "object"]
def iA (p1 p2 : Pos) : Arguments := { posonlyargs := [], args := [{ arg := "self", annotation := none, pos := p1 }, { arg := "reason", annotation := none, pos := p2 }], vararg := none, kwonlyargs := [], kw_defaults := [], kwarg := none, defaults := [] }
def iB (txt : Str) (a1 a2 a3 a4 a5 a6 q1 q2 q3 q4 : Pos) : List Stmt :=
  [.Expr (.Call (.Attribute (.Call (.Name "super" a1) [] [] a2) "__init__" a3) [.Constant (.str txt) 0 a4] [] a5) a6,
   .Assign [.Attribute (.Name "self" q1) "reason" q2] (.Name "reason" q3) q4]
def iS : Scope := { kind := .function, names := [("self", .local), ("reason", .local), ("__class__", .free), ("super", .globalImplicit)], isGenerator := false, isCoroutine := false, more := [] }
def iF (q txt : Str) (p1 p2 a1 a2 a3 a4 a5 a6 q1 q2 q3 q4 : Pos) (cl cc : Addr) (doc pm ct : Value) (an : Option Addr) : FuncData :=
  { fnOf "__init__" q (iA p1 p2) (iB txt a1 a2 a3 a4 a5 a6 q1 q2 q3 q4) iS .none .none doc pm an (.ref cc) ct with closure := [("__class__", cl)] }
/-- the call of super().__init__ is a call of a method (by rfl where the places are known) -/
def MCall (txt : Str) (a1 a2 a3 a4 a5 : Pos) : Prop := ∀ env : Env, ∃ pl, eval (.Call (.Attribute (.Call (.Name "super" a1) [] [] a2) "__init__" a3) [.Constant (.str txt) 0 a4] [] a5) env = (do
          let ov ← attributeBase (.Call (.Name "super" a1) [] [] a2) "__init__" env (eval (.Call (.Name "super" a1) [] [] a2) env)
          standAt a3.atName
          let __x ← holding [ov] (getMethod ov "__init__" pl)
          match __x with
            | (f, first) => callWith a5 f first (backTo a5 (starEach [.Constant (.str txt) 0 a4] env)) [])
structure ErrTxt (P : Program) (K : Frag) (C fI : Addr) : Prop where
  cls : ∃ nm q N bs bm sn sub ab col dd k0 k1 k2 k3 k5, K.lookup C = some (excClassObj nm q C N bs bm true sn sub ab col dd k0 k1 k2 k3 k5 "ValueError.__new__") ∧ refsVE bm = true
  ei : excInitIn K C veT "ValueError.__new__" = true
  sa : findIn K (.ref C) "__setattr__" = some (some (.builtin "object.__setattr__"))
  ga : findIn K (.ref C) "__getattribute__" = some (some (.builtin "BaseException.__getattribute__"))
  gg : findIn K (.ref C) "__getattr__" = some none
  noN : findIn K (.ref C) "reason" = some none
  iC : findIn K (.ref C) "__init__" = some (some (.ref fI))
  tC : typeIn K (.ref fI) = some (.type "function")
  kC : keepIn K (.ref C) = true
  exC : subIn K (.ref C) (.type "BaseException") = some true
  veC : subIn K (.ref C) (.type "ValueError") = some true
  slf : mroIn K C (.ref C) = some true
  sup : ks_superIn K C C "__init__" = some (some (.builtin "ValueError.__init__"))
  tp : nsIn K cStatics "thirdparty.any" = some none
  tyC : typeIn K (.ref C) = some (.type "type")
  hdC : hasDictIn K C = true
  nosup : (P.main.scope.names.lookup ("super" : Str)).isSome = false
  fn : ∃ (oc : Value) (od : Option Addr) (q txt file : Str) (doc pm ct : Value) (an : Option Addr) (osl : Array (Option Value)) (p1 p2 a1 a2 a3 a4 a5 a6 q1 q2 q3 q4 : Pos) (cl cc : Addr) (ol oe : Obj) (vs : Array Value) (tq tf : Tok),
    K.lookup fI = some ⟨oc, od, .func (iF q txt p1 p2 a1 a2 a3 a4 a5 a6 q1 q2 q3 q4 cl cc doc pm ct an), osl⟩ ∧
    K.lookup cl = some ol ∧ ol.data = .cell (some (.ref C)) ∧ K.lookup cc = some oe ∧ oe.data = .fields vs ∧ vs[1]? = some (.str q tq) ∧ vs[2]? = some (.str file tf) ∧ (P.main.file == file) = true ∧ MCall txt a1 a2 a3 a4 a5
/-- what __init__ leaves of a fresh exception at x -/
structure InitEnd (h0 h' : Heap) (x C dx t1 : Addr) (v : Value) : Prop where
  keep : ∀ b o, h0.get? b = some o → h'.get? b = some o
  obj : h'.get? x = some { cls := .ref C, dict := some dx, data := .fields #[.ref t1, .none, .none, .none, .bool false, .none] }
  dbig : h0.objs.size ≤ dx
  dne : dx ≠ x
  ns : h'.Ns1 dx (fun y => if y = "reason" then some v else none)
end ErrX
namespace LowX1
theorem one_size (v : Value) : [v].length ≤ sizeLine := by
  rw [sizeLine_eq]
  exact (by decide : 1 ≤ 16777216)
end LowX1
namespace ErrX
open PySem.W PySem.Calls PyProof.Rows PySem.HandSPX
section
variable {prog : Program} {w : World} {A : Around} {E : Value → Shared → Prop} {R : Result → Shared → Prop} {s : Shared} {K : Frag} {mg mb : Str → Option Value} {C fI : Addr}
theorem err_init (T : ErrTxt prog K C fI) {h0 : Heap} {x t0 : Addr} {v : Value} (X0 : K.In h0) (hk0 : ∀ b o, h0.get? b = some o → s.heap.get? b = some o) (hx0 : h0.get? x = none) (hsz : h0.objs.size ≤ s.heap.objs.size)
    (hg : h0.Ns mainGlobals mg) (hmg : mg "super" = none) (hb : h0.Ns builtinsNs mb) (hmb : mb "super" = some (.type "super"))
    (hlim : s.heap.NoLimit) (hx : s.heap.get? x = some (excO C t0)) (hroom : A.depth < recursionLimit)
    (hq : ∀ h' tk dx t1, InitEnd h0 h' x C dx t1 v → R (.ok (.ret .none)) { s with heap := h', toks := tk }) :
    codeAny (model prog w) A (.call (.ref fI) ⟨[.ref x, v], []⟩) R s := by
  obtain ⟨oc, od, q, txt, file, doc, pm, ct, an, osl, p1, p2, a1, a2, a3, a4, a5, a6, q1, q2, q3, q4, cl, cc, ol, oe, vs, tq, tf, ho, hcl0, hol, hcc0, hoe, hvq, hvf, hfile, hmc⟩ := T.fn
  obtain ⟨plm, hpl⟩ := hmc (callEnv (iF q txt p1 p2 a1 a2 a3 a4 a5 a6 q1 q2 q3 q4 cl cc doc pm ct an) s.heap.objs.size fI)
  obtain ⟨nm, q', N, bs, bm, sn, sub, ab, col, dd, k0, k1, k2, k3, k5, hC, hbm⟩ := T.cls
  have hcl : clsIn K C = some { name := nm, bases := bs, mro := .ref C :: bm, ns := N, qualname := q', hasDict := true, slotNames := sn, subclasses := sub, abstract := ab, collection := col, hasDel := false } := by unfold clsIn; rw [hC] <;> rfl
  have Xs : K.In s.heap := fun a o e => hk0 _ _ (X0 a o e)
  refine ks_codeAny_call_defAt (binds := [("self", .ref x), ("reason", v)]) (body := iB txt a1 a2 a3 a4 a5 a6 q1 q2 q3 q4) hroom (Xs _ _ ho) rfl hlim ⟨cc, oe, vs, tq, rfl, Xs _ _ hcc0, hoe, hvq⟩ rfl (BindsTo.of_eq (by first | rfl | with_unfolding_all rfl)) ?_ ?_ (fun h₁ hn k => ?_) rfl rfl rfl
  · intro y hy
    have hy' : y ∈ iS.names := hy
    simp only [iS, List.mem_cons, List.mem_nil_iff, or_false] at hy'
    rcases hy' with rfl | rfl | rfl | rfl <;> exact fun z => by cases z
  · intro y hy
    simp only [List.mem_cons, List.mem_nil_iff, or_false] at hy
    rcases hy with rfl | rfl <;> (first | rfl | with_unfolding_all rfl)
  have k1' : ∀ b o, h0.get? b = some o → h₁.get? b = some o := fun b o e => k b o (hk0 b o e)
  have X₁ : K.In h₁ := fun a o e => k1' _ _ (X0 a o e)
  have hx₁ := k _ _ hx
  have hcell : h₁.IsCell cl (some (.ref C)) := ⟨ol, X₁ _ _ hcl0, hol⟩
  have hL0 : h0.objs.size ≤ s.heap.objs.size := hsz
  have Fr1 : Fr h0 s.heap.objs.size h₁ (fun y => List.lookup y ([("self", Value.ref x), ("reason", v)] : List (Str × Value)).reverse) := ⟨hn, k1', hsz⟩
  have hxL : x ≠ s.heap.objs.size := Nat.ne_of_lt (Heap.lt_size hx)
  have N1 : News h0 s.heap.objs.size h₁ [(x, excObj C t0 none .none)] := by
    intro p hp
    simp only [List.mem_cons, List.mem_nil_iff, or_false] at hp
    subst hp
    exact ⟨hx₁, hxL, hx0⟩
  -- super().__init__(text)
  refine ks_wpAt_execs_cons (ks_wpAt_Expr_any (ks_wpAt_MethodCall (ks_wpAt_super_base (ar := ⟨"self", none, p1⟩) rfl rfl rfl rfl (X₁ _ _ ho) rfl rfl rfl (X₁ _ _ hcc0) hoe hvf hfile T.nosup ?_) hpl))
  refine ks_loadName_global rfl rfl (Calls.loadGlobal_builtin (mg := mg) (mb := mb) (hg.at (k1' _)) hmg (hb.at (k1' _)) hmb ⟨rfl, ?_⟩)
  refine wpAny_loadName_free (c := cl) rfl rfl rfl hcell ?_
  refine wpAny_loadName_local (v := .ref x) rfl rfl hn (by first | rfl | with_unfolding_all rfl) ?_
  refine ks_wpAny_isType_cls (X₁ _ _ hC) rfl ⟨rfl, ?_⟩
  refine ks_wpAny_call_super (X₁ _ _ hC) rfl hx₁ rfl (fun c z => by cases z) (looks_mroIn X₁ T.slf) (fun h₂ hso k2 => ?_)
  have Fr2 : Fr h0 s.heap.objs.size h₂ (fun y => List.lookup y ([("self", Value.ref x), ("reason", v)] : List (Str × Value)).reverse) := ⟨hn.at (k2 _), fun b o e => k2 _ _ (k1' b o e), hsz⟩
  have z1 : s.heap.objs.size < h₁.objs.size := hn.lt
  have hsoL : h₁.objs.size ≠ s.heap.objs.size := Nat.ne_of_gt z1
  have hso0 : h0.get? h₁.objs.size = none := by
    cases e : h0.get? h₁.objs.size with
    | none => rfl
    | some o => exact absurd (Heap.lt_size (k1' _ _ e)) (Nat.lt_irrefl _)
  have N2 : News h0 s.heap.objs.size h₂ [(h₁.objs.size, ks_superObj C x C), (x, excObj C t0 none .none)] := by
    intro p hp
    simp only [List.mem_cons, List.mem_nil_iff, or_false] at hp
    rcases hp with rfl | rfl
    · exact ⟨hso, hsoL, hso0⟩
    · exact ⟨k2 _ _ hx₁, hxL, hx0⟩
  have m1 : (h₁.objs.size, ks_superObj C x C) ∈ [(h₁.objs.size, ks_superObj C x C), (x, excObj C t0 none .none)] := List.mem_cons_self
  have m2 : (x, excObj C t0 none .none) ∈ [(h₁.objs.size, ks_superObj C x C), (x, excObj C t0 none .none)] := List.mem_cons_of_mem _ List.mem_cons_self
  refine kxs_method (K := K) (B := "ValueError") (i := "ValueError.__init__") kxs_ValueError Fr2 X0 N2 m1 (InstAt.of_exc0 N2 m2) T.tp T.sup T.veC (by decide) (fun u h₃ Fr3 N3 hlt3 => ?_)
  refine kxs_callWith1 N3 List.mem_cons_self (Calls.spliced_cons (wpAny_Constant_str (k := 0) (pos := a4) (Calls.spliced_nil ⟨kxs_at N3 List.mem_cons_self, ?_⟩))) rfl rfl
  have hxne : x ≠ h₁.objs.size := Nat.ne_of_lt (Heap.lt_size hx₁)
  have hune : u ≠ x := Nat.ne_of_gt (hlt3 _ m2)
  refine kxs_call (t := t0) (dv := none) (c2 := .none) (nw := fun o' => (u, kxs_mw "ValueError.__init__" x) :: (h₁.objs.size, ks_superObj C x C) :: (x, o') :: []) Fr3 X0 N3 F.excBase_ValueError T.ei List.mem_cons_self
    (.tail hune (.tail (Ne.symm hxne) (.head fun p hp => by cases hp))) (PySem.LowX1.one_size _) (fun t1 h₄ Fr4 N4 hlt4 => ?_)
  -- self.reason = reason
  have X₄ : K.In h₄ := fun a o e => Fr4.keep _ _ (X0 a o e)
  have hx₄ : h₄.get? x = some (excO C t1) := (N4 (x, excObj C t1 none .none) (List.mem_cons_of_mem _ (List.mem_cons_of_mem _ (List.mem_cons_of_mem _ List.mem_cons_self)))).1
  refine wpAt_of_wpAny (wpAny_execs_cons (plainObj_wpAny_Assign_Attribute ?_))
  refine wpAny_Name (wpAny_loadName_local (v := v) rfl rfl Fr4.ns (by first | rfl | with_unfolding_all rfl) ?_) (by decide)
  refine wpAny_Name (wpAny_loadName_local (v := .ref x) rfl rfl Fr4.ns (by first | rfl | with_unfolding_all rfl) ?_) (by decide)
  refine set_plain X₄ (ox := excO C t1) (od := none) ⟨hx₄, rfl, rfl, trivial⟩ T.sa ?_
  refine exc_osa X₄ hx₄ hcl (show refsVE (.ref C :: bm) = true from hbm) rfl T.noN (fun h₅ tk₅ dx k₅ dn dne hx₅ hn₅ => ?_)
  show wpAny _ _ (execs _ _) _ _ _
  have zL : s.heap.objs.size < h₄.objs.size := Fr4.ns.lt
  refine wpAny_execs_nil (hq h₅ tk₅ dx t1 ⟨fun b o e => k₅ b o (fun z => by rw [z, hx0] at e; cases e) (Fr4.keep b o e), hx₅, Nat.le_trans hsz (Nat.le_of_lt (Nat.lt_of_lt_of_le zL dn)), dne, hn₅⟩)
/-- a made error -/
structure OwnMade (h h' : Heap) (e C d : Addr) (v : Value) : Prop where
  keep : ∀ b o, h.get? b = some o → h'.get? b = some o
  new : h.objs.size ≤ e
  obj : ∃ oe vs, h'.get? e = some oe ∧ oe.cls = .ref C ∧ oe.dict = some d ∧ oe.data = .fields vs ∧ vs[1]? = some .none
  dbig : h.objs.size ≤ d
  dne : d ≠ e
  ns : h'.Ns1 d (fun y => if y = "reason" then some v else none)
theorem err_made (T : ErrTxt prog K C fI) {v : Value} (X : K.In s.heap) (hg : s.heap.Ns mainGlobals mg) (hmg : mg "super" = none) (hb : s.heap.Ns builtinsNs mb) (hmb : mb "super" = some (.type "super"))
    (hlim : s.heap.NoLimit) (hroom : A.depth + 1 < recursionLimit)
    (hq : ∀ h' tk e d, OwnMade s.heap h' e C d v → R (.ok (.ret (.ref e))) { s with heap := h', toks := tk }) :
    codeAny (model prog w) A (.call (.ref C) ⟨[v], []⟩) R s := by
  obtain ⟨nm, q, N, bs, bm, sn, sub, ab, col, dd, k0, k1, k2, k3, k5, hC, hbm⟩ := T.cls
  obtain ⟨hp, g, dr, tk, os⟩ := s
  have k : ∀ b o, hp.get? b = some o → ((hp.push (kdv_tup [v])).push (excO C hp.objs.size)).get? b = some o := fun b o e => Heap.get?_push_of_some _ (Heap.get?_push_of_some _ e)
  have hget : ((hp.push (kdv_tup [v])).push (excO C hp.objs.size)).get? (hp.objs.size + 1) = some (excO C hp.objs.size) := by heap_get
  have hnx : hp.get? (hp.objs.size + 1) = none := by
    cases e : hp.get? (hp.objs.size + 1) with
    | none => rfl
    | some o => exact absurd (Nat.lt_of_succ_lt (Heap.lt_size e)) (Nat.lt_irrefl _)
  have hsz : hp.objs.size ≤ ((hp.push (kdv_tup [v])).push (excO C hp.objs.size)).objs.size := by rw [Heap.size_push, Heap.size_push]; omega
  refine call_own F.excBase_ValueError (fun X => refsVE_contains X bm hbm) (X _ _ hC) (looks_findIn X T.iC) (fun self => bind_fn X self T.tC) (PySem.LowX1.one_size v) ?_
  refine err_init (s := ⟨(hp.push (kdv_tup [v])).push (excO C hp.objs.size), g, dr, tk, os⟩) (h0 := hp) T X k hnx hsz hg hmg hb hmb (hlim.keeps k) hget ?_ fun h' tk' dx t1 M => ?_
  · show A.depth + 1 < recursionLimit
    exact hroom
  · exact ⟨rfl, hq h' tk' (hp.objs.size + 1) dx ⟨M.keep, Nat.le_succ _, ⟨_, _, M.obj, rfl, rfl, rfl, rfl⟩, M.dbig, M.dne, M.ns⟩⟩
end
end ErrX
end PySem
namespace L2
open PySem PySem.Spec PyProof.Rows
theorem relO_err {v : V} {v' : Value} (r : RelV v v') (f : Str) : RelO (List.lookup f [(("reason" : Str), v)]) (if f = "reason" then some v' else none) := by
  by_cases hw : f = "reason"
  · subst hw
    rw [if_pos rfl]
    have q : List.lookup ("reason" : Str) [(("reason" : Str), v)] = some v := by simp [List.lookup]
    rw [q]
    exact r
  · rw [if_neg hw]
    have qw : (f == ("reason" : Str)) = false := by simpa using hw
    have q2 : List.lookup f [(("reason" : Str), v)] = none := by simp [List.lookup, qw]
    rw [q2]
    trivial
section
variable {X : Cx} {C fI : Addr}
def tMkErr (C : Addr) (ta : TA) : St → Hp → XK → Prop := fun σ H Q => ta σ H fun vs H1 => ∃ v, vs = [v] ∧ ∀ d, H1 d = none → Q (.ref C) (some d) (upd H1 d (.xd [(("reason" : Str), v)]))
theorem pmk_err {a : Expr} {ta : TA} {x : Str} {p pos : Pos} {k : Nat} (T : PySem.ErrX.ErrTxt X.prog X.K C fI) (gC : X.mg x = some (.ref C)) (hms : X.mg "super" = none) (hr : Room k X.A) (ha : PA X [a] ta) (hg : Gl X x) (hdb : (x == ("__debug__" : Str)) = false)
    (he : starEach (a :: []) X.env = (false, eval a X.env) :: starEach [] X.env) (hpl : (backTo pos (starEach [] X.env)).any (·.1) = false) :
    PMk X (.Call (.Name x p) [a] [] pos) (tMkErr C ta) := by
  intro pins s σ H Q I h
  refine wpAny_Call_Name_kw (ld_glob I hg gC ?_ hdb)
  refine PySem.W.callWith_K (h₀ := X.base) I.ok.mod.kin T.kC (thn (ha.run pos pins s σ H _ I h) fun us s1 hh => ?_) he hpl
  obtain ⟨vs, H1, I1, r1, v, ev, q1⟩ := hh
  subst ev
  refine ⟨I1.kIn, ?_⟩
  cases r1 with
  | cons rv rn =>
    rename_i v' us'
    cases rn
    show wpAny _ _ (call (.ref C) [v']) _ _ _
    have hlim := I1.nolimit
    obtain ⟨hp, g, dr, tk, os⟩ := s1
    obtain ⟨mb, hb1, hb2⟩ := I1.ok.mod.blt
    refine wpAny_call (PySem.ErrX.err_made (mg := X.mg) (mb := mb) T I1.kIn (I1.ok.mod.glob.at (I1.bk _)) hms (hb1.at (I1.bk _)) (by rw [hb2 _ (by decide)]; rfl) hlim (by have := hr.dp; omega) fun h' tk' e d M => ?_)
    show MkP X pins σ Q (.ref e) ⟨h', g, dr, tk', os⟩
    obtain ⟨oe, fv, hoe, hc, hd, hdat, h1⟩ := M.obj
    have hns := M.ns
    obtain ⟨G', g1, g2⟩ := restrict h' fun b => decide (b ≠ e)
    have gk : ∀ b, b ≠ e → G'.get? b = h'.get? b := fun b hb => g1 b (decide_eq_true hb)
    have ge : G'.get? e = none := g2 e (by simp)
    have old : ∀ b o, hp.get? b = some o → G'.get? b = some o := fun b o q => (gk b (Nat.ne_of_lt (Nat.lt_of_lt_of_le (Heap.lt_size q) M.new))).trans (M.keep b o q)
    have ob : ObjOk X.prog X.w (upd H1 d (.xd [(("reason" : Str), v)])) G' d (.xd [(("reason" : Str), v)]) :=
      ⟨_, hns.at (fun o q => (gk d M.dne).trans q), fun f => relO_err rv f⟩
    have J : Inv X pins σ (upd H1 d (.xd [(("reason" : Str), v)])) ⟨G', g, dr, tk', os⟩ := I1.laid (t' := tk') old M.dbig ob
    refine ⟨e, oe, fv, ⟨G', g, dr, tk', os⟩, _, .ref C, some d, rfl, J, fun b o q => ?_, ge, hoe, ⟨hc, hd⟩, hdat, h1, ?_, rfl, I1.bare, raises_own T.exC T.tyC, q1 d (I1.hok.fresh M.dbig)⟩
    · by_cases hb : b = e
      · have q' : G'.get? b = some o := q
        rw [hb, ge] at q'; cases q'
      · exact (gk b hb).symm.trans q
    · rw [upd_ne (Ne.symm M.dne)]
      exact I1.hok.fresh M.new
end
end L2

set_option linter.all false
set_option Elab.async false
set_option maxRecDepth 100000
namespace MP
open PySem PySem.Spec PyProof.Rows L2

structure Tab where
  prg : Prg
  fa : Nat → Addr
  ca : Nat → Addr
  fld : Nat → Str

def GoodE {α : Type} (r : R α) (P : α → Sto → Prop) (E : Nat → D → Sto → Prop) : Prop := match r with
  | .ok a s => P a s
  | .exc c p s => E c p s
  | .bad => False
theorem GoodE.bind {α γ : Type} {r : R α} {k : α → Sto → R γ} {P : γ → Sto → Prop} {E : Nat → D → Sto → Prop} (h : GoodE (r.bind k) P E) : GoodE r (fun a s => GoodE (k a s) P E) E := by
  cases r <;> exact h
theorem GoodE.mono {α : Type} {r : R α} {P P' : α → Sto → Prop} {E E' : Nat → D → Sto → Prop} (h : GoodE r P E) (hp : ∀ a s, P a s → P' a s) (he : ∀ c p s, E c p s → E' c p s) : GoodE r P' E' := by
  cases r with
  | ok a s => exact hp _ _ h
  | exc c p s => exact he _ _ _ h
  | bad => exact h
/-- the state behind -/
structure Fin (T : Tab) (K : PySem.W.Frag) (ms : List Nat) (β : List Addr) (H : Hp) (β' : List Addr) (H' : Hp) (S' : Sto) : Prop where
  ext : Ext β H β' H'
  st : RepS T.fa K β' H' S'
  low : LowS ms S'
theorem Fin.trans {T : Tab} {K ms β H β' H' S' β'' H'' S''} (a : Fin T K ms β H β' H' S') (b : Fin T K ms β' H' β'' H'' S'') : Fin T K ms β H β'' H'' S'' :=
  ⟨a.ext.trans a.st b.ext, b.st, b.low⟩
/-- what is wanted of a value, of an exception -/
def PV (T : Tab) (K : PySem.W.Frag) (ms : List Nat) (β : List Addr) (H : Hp) (Q : VK) : D → Sto → Prop := fun d S' =>
  ∀ β' H' x, Fin T K ms β H β' H' S' → RepD T.fa K β' H' d x → Q x H'
def PVL (T : Tab) (K : PySem.W.Frag) (ms : List Nat) (β : List Addr) (H : Hp) (Q : List V → Hp → Prop) : List D → Sto → Prop := fun d S' =>
  ∀ β' H' x, Fin T K ms β H β' H' S' → RepL T.fa K β' H' d x → Q x H'
def PB (T : Tab) (K : PySem.W.Frag) (ms : List Nat) (β : List Addr) (H : Hp) (Q : Bool → Hp → Prop) : Bool → Sto → Prop := fun d S' =>
  ∀ β' H', Fin T K ms β H β' H' S' → Q d H'
def PX (T : Tab) (K : PySem.W.Frag) (ms : List Nat) (β : List Addr) (H : Hp) (E : Value → Option Addr → Hp → Prop) : Nat → D → Sto → Prop := fun c p S' =>
  ∀ β' H' dx v, Fin T K ms β H β' H' S' → RepD T.fa K β' H' p v → H' dx = some (.xd [(T.fld c, v)]) → E (.ref (T.ca c)) (some dx) H'
/-- the promise of def f at level k -/
def spF (T : Tab) (K : PySem.W.Frag) (k f : Nat) : Sp := fun vs H Q E => ∃ β ms S args i, RepS T.fa K β H S ∧ LowS ms S ∧ RepL T.fa K β H args vs ∧ T.prg.fns[f]? = some i ∧ args.length = i.ar ∧
  GoodE (callK T.prg k f args ms S) (PV T K ms β H Q) (PX T K ms β H E)

/-- a def's promise, called where no repr is under way -/
structure FnG (P : Program) (w : World) (K : PySem.W.Frag) (mg : Str → Option Value) (base : Heap) (k : Nat) (f : Addr) (fd : FuncData) (ps : List Str) (sp : Sp) : Prop where
  len : ∀ vs H Q E, sp vs H Q E → vs.length = ps.length
  run : ∀ (A : Around) (outer : List Env) (s : Shared) (H : Hp) (args : Args) (us : List Value) (vs : List V) (Q : VK) (E : XK), A.guards = some [] → Room k A → Env0 P w K mg base A outer s H → BindsTo s fd args (ps.zip us) → Vals vs us → sp vs H Q E →
    codeAny (model P w) A (.call (.ref f) args) (CR (CX P w) outer P w H s Q E) s
theorem FnG.mono {P w K mg base j k f fd ps sp} (F : FnG P w K mg base j f fd ps sp) (h : j ≤ k) : FnG P w K mg base k f fd ps sp :=
  ⟨F.len, fun A outer s H args us vs Q E hg hr => F.run A outer s H args us vs Q E hg (hr.mono h)⟩

/-- a call of such a def, in a context of ours -/
theorem run_fnG {X : Cx} {k : Nat} {f : Addr} {fd : FuncData} {ps : List Str} {sp : Sp} {pins : List (Addr × Obj)} {σ : L2.St} {H : Hp} {s : Shared} {Q : VK} {us : List Value} {vs : List V}
    (F : FnG X.prog X.w X.K X.mg X.base k f fd ps sp) (hg : X.A.guards = some []) (hr : Room k X.A) (hb : Binds X.K fd ps []) {W : WX} (tk : Takes X W)
    (I : Inv X pins σ H s) (r : Vals vs us) (h : sp vs H Q (fun c d H' => W c d σ H')) : wpAny (model X.prog X.w) X.A (call (.ref f) us) (EP X pins σ Q) X.xe s := by
  have hl : us.length = ps.length := r.length ▸ F.len _ _ _ _ h
  have b : BindsTo s fd ⟨us, []⟩ (ps.zip us) := by
    have := hb s us I.kIn (by simpa using hl)
    simpa using this
  refine wpAny_call (codeAny_mono (F.run X.A X.stack s H ⟨us, []⟩ us vs Q _ hg hr I.env0 b r h) fun res s' hq => ?_)
  match res, hq with
  | .error e, hq => exact passAt tk σ pins H s e s' I hq
  | .ok (.ret u), hq => exact I.after hq
  | .ok .next, hq => exact hq.elim
  | .ok .brk, hq => exact hq.elim
  | .ok .cont, hq => exact hq.elim

/-- a def by its body -/
theorem fnG_of {P : Program} {w : World} {K : PySem.W.Frag} {mg : Str → Option Value} {base : Heap} {k : Nat} {f : Addr} {name qual : Str} {params : Arguments} {body : List Stmt} {scope : Scope} {dV kV doc pm cdv ct oc : Value} {an od : Option Addr}
    {osl : Array (Option Value)} {N ps : List Str} {sp : Sp} (lk : K.lookup f = some ⟨oc, od, .func (PySem.W.fnOf name qual params body scope dV kV doc pm an cdv ct), osl⟩) (hcd : PySem.W.codeIn K cdv qual = true) (S : FnScope N ps scope)
    (len : ∀ vs H Q E, sp vs H Q E → vs.length = ps.length)
    (hbody : ∀ (A : Around) (outer : List Env) (s : Shared) (H : Hp) (vs : List V) (Q : VK) (E : XK), A.guards = some [] → Room k (A.deeper (envOfC qual scope s.heap.objs.size f cdv)) → sp vs H Q E →
      ∃ t, PSs (cxOf (CX P w) P w K mg base N qual scope f cdv A outer s H E) body t ∧ t { nx := fun _ H' => Q .non H', rt := Q } (start N vs) H) :
    FnG P w K mg base (k + 1) f (PySem.W.fnOf name qual params body scope dV kV doc pm an cdv ct) ps sp := by
  constructor
  · exact len
  intro A outer s H args us vs Q E hgu hr e0 hb r hsp
  have KX : K.In s.heap := e0.mod.kin.keeps fun b o e => (e0.bs b o e).1
  have lim : s.heap.NoLimit := e0.mod.nolimit.keeps fun b o e => (e0.bs b o e).1
  have hkind : ∀ y ∈ ps.zip us, scope.names.lookup y.1 = some .local ∨ (scope.names.lookup y.1 = some .cell ∧ ((cellsFrom (s.heap.objs.size + 1) scope.names []).lookup y.1).isSome = true) := by
    rintro ⟨n, v⟩ hy
    rcases S.par n (List.of_mem_zip hy).1 with q | q
    · exact Or.inl q
    · exact Or.inr ⟨q, PySem.W.cellsFrom_some _ _ _ (Or.inl q)⟩
  refine codeAny_call_function hr.depth (KX _ _ lk) rfl S.co S.gen rfl (PySem.W.codeRec_of KX hcd) (hb _ _ _ _ (wpAny_newFunctionEnv_cells S.kind hkind fun env he s1 x => ?_))
  subst he
  refine ⟨lim.keeps x.toInCall.keep, codeAny_func ?_⟩
  obtain ⟨t, ht, hq⟩ := hbody A outer s H vs Q E hgu (hr.deeper _) hsp
  have I := inv_start (CX := CX P w) (qual := qual) (E := E) (f := f) (cd := cdv) S hr.hd e0 (len _ _ _ _ hsp) r x
  refine wpAny_mono (ht.run [] s1 (start N vs) H _ I hq) (fun fl s' hs => ?_) fun e s' hs => hs
  match fl, hs with
  | .ret u, ⟨v, σ', H', J, rv, q⟩ => exact ⟨v, H', J.os, J.bare, J.base, J.hok, rv, q⟩
  | .next, ⟨σ', H', J, q⟩ => exact ⟨.non, H', J.os, J.bare, J.base, J.hok, rfl, q⟩
  | .brk, ⟨_, _, _, q⟩ => exact q.elim
  | .cont, ⟨_, _, _, q⟩ => exact q.elim

/-- what is known of a def -/
structure FnLk (T : Tab) (K : PySem.W.Frag) (mg : Str → Option Value) (c : Sc) (f : Nat) (i : FnI) (fd : FuncData) (ps : List Str) : Prop where
  keep : PySem.W.keepIn K (.ref (T.fa f)) = true
  binds : Binds K fd ps []
  len : ps.length = i.ar
/-- the def names, the module's ints, classes -/
structure Link (T : Tab) (K : PySem.W.Frag) (mg : Str → Option Value) (c : Sc) : Prop where
  gi : ∀ x i, c.gi.lookup x = some i → ∃ t, mg x = some (.int i t)
  gf : ∀ x f, c.gf.lookup x = some f → mg x = some (.ref (T.fa f))
  bl : ∀ x ∈ bltns, mg x = none
  gfl : ∀ x f, c.gf.lookup x = some f → f < T.prg.fns.length
/-- what is known of the classes of our own errors -/
structure ErrL (T : Tab) (P : Program) (K : PySem.W.Frag) (mg : Str → Option Value) (c : Sc) : Prop where
  sup : mg "super" = none
  gc : ∀ y kc, c.gc.lookup y = some kc → mg y = some (.ref (T.ca kc))
  err : ∀ kc, T.fld kc = "reason" ∧ ∃ fI, PySem.ErrX.ErrTxt P K (T.ca kc) fI
  exm : ∀ y kc kc', c.gc.lookup y = some kc → PySem.W.exmOne K (.ref (T.ca kc')) (.ref (T.ca kc)) = some (T.prg.sub kc' kc)
/-- a context of ours: of the def's text c, at level k, exceptions wished by W -/
structure Ctx (T : Tab) (c : Sc) (k : Nat) (W : WX) (X : Cx) : Prop where
  calm : X.calm = true
  nd : X.N.Nodup
  names : X.N = c.N
  room : Room k X.A
  guards : X.A.guards = some []
  takes : Takes X W
  link : Link T X.K X.mg c
  fns : ∀ f i, T.prg.fns[f]? = some i → ∃ fd ps, FnG X.prog X.w X.K X.mg X.base k (T.fa f) fd ps (spF T X.K k f) ∧ PySem.W.keepIn X.K (.ref (T.fa f)) = true ∧ Binds X.K fd ps []
  errl : ErrL T X.prog X.K X.mg c
theorem Ctx.hu {T c k W X} (h : Ctx T c k W X) : X.A.units + 64 < cLine := h.room.units
theorem takes_none (X : Cx) : Takes X (fun _ _ _ _ => False) := fun u s' ⟨_, _, _, _, _, _, _, _, _, _, _, _, _, _, _, _, w⟩ => w.elim
/-- within a comprehension -/
theorem Ctx.blk {T c k W X} (h : Ctx T c k W X) (s : Shared) (H : Hp) (scope : Scope) (cenv : Env) (fp : List Addr) : Ctx T c k (fun _ _ _ _ => False) (X.blk s H scope cenv fp) where
  calm := h.calm
  nd := h.nd
  names := h.names
  room := h.room
  guards := h.guards
  takes := takes_none _
  link := h.link
  fns := h.fns
  errl := h.errl
end MP

set_option linter.all false
set_option Elab.async false
set_option maxRecDepth 100000
namespace MP
open PySem PySem.Spec PyProof.Rows L2
variable {T : Tab} {X : Cx} {c : Sc} {k : Nat} {W : WX}

theorem _root_.L2.PE.imp {X : Cx} {e : Expr} {t t' : TE} (h : PE X e t) (i : ∀ σ H Q, t' σ H Q → t σ H Q) : PE X e t' := ⟨fun pins s σ H Q I q => h.run pins s σ H Q I (i σ H Q q)⟩
theorem _root_.L2.PT.imp {X : Cx} {e : Expr} {t t' : TT} (h : PT X e t) (i : ∀ σ H Q, t' σ H Q → t σ H Q) : PT X e t' := ⟨fun pins s σ H Q I q => h.run pins s σ H Q I (i σ H Q q)⟩
theorem _root_.L2.PA.imp {X : Cx} {e : List Expr} {t t' : TA} (h : PA X e t) (i : ∀ σ H Q, t' σ H Q → t σ H Q) : PA X e t' := ⟨fun pos pins s σ H Q I q => h.run pos pins s σ H Q I (i σ H Q q)⟩
theorem _root_.L2.PS.imp {X : Cx} {e : Stmt} {t t' : TS} (h : PS X e t) (i : ∀ D σ H, t' D σ H → t D σ H) : PS X e t' := ⟨fun pins s σ H D I q => h.run pins s σ H D I (i D σ H q)⟩

theorem line_sz : (16777216 : Nat) = sizeLine := by rw [sizeLine_eq]
theorem lineOk_le {n : Nat} (h : lineOk n = true) : n ≤ sizeLine := by rw [← line_sz]; simpa [lineOk] using h

/-! ### a value by its kind -/
section
variable {fa : Nat → Addr} {K : PySem.W.Frag} {β : List Addr} {H : Hp}
theorem RepD.int_ {i : Int} {v : V} (h : RepD fa K β H (.int i) v) : v = .int i := by unfold RepD at h; exact h
theorem RepD.bl_ {i : Bool} {v : V} (h : RepD fa K β H (.bl i) v) : v = .bl i := by unfold RepD at h; exact h
theorem RepD.str_ {i : Str} {v : V} (h : RepD fa K β H (.str i) v) : v = .str i := by unfold RepD at h; exact h
theorem RepD.non_ {v : V} (h : RepD fa K β H .non v) : v = .non := by unfold RepD at h; exact h
theorem RepD.fn_ {n : Nat} {v : V} (h : RepD fa K β H (.fn n) v) : v = .ref (fa n) := by unfold RepD at h; exact h
theorem RepD.tup_ {l : List D} {v : V} (h : RepD fa K β H (.tup l) v) : ∃ p xs, v = .ref p ∧ TupAt K β H p xs ∧ RepL fa K β H l xs := by unfold RepD at h; exact h
theorem RepD.lst_ {l : List D} {v : V} (h : RepD fa K β H (.lst l) v) : ∃ p xs, v = .ref p ∧ LstAt K β H p xs ∧ RepL fa K β H l xs := by unfold RepD at h; exact h
theorem RepD.ref_ {n : Nat} {v : V} (h : RepD fa K β H (.ref n) v) : ∃ a, β[n]? = some a ∧ v = .ref a := by unfold RepD at h; exact h
theorem RepD.xtp_ {l : List D} {v : V} (h : RepD fa K β H (.xtp l) v) : ∃ p xs o, v = .ref p ∧ H p = some (.frz o (.tup xs)) ∧ o.dict = none ∧ p ∉ β ∧ RepL fa K β H l xs := by unfold RepD at h; exact h
theorem rep_int (i : Int) : RepD fa K β H (.int i) (.int i) := by unfold RepD; rfl
theorem rep_bl (i : Bool) : RepD fa K β H (.bl i) (.bl i) := by unfold RepD; rfl
theorem rep_str (i : Str) : RepD fa K β H (.str i) (.str i) := by unfold RepD; rfl
theorem rep_non : RepD fa K β H .non .non := by unfold RepD; rfl
theorem rep_fn (n : Nat) : RepD fa K β H (.fn n) (.ref (fa n)) := by unfold RepD; rfl
/-- a new tuple, a new list -/
theorem rep_tup {S : Sto} {l : List D} {xs : List V} {p : Addr} (s : RepS fa K β H S) (hp : H p = none) (r : RepL fa K β H l xs) : RepD fa K β (upd H p (.tup xs)) (.tup l) (.ref p) := by
  unfold RepD
  exact ⟨p, xs, rfl, ⟨upd_same, s.fresh hp⟩, r.ext (Ext.new hp)⟩
theorem rep_lst {S : Sto} {l : List D} {xs : List V} {p : Addr} (s : RepS fa K β H S) (hp : H p = none) (r : RepL fa K β H l xs) : RepD fa K β (upd H p (.lst xs)) (.lst l) (.ref p) := by
  unfold RepD
  exact ⟨p, xs, rfl, .inl ⟨.inl upd_same, s.fresh hp⟩, r.ext (Ext.new hp)⟩
/-- a sequence's items -/
theorem seq_at {S : Sto} (s : RepS fa K β H S) {d : D} {l : List D} {v : V} (e : seqOf S d = some l) (r : RepD fa K β H d v) : ∃ p xs, v = .ref p ∧ (SqL K H p xs ∨ SqT K H p xs) ∧ RepL fa K β H l xs := by
  cases d with
  | tup l' =>
    simp [seqOf] at e; subst e
    obtain ⟨p, xs, rfl, h1, h2⟩ := r.tup_
    exact ⟨p, xs, rfl, .inr h1.sq, h2⟩
  | xtp l' =>
    simp [seqOf] at e; subst e
    obtain ⟨p, xs, o, rfl, h1, _, _, h2⟩ := r.xtp_
    exact ⟨p, xs, rfl, .inr (.inl (.inr ⟨o, h1⟩)), h2⟩
  | lst l' =>
    simp [seqOf] at e; subst e
    obtain ⟨p, xs, rfl, h1, h2⟩ := r.lst_
    exact ⟨p, xs, rfl, .inl h1.sq, h2⟩
  | ref n =>
    obtain ⟨a, h1, rfl⟩ := r.ref_
    simp only [seqOf] at e
    split at e
    · rename_i lk l' hq
      cases e
      obtain ⟨xs, h3, h4⟩ := s.at_ n a _ h1 hq
      exact ⟨a, xs, rfl, .inl (.inl h3.rd), h4⟩
    · cases e
  | _ => simp [seqOf] at e
/-- .. of a list alone -/
theorem top_lst {S : Sto} (s : RepS fa K β H S) {d : D} {l : List D} {v : V} (e : top S d = .lst l) (r : RepD fa K β H d v) : ∃ p xs, v = .ref p ∧ SqL K H p xs ∧ RepL fa K β H l xs := by
  cases d with
  | lst l' =>
    simp [top] at e; subst e
    obtain ⟨p, xs, rfl, h1, h2⟩ := r.lst_
    exact ⟨p, xs, rfl, h1.sq, h2⟩
  | ref n =>
    obtain ⟨a, h1, rfl⟩ := r.ref_
    simp only [top] at e
    split at e
    · rename_i lk l' hq
      cases e
      obtain ⟨xs, h3, h4⟩ := s.at_ n a _ h1 hq
      exact ⟨a, xs, rfl, .inl h3.rd, h4⟩
    · cases e
  | _ => simp [top] at e
end

/-! ### a state with nothing changed, with a new object -/
theorem Fin.refl {K : PySem.W.Frag} {ms : List Nat} {β : List Addr} {H : Hp} {S : Sto} (s : RepS T.fa K β H S) (l : LowS ms S) : Fin T K ms β H β H S := ⟨Ext.refl _ _, s, l⟩
theorem Fin.new {K : PySem.W.Frag} {ms : List Nat} {β : List Addr} {H : Hp} {S : Sto} (s : RepS T.fa K β H S) (l : LowS ms S) {p : Addr} {o : HO} (hp : H p = none) : Fin T K ms β H β (upd H p o) S := ⟨Ext.new hp, s.new hp, l⟩

/-! ### operators -/
def rBin (T : Tab) (K : PySem.W.Frag) (F : Sto → D → D → Option D) : R2 := fun x y H Q => ∃ β ms S da db r, RepS T.fa K β H S ∧ LowS ms S ∧ RepD T.fa K β H da x ∧ RepD T.fa K β H db y ∧ F S da db = some r ∧ PV T K ms β H Q r S

theorem list_cat {p q : Addr} {xs ys : List V} {pins : List (Addr × Obj)} {s : Shared} {σ : L2.St} {H : Hp} {Q : VK} (I : Inv X pins σ H s) (h1 : SqL X.K H p xs) (h2 : SqL X.K H q ys) (hz : xs.length + ys.length ≤ sizeLine)
    (h : ∀ n, H n = none → Q (.ref n) (upd H n (.lst (xs ++ ys)))) : wpAny (model X.prog X.w) X.A (binaryOp .Add (.ref p) (.ref q)) (EP X pins σ Q) X.xe s := by
  obtain ⟨its, r1, ⟨⟨cl, dd, dt, sl⟩, n, ho, hc, _, hd⟩, _⟩ := I.list h1
  obtain ⟨its2, r2, ⟨⟨cl2, dd2, dt2, sl2⟩, n2, ho2, hc2, _, hd2⟩, _⟩ := I.list h2
  simp only at hc hd hc2 hd2
  subst hc hd hc2 hd2
  refine concat_meets ⟨_, ho, rfl⟩ ⟨_, ho2, rfl⟩ noFill_list_add seq_list_add PySem.F.slot_list_add PySem.F.entry_list_add (PySem.F.args_list_add_2 _ _)
    (list_addW p q its.toArray its2.toArray n n2 dd dd2 sl sl2 (by simpa [← r1.length, ← r2.length] using hz)) ⟨ho, ho2, ?_⟩
  rw [show its.toArray ++ its2.toArray = (its ++ its2).toArray by simp]
  refine ⟨.ref s.heap.objs.size, _, I.laid (t' := s.toks) (o := .lst (xs ++ ys)) (fun b ob q => Heap.get?_push_of_some _ q) (Nat.le_refl _) ?_, rfl, h _ (I.hok.fresh (Nat.le_refl _))⟩
  exact ⟨by rw [List.length_append]; exact hz, _, 0, r1.append r2, Heap.get?_push_size _ rfl⟩

theorem op_bin_add : OpR X (binaryOp .Add) (rBin T X.K fun S => binop S .add) := by
  intro pins s σ H x y v u Q I rx ry ⟨β, ms, S, da, db, r, hs, hl, ra, rb, e, q⟩
  simp only [binop] at e
  split at e
  · rw [ra.int_] at rx; rw [rb.int_] at ry
    cases e
    exact op_add pins s σ H _ _ v u Q I rx ry ⟨_, _, rfl, rfl, q β H _ (.refl hs hl) (rep_int _)⟩
  · rw [ra.str_] at rx; rw [rb.str_] at ry
    split at e
    · rename_i hz; cases e
      exact op_add_str pins s σ H _ _ v u Q I rx ry ⟨_, _, rfl, rfl, lineOk_le hz, q β H _ (.refl hs hl) (rep_str _)⟩
    · cases e
  · rename_i l1 l2
    obtain ⟨p, xs, rfl, h1, h2⟩ := ra.tup_
    obtain ⟨p', ys, rfl, h1', h2'⟩ := rb.tup_
    split at e
    · rename_i hz; cases e
      have hz' := lineOk_le hz
      rw [h2.length, h2'.length] at hz'
      refine op_catA pins s σ H _ _ v u Q I rx ry ⟨p, p', xs, ys, rfl, rfl, h1.sq, h1'.sq, hz', fun e => ?_, fun _ e => ?_, fun _ _ n hn => ?_⟩
      · subst e
        have : l1 = [] := by have := h2.length; simpa using this
        subst this
        exact q β H _ (.refl hs hl) (by simpa using rb)
      · subst e
        have : l2 = [] := by have := h2'.length; simpa using this
        subst this
        exact q β H _ (.refl hs hl) (by simpa using ra)
      · exact q β _ _ (.new hs hl hn) (rep_tup hs hn (h2.append h2'))
    · cases e
  · split at e
    · rename_i l1 l2 t1 t2
      obtain ⟨p, xs, rfl, h1, h2⟩ := top_lst hs t1 ra
      obtain ⟨p', ys, rfl, h1', h2'⟩ := top_lst hs t2 rb
      split at e
      · rename_i hz; cases e
        have hz' := lineOk_le hz
        rw [h2.length, h2'.length] at hz'
        cases rx; cases ry
        exact list_cat I h1 h1' hz' fun n hn => q β _ _ (.new hs hl hn) (rep_lst hs hn (h2.append h2'))
      · cases e
    · cases e
theorem op_bin_sub : OpR X (binaryOp .Sub) (rBin T X.K fun S => binop S .sub) := by
  intro pins s σ H x y v u Q I rx ry ⟨β, ms, S, da, db, r, hs, hl, ra, rb, e, q⟩
  simp only [binop] at e
  split at e
  · rw [ra.int_] at rx; rw [rb.int_] at ry
    cases e
    exact op_sub pins s σ H _ _ v u Q I rx ry ⟨_, _, rfl, rfl, q β H _ (.refl hs hl) (rep_int _)⟩
  · cases e
theorem op_bin_mul : OpR X (binaryOp .Mult) (rBin T X.K fun S => binop S .mul) := by
  intro pins s σ H x y v u Q I rx ry ⟨β, ms, S, da, db, r, hs, hl, ra, rb, e, q⟩
  simp only [binop] at e
  split at e
  · rw [ra.int_] at rx; rw [rb.int_] at ry
    split at e
    · rename_i hz; cases e
      refine op_mul pins s σ H _ _ v u Q I rx ry ⟨_, _, rfl, rfl, ?_, q β H _ (.refl hs hl) (rep_int _)⟩
      simp [small64] at hz
      unfold CMul
      rcases hz with h | h
      · left; omega
      · right; omega
    · cases e
  · cases e
theorem op_bin_fdiv : OpR X (binaryOp .FloorDiv) (rBin T X.K fun S => binop S .fdiv) := by
  intro pins s σ H x y v u Q I rx ry ⟨β, ms, S, da, db, r, hs, hl, ra, rb, e, q⟩
  simp only [binop] at e
  split at e
  · rw [ra.int_] at rx; rw [rb.int_] at ry
    split at e
    · rename_i hz; cases e
      simp [smallDiv] at hz
      exact op_fdiv pins s σ H _ _ v u Q I rx ry ⟨_, _, rfl, rfl, hz, q β H _ (.refl hs hl) (rep_int _)⟩
    · cases e
  · cases e
theorem op_bin_mod : OpR X (binaryOp .Mod) (rBin T X.K fun S => binop S .mod) := by
  intro pins s σ H x y v u Q I rx ry ⟨β, ms, S, da, db, r, hs, hl, ra, rb, e, q⟩
  simp only [binop] at e
  split at e
  · rw [ra.int_] at rx; rw [rb.int_] at ry
    split at e
    · rename_i hz; cases e
      simp at hz
      exact op_mod pins s σ H _ _ v u Q I rx ry ⟨_, _, rfl, rfl, hz, q β H _ (.refl hs hl) (rep_int _)⟩
    · cases e
  · cases e
theorem op_bin (op : Bop) : OpR X (binaryOp (opOf op)) (rBin T X.K fun S => binop S op) := by
  cases op
  · exact op_bin_add
  · exact op_bin_sub
  · exact op_bin_mul
  · exact op_bin_fdiv
  · exact op_bin_mod
  all_goals
    intro pins s σ H x y v u Q I rx ry ⟨β, ms, S, da, db, r, hs, hl, ra, rb, e, q⟩
    cases e
end MP

set_option linter.all false
set_option Elab.async false
set_option maxRecDepth 100000
namespace MP
open PySem PySem.Spec PyProof.Rows L2
variable {T : Tab} {X : Cx} {c : Sc} {k : Nat} {W : WX}

/-! ### data -/
mutual
def pdOf : D → PyData
  | .non => .none
  | .bl b => .bool b
  | .int i => .int i
  | .str s => .str s
  | .tup l => .tuple (pdOfs l)
  | .lst l => .list (pdOfs l)
  | _ => .none
def pdOfs : List D → List PyData
  | [] => []
  | d :: l => pdOf d :: pdOfs l
end
theorem pdOfs_map : ∀ l : List D, pdOfs l = l.map pdOf
  | [] => by simp [pdOfs]
  | d :: l => by simp [pdOfs, pdOfs_map l]
section
variable {fa : Nat → Addr} {K : PySem.W.Frag} {β : List Addr} {H : Hp}
theorem dpAll_of {n : Nat} (ih : ∀ d v, isPure n d = true → RepD fa K β H d v → Dp K H v (pdOf d)) : ∀ (l : List D) (xs : List V), (∀ d ∈ l, isPure n d = true) → RepL fa K β H l xs → DpAll K H xs (pdOfs l)
  | [], _, _, h => by rw [h.unnil]; unfold pdOfs; exact .nil
  | d :: l, _, hp, h => by
    obtain ⟨x, r, rfl, h1, h2⟩ := h.uncons
    unfold pdOfs
    exact .cons (ih d x (hp d (by simp)) h1) (dpAll_of ih l r (fun y hy => hp y (by simp [hy])) h2)
theorem dp_of : ∀ (n : Nat) (d : D) (v : V), isPure n d = true → RepD fa K β H d v → Dp K H v (pdOf d)
  | 0, _, _, h, _ => by simp [isPure] at h
  | n + 1, d, v, h, r => by
    cases d with
    | non => rw [r.non_]; unfold pdOf; exact .non
    | bl b => rw [r.bl_]; unfold pdOf; exact .bl b
    | int i => rw [r.int_]; unfold pdOf; exact .int i
    | str s => rw [r.str_]; unfold pdOf; exact .str s
    | tup l =>
      obtain ⟨p, xs, rfl, h1, h2⟩ := r.tup_
      unfold pdOf
      simp [isPure] at h
      exact .tup h1.sq (dpAll_of (dp_of n) l xs h h2)
    | lst l =>
      obtain ⟨p, xs, rfl, h1, h2⟩ := r.lst_
      unfold pdOf
      simp [isPure] at h
      exact .lst h1.sq (dpAll_of (dp_of n) l xs h h2)
    | _ => simp [isPure] at h
end
theorem lay_of : ∀ (n : Nat) (d : D), isPure n d = true → (pdOf d).canLay0 = true ∧ (pdOf d).depth ≤ n
  | 0, _, h => by simp [isPure] at h
  | n + 1, d, h => by
    have all : ∀ l : List D, (∀ d ∈ l, isPure n d = true) → PyData.canLayAll0 (pdOfs l) = true ∧ PyData.depthAll (pdOfs l) ≤ n := by
      intro l
      induction l with
      | nil => intro _; simp [pdOfs, PyData.canLayAll0, PyData.depthAll]
      | cons d l ih =>
        intro hl
        obtain ⟨h1, h2⟩ := lay_of n d (hl d (by simp))
        obtain ⟨h3, h4⟩ := ih fun y hy => hl y (by simp [hy])
        simp [pdOfs, PyData.canLayAll0, PyData.depthAll, h1, h3]
        omega
    cases d with
    | non => simp [pdOf, PyData.canLay0, PyData.depth]
    | bl b => simp [pdOf, PyData.canLay0, PyData.depth]
    | int i => simp [pdOf, PyData.canLay0, PyData.depth]
    | str s => simp [isPure] at h; simp [pdOf, PyData.canLay0, PyData.depth, PyData.strOk, h]
    | tup l =>
      simp [isPure] at h
      obtain ⟨h1, h2⟩ := all l h
      simp [pdOf, PyData.canLay0, PyData.depth, h1]
      omega
    | lst l =>
      simp [isPure] at h
      obtain ⟨h1, h2⟩ := all l h
      simp [pdOf, PyData.canLay0, PyData.depth, h1]
      omega
    | _ => simp [isPure] at h
theorem shaped_of {d : D} (h : isPure deep d = true) : SeqAt.shaped (pdOf d) = true := by
  obtain ⟨h1, h2⟩ := lay_of _ _ h
  unfold SeqAt.shaped
  rw [h1]
  simp
  unfold deep at h2
  omega
theorem eqDs_of {n : Nat} (ih : ∀ a b, isPure n a = true → isPure n b = true → eqD n a b = PyData.eqv (pdOf a) (pdOf b)) : ∀ (l k : List D), (∀ d ∈ l, isPure n d = true) → (∀ d ∈ k, isPure n d = true) → eqD.eqDs (eqD n) l k = PyData.eqvAll (pdOfs l) (pdOfs k)
  | [], [], _, _ => by simp [eqD.eqDs, pdOfs, PyData.eqvAll]
  | [], _ :: _, _, _ => by simp [eqD.eqDs, pdOfs, PyData.eqvAll]
  | _ :: _, [], _, _ => by simp [eqD.eqDs, pdOfs, PyData.eqvAll]
  | x :: l, y :: k, h1, h2 => by
    simp [eqD.eqDs, pdOfs, PyData.eqvAll]
    rw [ih x y (h1 x (by simp)) (h2 y (by simp)), eqDs_of ih l k (fun z hz => h1 z (by simp [hz])) (fun z hz => h2 z (by simp [hz]))]
theorem eq_of : ∀ (n : Nat) (a b : D), isPure n a = true → isPure n b = true → eqD n a b = PyData.eqv (pdOf a) (pdOf b)
  | 0, _, _, h, _ => by simp [isPure] at h
  | n + 1, a, b, h1, h2 => by
    cases a <;> cases b <;> simp [isPure] at h1 h2 <;> simp only [eqD, pdOf, PyData.eqv]
    · exact eqDs_of (eq_of n) _ _ h1 h2
    · exact eqDs_of (eq_of n) _ _ h1 h2
theorem isPure_top {S : Sto} {d : D} {n : Nat} (h : isPure n (top S d) = true) : d = top S d ∨ ∃ m l, d = .ref m ∧ top S d = .lst l := by
  cases d with
  | ref m =>
    simp only [top] at h ⊢
    split
    · rename_i lk l hq
      exact .inr ⟨m, l, rfl, rfl⟩
    · rename_i hq
      exact .inl rfl
  | _ => exact .inl rfl
theorem dp_top {fa : Nat → Addr} {K : PySem.W.Frag} {β : List Addr} {H : Hp} {S : Sto} (hs : RepS fa K β H S) {d : D} {v : V} (h : isPure deep (top S d) = true) (r : RepD fa K β H d v) : Dp K H v (pdOf (top S d)) := by
  rcases isPure_top h with e | ⟨m, l, e, e2⟩
  · rw [← e] at h ⊢
    exact dp_of _ _ _ h r
  · obtain ⟨p, xs, rfl, h1, h2⟩ := top_lst hs e2 r
    rw [e2] at h ⊢
    unfold pdOf
    simp [isPure, deep] at h
    exact .lst h1 (dpAll_of (dp_of 59) l xs h h2)

/-! ### comparisons -/
def rCmp (T : Tab) (K : PySem.W.Frag) (F : Sto → D → D → Option Bool) : R2 := fun x y H Q => ∃ β ms S da db r, RepS T.fa K β H S ∧ LowS ms S ∧ RepD T.fa K β H da x ∧ RepD T.fa K β H db y ∧ F S da db = some r ∧ PV T K ms β H Q (.bl r) S
theorem op_c_eq (hu : X.A.units + 64 < cLine) : OpR X (compareOp .Eq) (rCmp T X.K fun S => cmpop S .eq) := by
  intro pins s σ H x y v u Q I rx ry ⟨β, ms, S, da, db, r, hs, hl, ra, rb, e, q⟩
  simp only [cmpop] at e
  split at e
  · rename_i hp
    cases e
    rw [Bool.and_eq_true] at hp
    refine op_eqD hu pins s σ H x y v u Q I rx ry ⟨_, _, dp_top hs hp.1 ra, dp_top hs hp.2 rb, shaped_of hp.1, shaped_of hp.2, ?_⟩
    rw [← eq_of _ _ _ hp.1 hp.2]
    exact q β H _ (.refl hs hl) (rep_bl _)
  · cases e
theorem op_c_ne (hu : X.A.units + 64 < cLine) : OpR X (compareOp .NotEq) (rCmp T X.K fun S => cmpop S .ne) := by
  intro pins s σ H x y v u Q I rx ry ⟨β, ms, S, da, db, r, hs, hl, ra, rb, e, q⟩
  simp only [cmpop] at e
  split at e
  · rename_i hp
    cases e
    rw [Bool.and_eq_true] at hp
    refine op_neD hu pins s σ H x y v u Q I rx ry ⟨_, _, dp_top hs hp.1 ra, dp_top hs hp.2 rb, shaped_of hp.1, shaped_of hp.2, ?_⟩
    rw [← eq_of _ _ _ hp.1 hp.2]
    exact q β H _ (.refl hs hl) (rep_bl _)
  · cases e
theorem op_c_lt : OpR X (compareOp .Lt) (rCmp T X.K fun S => cmpop S .lt) := by
  intro pins s σ H x y v u Q I rx ry ⟨β, ms, S, da, db, r, hs, hl, ra, rb, e, q⟩
  simp only [cmpop] at e
  split at e
  · rw [ra.int_] at rx; rw [rb.int_] at ry
    cases e
    exact op_lt pins s σ H _ _ v u Q I rx ry ⟨_, _, rfl, rfl, q β H _ (.refl hs hl) (rep_bl _)⟩
  · cases e
theorem op_c_le : OpR X (compareOp .LtE) (rCmp T X.K fun S => cmpop S .le) := by
  intro pins s σ H x y v u Q I rx ry ⟨β, ms, S, da, db, r, hs, hl, ra, rb, e, q⟩
  simp only [cmpop] at e
  split at e
  · rw [ra.int_] at rx; rw [rb.int_] at ry
    cases e
    exact op_le pins s σ H _ _ v u Q I rx ry ⟨_, _, rfl, rfl, q β H _ (.refl hs hl) (rep_bl _)⟩
  · cases e
theorem op_c_gt : OpR X (compareOp .Gt) (rCmp T X.K fun S => cmpop S .gt) := by
  intro pins s σ H x y v u Q I rx ry ⟨β, ms, S, da, db, r, hs, hl, ra, rb, e, q⟩
  simp only [cmpop] at e
  split at e
  · rw [ra.int_] at rx; rw [rb.int_] at ry
    cases e
    exact op_gt pins s σ H _ _ v u Q I rx ry ⟨_, _, rfl, rfl, q β H _ (.refl hs hl) (rep_bl _)⟩
  · cases e
theorem op_c_ge : OpR X (compareOp .GtE) (rCmp T X.K fun S => cmpop S .ge) := by
  intro pins s σ H x y v u Q I rx ry ⟨β, ms, S, da, db, r, hs, hl, ra, rb, e, q⟩
  simp only [cmpop] at e
  split at e
  · rw [ra.int_] at rx; rw [rb.int_] at ry
    cases e
    exact op_ge pins s σ H _ _ v u Q I rx ry ⟨_, _, rfl, rfl, q β H _ (.refl hs hl) (rep_bl _)⟩
  · cases e
/-- None, or not -/
theorem non_iff {fa : Nat → Addr} {K : PySem.W.Frag} {β : List Addr} {H : Hp} {d : D} {v : V} (r : RepD fa K β H d v) : decide (v = .non) = isNon d := by
  cases d with
  | non => obtain rfl := r.non_; rfl
  | bl b => obtain rfl := r.bl_; rfl
  | int b => obtain rfl := r.int_; rfl
  | str b => obtain rfl := r.str_; rfl
  | tup b => obtain ⟨p, xs, rfl, _⟩ := r.tup_; rfl
  | xtp b => obtain ⟨p, xs, o, rfl, _⟩ := r.xtp_; rfl
  | lst b => obtain ⟨p, xs, rfl, _⟩ := r.lst_; rfl
  | dct t ks vs => unfold RepD at r; obtain ⟨p, us, rfl, _⟩ := r; rfl
  | ref n => obtain ⟨p, _, rfl⟩ := r.ref_; rfl
  | fn n => obtain rfl := r.fn_; rfl
theorem isNon_eq {d : D} (h : isNon d = true) : d = .non := by cases d <;> simp [isNon] at h; rfl
theorem op_c_isn : OpR X (compareOp .Is) (rCmp T X.K fun S => cmpop S .isn) := by
  intro pins s σ H x y v u Q I rx ry ⟨β, ms, S, da, db, r, hs, hl, ra, rb, e, q⟩
  simp only [cmpop] at e
  split at e
  · rename_i hb
    rw [isNon_eq hb] at rb
    rw [rb.non_] at ry
    refine op_isN pins s σ H _ _ v u Q I rx ry ⟨rfl, ?_⟩
    rw [non_iff ra]
    cases e
    exact q β H _ (.refl hs hl) (rep_bl _)
  · cases e
theorem op_c_isnn : OpR X (compareOp .IsNot) (rCmp T X.K fun S => cmpop S .isnn) := by
  intro pins s σ H x y v u Q I rx ry ⟨β, ms, S, da, db, r, hs, hl, ra, rb, e, q⟩
  simp only [cmpop] at e
  split at e
  · rename_i hb
    rw [isNon_eq hb] at rb
    rw [rb.non_] at ry
    refine op_notN pins s σ H _ _ v u Q I rx ry ⟨rfl, ?_⟩
    rw [non_iff ra]
    cases e
    exact q β H _ (.refl hs hl) (rep_bl _)
  · cases e

/-! ### dicts: what is read -/
theorem keyD_kV {fa : Nat → Addr} {K : PySem.W.Frag} {β : List Addr} {H : Hp} {d : D} {v : V} {key : Key} (r : RepD fa K β H d v) (e : keyD d = some key) : v = kV key := by
  cases d with
  | int i => simp [keyD] at e; subst e; exact r.int_
  | str i => simp [keyD] at e; subst e; exact r.str_
  | _ => simp [keyD] at e
theorem keyDs_cons {d : D} {l : List D} {ks : List Key} (e : keyDs (d :: l) = some ks) : ∃ a b, keyD d = some a ∧ keyDs l = some b ∧ ks = a :: b := by
  simp only [keyDs] at e
  split at e
  · rename_i a b h1 h2
    cases e
    exact ⟨a, b, h1, h2, rfl⟩
  · cases e
theorem keys_kV {fa : Nat → Addr} {K : PySem.W.Frag} {β : List Addr} {H : Hp} : ∀ {l : List D} {xs : List V} {ks : List Key}, RepL fa K β H l xs → keyDs l = some ks → xs = ks.map kV
  | [], _, _, h, e => by rw [h.unnil]; simp [keyDs] at e; subst e; rfl
  | d :: l, _, ks, h, e => by
    obtain ⟨x, r, rfl, h1, h2⟩ := h.uncons
    obtain ⟨a, b, e1, e2, rfl⟩ := keyDs_cons e
    rw [keyD_kV h1 e1, keys_kV h2 e2]
    rfl
theorem isKey_false {d : D} (h : isKey false d = true) : ∃ key, keyD d = some key := by
  cases d <;> simp [isKey] at h <;> exact ⟨_, rfl⟩
theorem leafK_key {d : D} (h : leafK d = true) : ∃ key, keyD d = some key := by
  cases d <;> simp [leafK] at h <;> exact ⟨_, rfl⟩
theorem leafKs : ∀ {l : List D}, (∀ x ∈ l, leafK x = true) → ∃ ks, keyDs l = some ks
  | [], _ => ⟨[], rfl⟩
  | d :: l, h => by
    obtain ⟨a, e1⟩ := leafK_key (h d (by simp))
    obtain ⟨b, e2⟩ := leafKs (l := l) fun x hx => h x (by simp [hx])
    exact ⟨a :: b, by simp [keyDs, e1, e2]⟩
theorem isKey_true {d : D} (h : isKey true d = true) : ∃ l ks, d = .tup l ∧ keyDs l = some ks := by
  cases d with
  | tup l =>
    simp [isKey] at h
    obtain ⟨ks, e⟩ := leafKs h
    exact ⟨l, ks, rfl, e⟩
  | _ => simp [isKey] at h
theorem sameD_key {a b : D} {ka kb : Key} (ha : keyD a = some ka) (hb : keyD b = some kb) : sameD deep a b = decide (ka = kb) := by
  cases a <;> simp [keyD] at ha <;> cases b <;> simp [keyD] at hb <;> subst ha <;> subst hb <;> simp [sameD, deep]
  · rename_i i j; by_cases h : i = j <;> simp [h]
  · rename_i i j; by_cases h : i = j <;> simp [h]
theorem sameD_keyN {a b : D} {ka kb : Key} (ha : keyD a = some ka) (hb : keyD b = some kb) : sameD 59 a b = decide (ka = kb) := by
  cases a <;> simp [keyD] at ha <;> cases b <;> simp [keyD] at hb <;> subst ha <;> subst hb <;> simp [sameD]
  · rename_i i j; by_cases h : i = j <;> simp [h]
  · rename_i i j; by_cases h : i = j <;> simp [h]
theorem sameDs_key : ∀ {l k : List D} {kl kk : List Key}, keyDs l = some kl → keyDs k = some kk → eqD.eqDs (sameD 59) l k = decide (kl = kk)
  | [], [], _, _, h1, h2 => by simp [keyDs] at h1 h2; subst h1 h2; simp [eqD.eqDs]
  | [], y :: k, _, _, h1, h2 => by
    simp [keyDs] at h1; subst h1
    obtain ⟨a, b, _, _, rfl⟩ := keyDs_cons h2
    simp [eqD.eqDs]
  | x :: l, [], _, _, h1, h2 => by
    simp [keyDs] at h2; subst h2
    obtain ⟨a, b, _, _, rfl⟩ := keyDs_cons h1
    simp [eqD.eqDs]
  | x :: l, y :: k, _, _, h1, h2 => by
    obtain ⟨a, b, e1, e2, rfl⟩ := keyDs_cons h1
    obtain ⟨a', b', e1', e2', rfl⟩ := keyDs_cons h2
    simp only [eqD.eqDs]
    rw [sameD_keyN e1 e1', sameDs_key e2 e2']
    by_cases h : a = a' <;> by_cases h' : b = b' <;> simp [h, h']
theorem sameD_keyT {a b : D} {ka kb : List Key} (ha : keyT a = some ka) (hb : keyT b = some kb) : sameD deep a b = decide (ka = kb) := by
  cases a <;> simp only [keyT] at ha <;> first | cases ha | skip
  cases b <;> simp only [keyT] at hb <;> first | cases hb | skip
  simp only [deep, sameD]
  exact sameDs_key ha hb
/-- a dict's value, a generic way -/
theorem find_val {κ : Type} [DecidableEq κ] {fa : Nat → Addr} {K : PySem.W.Frag} {β : List Addr} {H : Hp} (kd : D → Option κ) {k : D} {key : κ} (same : ∀ a ka, kd a = some ka → sameD deep a k = decide (ka = key)) :
    ∀ {l : List (D × D)} {kk : List κ} {us : List V}, (l.map (·.1)).map kd = kk.map some → RepL fa K β H (l.map (·.2)) us →
      (findK k l = none ∧ valV (kk.zip us) key = none) ∨ ∃ d v, findK k l = some d ∧ valV (kk.zip us) key = some v ∧ RepD fa K β H d v
  | [], kk, us, h1, h2 => by
    cases kk with
    | nil => simp [findK, valV]
    | cons a b => simp at h1
  | (a, d) :: l, kk, us, h1, h2 => by
    cases kk with
    | nil => simp at h1
    | cons ka kk =>
      simp at h1
      obtain ⟨x, r, rfl, h3, h4⟩ := RepL.uncons h2
      have hsame := same a ka h1.1
      have ih := find_val kd same (l := l) (kk := kk) (us := r) (by simpa using h1.2) h4
      by_cases e : ka = key
      · right
        refine ⟨d, x, ?_, ?_, h3⟩
        · simp [findK, hsame, e]
        · simp [valV, e]
      · have e1 : findK k ((a, d) :: l) = findK k l := by simp [findK, hsame, e]
        have e2 : valV ((ka :: kk).zip (x :: r)) key = valV (kk.zip r) key := by simp [valV, e]
        rw [e1, e2]
        exact ih
end MP

set_option linter.all false
set_option Elab.async false
set_option maxRecDepth 100000
namespace MP
open PySem PySem.Spec PyProof.Rows L2
variable {T : Tab} {X : Cx} {c : Sc} {k : Nat} {W : WX}

section
variable {fa : Nat → Addr} {K : PySem.W.Frag} {β : List Addr} {H : Hp}
theorem zip_fst {α γ : Type} : ∀ {l : List α} {k : List γ}, l.length = k.length → (l.zip k).map (·.1) = l
  | [], [], _ => rfl
  | x :: l, y :: k, h => by simp at h; simp [zip_fst h]
theorem zip_snd {α γ : Type} : ∀ {l : List α} {k : List γ}, l.length = k.length → (l.zip k).map (·.2) = k
  | [], [], _ => rfl
  | x :: l, y :: k, h => by simp at h; simp [zip_snd h]
/-- a dict, as it is read -/
theorem dct_at {S : Sto} (hs : RepS fa K β H S) {d : D} {v : V} {t : Bool} {l : List (D × D)} (e : dctOf S d = some (t, l)) (r : RepD fa K β H d v) :
    ∃ a us, v = .ref a ∧ RepL fa K β H (l.map (·.2)) us ∧ (if t then ∃ kk : List (List Key), (l.map (·.1)).map keyT = kk.map some ∧ Rd H a (.dT (kk.zip us)) else ∃ kk : List Key, (l.map (·.1)).map keyD = kk.map some ∧ Rd H a (.dK (kk.zip us))) := by
  cases d with
  | dct t' ks vs =>
    simp [dctOf] at e
    obtain ⟨rfl, rfl⟩ := e
    unfold RepD at r
    obtain ⟨p, us, rfl, h1, h2⟩ := r
    have hv := h1.length
    cases t'
    · obtain ⟨kk, a1, a2, a3⟩ := h2
      have hk : ks.length = kk.length := by have := congrArg List.length a1; simpa using this
      refine ⟨p, us, rfl, by rw [zip_snd (by omega)]; exact h1, kk, by rw [zip_fst (by omega)]; exact a1, a2.1⟩
    · obtain ⟨kk, a1, a2, a3⟩ := h2
      have hk : ks.length = kk.length := by have := congrArg List.length a1; simpa using this
      refine ⟨p, us, rfl, by rw [zip_snd (by omega)]; exact h1, kk, by rw [zip_fst (by omega)]; exact a1, a2.1⟩
  | ref n =>
    obtain ⟨a, h1, rfl⟩ := r.ref_
    simp only [dctOf] at e
    split at e
    · rename_i lk t' l' hq
      cases e
      obtain ⟨us, h3, h4⟩ := hs.at_ n a _ h1 hq
      refine ⟨a, us, rfl, h3, ?_⟩
      cases t
      · obtain ⟨kk, b1, b2⟩ := h4; exact ⟨kk, b1, b2.rd⟩
      · obtain ⟨kk, b1, b2⟩ := h4; exact ⟨kk, b1, b2.rd⟩
    · cases e
  | _ => simp [dctOf] at e
theorem keyT_rep {d : D} {v : V} {ks : List Key} (r : RepD fa K β H d v) (e : keyT d = some ks) : ∃ b, v = .ref b ∧ H b = some (.tup (ks.map kV)) := by
  cases d with
  | tup l =>
    obtain ⟨p, xs, rfl, h1, h2⟩ := r.tup_
    simp only [keyT] at e
    rw [← keys_kV h2 e]
    exact ⟨p, rfl, h1.1⟩
  | _ => simp [keyT] at e
theorem dget {S : Sto} (hs : RepS fa K β H S) {d : D} {x y : V} {t : Bool} {l : List (D × D)} {kd : D} (e : dctOf S d = some (t, l)) (r : RepD fa K β H d x) (hk : isKey t kd = true) (rk : RepD fa K β H kd y) :
    ∃ a, x = .ref a ∧ ((findK kd l = none ∧ DGet H a y none) ∨ ∃ dv v, findK kd l = some dv ∧ DGet H a y (some v) ∧ RepD fa K β H dv v) := by
  obtain ⟨a, us, rfl, h1, h2⟩ := dct_at hs e r
  refine ⟨a, rfl, ?_⟩
  cases t
  · obtain ⟨kk, b1, b2⟩ := h2
    obtain ⟨key, ek⟩ := isKey_false hk
    have ey := keyD_kV rk ek
    rcases find_val (fa := fa) (K := K) (β := β) (H := H) keyD (k := kd) (key := key) (fun a ka ha => sameD_key ha ek) b1 h1 with ⟨z1, z2⟩ | ⟨dv, v, z1, z2, z3⟩
    · exact .inl ⟨z1, .inl ⟨_, key, b2, ey, z2.symm⟩⟩
    · exact .inr ⟨dv, v, z1, .inl ⟨_, key, b2, ey, z2.symm⟩, z3⟩
  · obtain ⟨kk, b1, b2⟩ := h2
    obtain ⟨l', ks, rfl, ek⟩ := isKey_true hk
    have ek' : keyT (.tup l') = some ks := ek
    obtain ⟨b, ey, hb⟩ := keyT_rep rk ek'
    rcases find_val (fa := fa) (K := K) (β := β) (H := H) keyT (k := .tup l') (key := ks) (fun a ka ha => sameD_keyT ha ek') b1 h1 with ⟨z1, z2⟩ | ⟨dv, v, z1, z2, z3⟩
    · exact .inl ⟨z1, .inr ⟨_, ks, b, b2, ey, hb, z2.symm⟩⟩
    · exact .inr ⟨dv, v, z1, .inr ⟨_, ks, b, b2, ey, hb, z2.symm⟩, z3⟩
end

/-! ### in -/
theorem reads_seq {pins : List (Addr × Obj)} {s : Shared} {σ : L2.St} {H : Hp} {β : List Addr} {fa : Nat → Addr} {S : Sto} (hs : RepS fa X.K β H S) (I : Inv X pins σ H s) {d : D} {v : V} {u : Value} {l : List D} (e : seqOf S d = some l) (r : RepD fa X.K β H d v)
    (rv : RelV v u) (hp : ∀ x ∈ l, isPure deep x = true) : ∃ as, Reads s.heap u (.list (pdOfs l)) as ∨ Reads s.heap u (.tuple (pdOfs l)) as := by
  obtain ⟨p, xs, rfl, h1, h2⟩ := seq_at hs e r
  have hd := dpAll_of (K := X.K) (H := H) (dp_of deep) l xs hp h2
  rcases h1 with h1 | h1
  · obtain ⟨as, q⟩ := Dp.reads I (.list (pdOfs l)) _ u (.lst h1 hd) rv
    exact ⟨as, .inl q⟩
  · obtain ⟨as, q⟩ := Dp.reads I (.tuple (pdOfs l)) _ u (.tup h1 hd) rv
    exact ⟨as, .inr q⟩
theorem any_eq {l : List D} {a : D} (ha : isPure deep a = true) (hl : ∀ x ∈ l, isPure deep x = true) : (l.any fun x => eqD deep x a) = ((pdOfs l).any fun z => PyData.eqv z (pdOf a)) := by
  rw [pdOfs_map, List.any_map]
  induction l with
  | nil => rfl
  | cons x l ih =>
    simp only [List.any_cons]
    rw [ih fun y hy => hl y (by simp [hy]), eq_of _ _ _ (hl x (by simp)) ha]
    rfl
theorem layAll {l : List D} (hl : ∀ x ∈ l, isPure deep x = true) : PyData.canLayAll0 (pdOfs l) = true ∧ PyData.depthAll (pdOfs l) ≤ deep := by
  induction l with
  | nil => simp [pdOfs, PyData.canLayAll0, PyData.depthAll]
  | cons x l ih =>
    obtain ⟨h1, h2⟩ := lay_of _ _ (hl x (by simp))
    obtain ⟨h3, h4⟩ := ih fun y hy => hl y (by simp [hy])
    simp [pdOfs, PyData.canLayAll0, PyData.depthAll, h1, h3]
    omega
theorem op_c_in (hu : X.A.units + 64 < cLine) : OpR X (compareOp .In) (rCmp T X.K fun S => cmpop S .isin) := by
  intro pins s σ H x y v u Q I rx ry ⟨β, ms, S, da, db, r, hs, hl, ra, rb, e, q⟩
  simp only [cmpop, cmpop.member] at e
  have fin : ∀ {b : Bool}, some b = some r → ∀ s', Inv X pins σ H s' → EP X pins σ Q (.bool b) s' := fun {b} eb s' I' => by
    have eb' := Option.some.inj eb
    subst eb'
    exact ⟨.bl _, H, I', rfl, q β H _ (.refl hs hl) (rep_bl _)⟩
  split at e
  · rename_i l hq
    split at e
    · rename_i hp
      simp at hp
      obtain ⟨as, r1⟩ := Dp.reads I _ x v (dp_of _ _ _ hp.1 ra) rx
      obtain ⟨h1, h2⟩ := lay_of _ _ hp.1
      obtain ⟨h3, h4⟩ := layAll hp.2
      have hroom : X.A.units + 1 + min (PyData.depthAll (pdOfs l)) (pdOf da).depth < cLine := by
        have : min (PyData.depthAll (pdOfs l)) (pdOf da).depth ≤ deep := Nat.le_trans (Nat.min_le_left _ _) h4
        unfold deep at this
        omega
      have hb := fin e
      rw [any_eq hp.1 hp.2] at hb
      obtain ⟨bs, r2 | r2⟩ := reads_seq hs I hq rb ry hp.2
      · exact SeqAt.in_list_reads r2 r1 h3 h1 hroom (hb s I)
      · exact SeqAt.in_tuple_reads r2 r1 h3 h1 hroom (hb s I)
    · cases e
  · split at e
    · rename_i t l hd
      split at e
      · rename_i hk
        obtain ⟨a, rfl, ⟨z1, z2⟩ | ⟨dv, w, z1, z2, z3⟩⟩ := dget hs hd rb hk ra
        · rw [z1] at e
          cases ry
          exact d_in (by omega) I z2 rx fun s' I' => fin e s' I'
        · rw [z1] at e
          cases ry
          exact d_in (by omega) I z2 rx fun s' I' => fin e s' I'
      · split at e
        · rename_i hn
          simp at hn
          rw [isNon_eq hn.1] at ra
          rw [ra.non_] at rx
          obtain ⟨a, us, rfl, h1, h2⟩ := dct_at hs hd rb
          rw [hn.2] at h2
          obtain ⟨kk, b1, b2⟩ := h2
          cases rx; cases ry
          exact d_inNone I b2 fun s' I' => fin e s' I'
        · cases e
    · cases e
theorem op_c_notin (hu : X.A.units + 64 < cLine) : OpR X (compareOp .NotIn) (rCmp T X.K fun S => cmpop S .notin) := by
  intro pins s σ H x y v u Q I rx ry ⟨β, ms, S, da, db, r, hs, hl, ra, rb, e, q⟩
  simp only [cmpop, cmpop.member] at e
  have fin : ∀ {b : Bool}, some b = some r → ∀ s', Inv X pins σ H s' → EP X pins σ Q (.bool b) s' := fun {b} eb s' I' => by
    have eb' := Option.some.inj eb
    subst eb'
    exact ⟨.bl _, H, I', rfl, q β H _ (.refl hs hl) (rep_bl _)⟩
  split at e
  · rename_i l hq
    split at e
    · rename_i hp
      simp at hp
      obtain ⟨as, r1⟩ := Dp.reads I _ x v (dp_of _ _ _ hp.1 ra) rx
      obtain ⟨h1, h2⟩ := lay_of _ _ hp.1
      obtain ⟨h3, h4⟩ := layAll hp.2
      have hroom : X.A.units + 1 + min (PyData.depthAll (pdOfs l)) (pdOf da).depth < cLine := by
        have : min (PyData.depthAll (pdOfs l)) (pdOf da).depth ≤ deep := Nat.le_trans (Nat.min_le_left _ _) h4
        unfold deep at this
        omega
      have hb := fin e
      rw [any_eq hp.1 hp.2] at hb
      obtain ⟨bs, r2 | r2⟩ := reads_seq hs I hq rb ry hp.2
      · exact SeqAt.notIn_list_reads r2 r1 h3 h1 hroom (hb s I)
      · exact SeqAt.notIn_tuple_reads r2 r1 h3 h1 hroom (hb s I)
    · cases e
  · split at e
    · rename_i t l hd
      split at e
      · rename_i hk
        obtain ⟨a, rfl, ⟨z1, z2⟩ | ⟨dv, w, z1, z2, z3⟩⟩ := dget hs hd rb hk ra
        · rw [z1] at e
          cases ry
          exact d_notIn (by omega) I z2 rx fun s' I' => fin e s' I'
        · rw [z1] at e
          cases ry
          exact d_notIn (by omega) I z2 rx fun s' I' => fin e s' I'
      · split at e
        · rename_i hn
          simp at hn
          rw [isNon_eq hn.1] at ra
          rw [ra.non_] at rx
          obtain ⟨a, us, rfl, h1, h2⟩ := dct_at hs hd rb
          rw [hn.2] at h2
          obtain ⟨kk, b1, b2⟩ := h2
          cases rx; cases ry
          exact d_notInNone I b2 fun s' I' => fin e s' I'
        · cases e
    · cases e
theorem op_cmp (hu : X.A.units + 64 < cLine) (op : Cop) : OpR X (compareOp (cmpOf op)) (rCmp T X.K fun S => cmpop S op) := by
  cases op
  · exact op_c_eq hu
  · exact op_c_ne hu
  · exact op_c_lt
  · exact op_c_le
  · exact op_c_gt
  · exact op_c_ge
  · exact op_c_in hu
  · exact op_c_notin hu
  · exact op_c_isn
  · exact op_c_isnn

/-! ### truth -/
theorem tru_of {H : Hp} {x : V} {β : List Addr} {S : Sto} {d : D} {b : Bool}
    (hs : RepS T.fa X.K β H S) (r : RepD T.fa X.K β H d x) (e : truth S d = some b) : TruV X.K x H b := by
  have em : ∀ {l : List D} {xs : List V}, RepL T.fa X.K β H l xs → (!l.isEmpty) = !xs.isEmpty := fun {l xs} h => by
    have := h.length
    cases l <;> cases xs <;> simp at this ⊢
  cases d with
  | non =>
    obtain rfl := r.non_
    have e' : some false = some b := e
    exact (Option.some.inj e').symm
  | bl c =>
    obtain rfl := r.bl_
    have e' : some c = some b := e
    exact (Option.some.inj e').symm
  | int c =>
    obtain rfl := r.int_
    have e' : some (c != 0) = some b := e
    exact (Option.some.inj e').symm
  | str c =>
    obtain rfl := r.str_
    simp only [truth] at e
    split at e
    · rename_i hz
      have e' := Option.some.inj e
      refine ⟨by rw [← line_sz]; exact hz, ?_⟩
      rw [← e']
      have : ((c.length : Int) == 0) = (c.length == 0) := by
        by_cases h0 : c.length = 0
        · simp [h0]
        · have h1 : ((c.length : Int) == 0) = false := by simpa using h0
          rw [h1]; simpa using h0
      unfold bne
      rw [this]
    · cases e
  | tup l =>
    obtain ⟨p, xs, rfl, h1, h2⟩ := r.tup_
    have e' : some (!l.isEmpty) = some b := e
    exact .inr (.inl ⟨xs, h1.sq, by rw [← em h2]; exact (Option.some.inj e').symm⟩)
  | xtp l =>
    obtain ⟨p, xs, o, rfl, h1, _, _, h2⟩ := r.xtp_
    have e' : some (!l.isEmpty) = some b := e
    exact .inr (.inl ⟨xs, .inl (.inr ⟨o, h1⟩), by rw [← em h2]; exact (Option.some.inj e').symm⟩)
  | lst l =>
    obtain ⟨p, xs, rfl, h1, h2⟩ := r.lst_
    have e' : some (!l.isEmpty) = some b := e
    exact .inl ⟨xs, h1.sq, by rw [← em h2]; exact (Option.some.inj e').symm⟩
  | dct t ks vs => simp [truth] at e
  | ref n =>
    obtain ⟨a, h1, rfl⟩ := r.ref_
    simp only [truth] at e
    split at e
    · rename_i lk l hq
      obtain ⟨xs, h3, h4⟩ := hs.at_ n a _ h1 hq
      exact .inl ⟨xs, .inl h3.rd, by rw [← em h4]; exact (Option.some.inj e).symm⟩
    · rename_i l hq
      obtain ⟨us, h3, kk, h4, h5⟩ := hs.at_ n a _ h1 hq
      refine .inr (.inr ⟨_, h5, ?_⟩)
      rw [← Option.some.inj e]
      have q1 := h3.length
      have q2 := congrArg List.length h4
      simp at q1 q2
      cases l <;> cases kk <;> cases us <;> simp at q1 q2 ⊢
    · cases e
  | fn n => simp [truth] at e
end MP

set_option linter.all false
set_option Elab.async false
set_option maxRecDepth 100000
namespace MP
open PySem PySem.Spec PyProof.Rows L2
variable {T : Tab} {X : Cx} {c : Sc} {k : Nat} {W : WX}

theorem PV.trans {K : PySem.W.Frag} {ms β H β1 H1 S1} {Q : VK} {d : D} {S : Sto} (f : Fin T K ms β H β1 H1 S1) (h : PV T K ms β H Q d S) : PV T K ms β1 H1 Q d S := fun β' H' x f' r => h β' H' x (f.trans f') r
theorem PVL.trans {K : PySem.W.Frag} {ms β H β1 H1 S1} {Q : List V → Hp → Prop} {d : List D} {S : Sto} (f : Fin T K ms β H β1 H1 S1) (h : PVL T K ms β H Q d S) : PVL T K ms β1 H1 Q d S := fun β' H' x f' r => h β' H' x (f.trans f') r
theorem PB.trans {K : PySem.W.Frag} {ms β H β1 H1 S1} {Q : Bool → Hp → Prop} {d : Bool} {S : Sto} (f : Fin T K ms β H β1 H1 S1) (h : PB T K ms β H Q d S) : PB T K ms β1 H1 Q d S := fun β' H' f' => h β' H' (f.trans f')
theorem PX.trans {K : PySem.W.Frag} {ms β H β1 H1 S1} {E : Value → Option Addr → Hp → Prop} {c : Nat} {p : D} {S : Sto} (f : Fin T K ms β H β1 H1 S1) (h : PX T K ms β H E c p S) : PX T K ms β1 H1 E c p S := fun β' H' dx v f' r e => h β' H' dx v (f.trans f') r e

/-- the readings: from a state that is represented -/
def rd {α γ : Type} (T : Tab) (K : PySem.W.Frag) (W : WX) (F : List Nat → GE → Sto → R α) (P : List Nat → List Addr → Hp → γ → α → Sto → Prop) : L2.St → Hp → γ → Prop := fun σ H Q =>
  ∃ β ms g S, RepS T.fa K β H S ∧ LowS ms S ∧ RepE T.fa K β H g σ ∧ GoodE (F ms g S) (P ms β H Q) (PX T K ms β H fun c d H' => W c d σ H')
abbrev rdE (T : Tab) (K : PySem.W.Frag) (W : WX) (F : List Nat → GE → Sto → R D) : TE := rd T K W F (PV T K)
abbrev rdA (T : Tab) (K : PySem.W.Frag) (W : WX) (F : List Nat → GE → Sto → R (List D)) : TA := rd T K W F (PVL T K)
abbrev rdT (T : Tab) (K : PySem.W.Frag) (W : WX) (F : List Nat → GE → Sto → R Bool) : TT := rd T K W F (PB T K)
/-- a state that is represented, behind another -/
structure Now (T : Tab) (K : PySem.W.Frag) (ms : List Nat) (β0 : List Addr) (H0 : Hp) (g : GE) (σ : L2.St) (β : List Addr) (H : Hp) (S : Sto) : Prop where
  fin : Fin T K ms β0 H0 β H S
  env : RepE T.fa K β H g σ
theorem Now.st {K ms β0 H0 g σ β H S} (n : Now T K ms β0 H0 g σ β H S) : RepS T.fa K β H S := n.fin.st
theorem Now.low {K ms β0 H0 g σ β H S} (n : Now T K ms β0 H0 g σ β H S) : LowS ms S := n.fin.low
theorem Now.start {K : PySem.W.Frag} {ms β H g σ S} (s : RepS T.fa K β H S) (l : LowS ms S) (e : RepE T.fa K β H g σ) : Now T K ms β H g σ β H S := ⟨.refl s l, e⟩
theorem Now.next {K ms β0 H0 g σ β H S β' H' S'} (n : Now T K ms β0 H0 g σ β H S) (f : Fin T K ms β H β' H' S') : Now T K ms β0 H0 g σ β' H' S' := ⟨n.fin.trans f, n.env.ext f.ext⟩

/-- go into a part: what is wanted behind it is told for each value -/
theorem rd_into {α γ : Type} {K : PySem.W.Frag} {W : WX} {F : List Nat → GE → Sto → R D} {kk : D → Sto → R α} {P : α → Sto → Prop} {ms β0 H0 g σ β H S}
    (n : Now T K ms β0 H0 g σ β H S) (h : GoodE ((F ms g S).bind kk) P (PX T K ms β0 H0 fun c d H' => W c d σ H')) {Q : VK}
    (hq : ∀ d x β' H' S', Now T K ms β0 H0 g σ β' H' S' → Fin T K ms β H β' H' S' → RepD T.fa K β' H' d x → GoodE (kk d S') P (PX T K ms β0 H0 fun c d H' => W c d σ H') → Q x H') : rdE T K W F σ H Q :=
  ⟨β, ms, g, S, n.st, n.low, n.env, h.bind.mono (fun d S' q β' H' x f r => hq d x β' H' S' (n.next f) f r q) fun c p S' q => q.trans n.fin⟩
theorem rd_intoA {α : Type} {K : PySem.W.Frag} {W : WX} {F : List Nat → GE → Sto → R (List D)} {kk : List D → Sto → R α} {P : α → Sto → Prop} {ms β0 H0 g σ β H S}
    (n : Now T K ms β0 H0 g σ β H S) (h : GoodE ((F ms g S).bind kk) P (PX T K ms β0 H0 fun c d H' => W c d σ H')) {Q : List V → Hp → Prop}
    (hq : ∀ d x β' H' S', Now T K ms β0 H0 g σ β' H' S' → Fin T K ms β H β' H' S' → RepL T.fa K β' H' d x → GoodE (kk d S') P (PX T K ms β0 H0 fun c d H' => W c d σ H') → Q x H') : rdA T K W F σ H Q :=
  ⟨β, ms, g, S, n.st, n.low, n.env, h.bind.mono (fun d S' q β' H' x f r => hq d x β' H' S' (n.next f) f r q) fun c p S' q => q.trans n.fin⟩
theorem rd_intoT {α : Type} {K : PySem.W.Frag} {W : WX} {F : List Nat → GE → Sto → R Bool} {kk : Bool → Sto → R α} {P : α → Sto → Prop} {ms β0 H0 g σ β H S}
    (n : Now T K ms β0 H0 g σ β H S) (h : GoodE ((F ms g S).bind kk) P (PX T K ms β0 H0 fun c d H' => W c d σ H')) {Q : Bool → Hp → Prop}
    (hq : ∀ d β' H' S', Now T K ms β0 H0 g σ β' H' S' → Fin T K ms β H β' H' S' → GoodE (kk d S') P (PX T K ms β0 H0 fun c d H' => W c d σ H') → Q d H') : rdT T K W F σ H Q :=
  ⟨β, ms, g, S, n.st, n.low, n.env, h.bind.mono (fun d S' q β' H' f => hq d β' H' S' (n.next f) f q) fun c p S' q => q.trans n.fin⟩
/-- the last part -/
theorem rd_last {α γ : Type} {K : PySem.W.Frag} {W : WX} {F : List Nat → GE → Sto → R α} {PP : List Nat → List Addr → Hp → γ → α → Sto → Prop} {ms β0 H0 g σ β H S} {Q : γ}
    (n : Now T K ms β0 H0 g σ β H S) (h : GoodE (F ms g S) (PP ms β0 H0 Q) (PX T K ms β0 H0 fun c d H' => W c d σ H'))
    (tr : ∀ a S', PP ms β0 H0 Q a S' → PP ms β H Q a S') : rd T K W F PP σ H Q :=
  ⟨β, ms, g, S, n.st, n.low, n.env, h.mono tr fun c p S' q => q.trans n.fin⟩
theorem rd_lastE {K : PySem.W.Frag} {W : WX} {F : List Nat → GE → Sto → R D} {ms β0 H0 g σ β H S} {Q : VK}
    (n : Now T K ms β0 H0 g σ β H S) (h : GoodE (F ms g S) (PV T K ms β0 H0 Q) (PX T K ms β0 H0 fun c d H' => W c d σ H')) : rdE T K W F σ H Q := rd_last n h fun _ _ q => q.trans n.fin
theorem rd_lastT {K : PySem.W.Frag} {W : WX} {F : List Nat → GE → Sto → R Bool} {ms β0 H0 g σ β H S} {Q : Bool → Hp → Prop}
    (n : Now T K ms β0 H0 g σ β H S) (h : GoodE (F ms g S) (PB T K ms β0 H0 Q) (PX T K ms β0 H0 fun c d H' => W c d σ H')) : rdT T K W F σ H Q := rd_last n h fun _ _ q => q.trans n.fin
theorem lift_good {α : Type} {o : Option α} {S : Sto} {P : α → Sto → Prop} {E : Nat → D → Sto → Prop} (h : GoodE (R.lift o S) P E) : ∃ a, o = some a ∧ P a S := by
  cases o with
  | none => exact False.elim h
  | some a => exact ⟨a, rfl, h⟩
/-- two operands -/
theorem two_imp {K : PySem.W.Frag} {W : WX} {Fa Fb : List Nat → GE → Sto → R D} {G : Sto → D → D → Option D} {σ : L2.St} {H : Hp} {Q : VK}
    (h : rdE T K W (fun ms g S => (Fa ms g S).bind fun x S1 => (Fb ms g S1).bind fun y S2 => .lift (G S2 x y) S2) σ H Q) : tOp (rBin T K G) (rdE T K W Fa) (rdE T K W Fb) σ H Q := by
  obtain ⟨β, ms, g, S, hs, hl, he, h⟩ := h
  refine rd_into (γ := Unit) (.start hs hl he) h fun d x β1 H1 S1 n1 f1 r1 h1 => rd_into (γ := Unit) n1 h1 fun d2 y β2 H2 S2 n2 f2 r2 h2 => ?_
  obtain ⟨r, e, q⟩ := lift_good h2
  exact ⟨β2, ms, S2, d, d2, r, n2.st, n2.low, r1.ext f2.ext, r2, e, q.trans n2.fin⟩
theorem rBin_map {K : PySem.W.Frag} {F : Sto → D → D → Option Bool} {x y : V} {H : Hp} {Q : VK} (h : rBin T K (fun S a b => (F S a b).map .bl) x y H Q) : rCmp T K F x y H Q := by
  obtain ⟨β, ms, S, da, db, r, hs, hl, ra, rb, e, q⟩ := h
  obtain ⟨b, e2, e3⟩ := Option.map_eq_some_iff.mp (show (F S da db).map D.bl = some r from e)
  subst e3
  exact ⟨β, ms, S, da, db, b, hs, hl, ra, rb, e2, q⟩

/-! ### no star -/
theorem star_no {e : Expr} (h : isStar e = false) (es : List Expr) (env : PySem.Env) : starEach (e :: es) env = (false, eval e env) :: starEach es env := by
  cases e <;> first | rfl | (simp [isStar] at h)
theorem pa_nil' : PA X [] (rdA T X.K W fun _ _ S => .ok [] S) := by
  refine pa_nil.imp fun σ H Q h => ?_
  obtain ⟨β, ms, g, S, hs, hl, he, h⟩ := h
  exact h β H [] (.refl hs hl) .nil
theorem pa_cons' {e : Expr} {es : List Expr} {F : List Nat → GE → Sto → R D} {G : List Nat → GE → Sto → R (List D)} (ha : PE X e (rdE T X.K W F)) (hr : PA X es (rdA T X.K W G)) (hs : isStar e = false) :
    PA X (e :: es) (rdA T X.K W fun ms g S => (F ms g S).bind fun d S1 => (G ms g S1).bind fun l S2 => .ok (d :: l) S2) := by
  refine (pa_cons ha hr (star_no hs es X.env)).imp fun σ H Q h => ?_
  obtain ⟨β, ms, g, S, hs, hl, he, h⟩ := h
  refine rd_into (γ := Unit) (.start hs hl he) h fun d x β1 H1 S1 n1 f1 r1 h1 => rd_intoA n1 h1 fun l xs β2 H2 S2 n2 f2 r2 h2 => ?_
  exact h2 β2 H2 (x :: xs) n2.fin (.cons (r1.ext f2.ext) r2)

/-! ### what is shown of each text -/
abbrev SE (T : Tab) (c : Sc) (k : Nat) (M : MtF) (E : List Nat → EvF) : Prop := ∀ (sc : Scope) (x : Ex) (e : Expr) (W : WX) (X : Cx), M sc x e = true → Ctx T c k W X → X.env.scope = sc → PE X e (rdE T X.K W fun ms g S => E ms x g S)
abbrev ST (T : Tab) (c : Sc) (k : Nat) (M : MtF) (E : List Nat → TtF) : Prop := ∀ (sc : Scope) (x : Ex) (e : Expr) (W : WX) (X : Cx), M sc x e = true → Ctx T c k W X → X.env.scope = sc → PT X e (rdT T X.K W fun ms g S => E ms x g S)
abbrev NoStar (M : MtF) : Prop := ∀ sc x e, M sc x e = true → isStar e = false
set_option maxHeartbeats 4000000 in
theorem nostar (c : Sc) : ∀ n, NoStar (mtE c n)
  | 0 => fun _ _ _ h => by simp [mtE] at h
  | n + 1 => fun sc x e h => by
    cases e with
    | Starred v p =>
      have h' : mtStep c n (mtE c n) sc x (.Starred v p) = true := h
      cases x <;> first | (cases h'; done) | (simp only [mtStep, Bool.false_eq_true] at h'; done) | (simp [mtStep] at h')
    | _ => rfl
theorem pa_of {M : MtF} {E : List Nat → EvF} (hE : SE T c k M E) (hM : NoStar M) {sc : Scope} : ∀ (l : List Ex) (es : List Expr), mtL M sc l es = true → Ctx T c k W X → X.env.scope = sc → PA X es (rdA T X.K W fun ms g S => evL (E ms) l g S)
  | [], [], _, _, _ => pa_nil'
  | [], _ :: _, h, _, _ => by simp [mtL] at h
  | _ :: _, [], h, _, _ => by simp [mtL] at h
  | x :: l, e :: es, h, C, hsc => by
    simp [mtL] at h
    exact pa_cons' (hE sc x e W X h.1 C hsc) (pa_of hE hM l es h.2 C hsc) (hM sc x e h.1)

/-! ### the cases -/
theorem pe_varC {i : Nat} {y : Str} {p : Pos} {sc : Scope} (C : Ctx T c k W X) (hsc : X.env.scope = sc) (h1 : nm c i y = true) (h2 : isVis sc y = true) (h3 : okN y = true) :
    PE X (.Name y p) (rdE T X.K W fun _ g S => match g[i]? with | some (some d) => .ok d S | _ => .bad) := by
  have hv : Vis X.env.scope y := by
    rw [hsc]
    unfold isVis at h2
    unfold Vis
    split at h2 <;> simp_all
  simp [okN] at h3
  refine (pe_var (i := i) (by rw [C.names]; simpa [nm] using h1) hv (by simpa using h3.1) (by simpa using h3.2)).imp fun σ H Q h => ?_
  obtain ⟨β, ms, g, S, hs, hl, he, h⟩ := h
  dsimp only at h
  split at h
  · rename_i d e
    obtain ⟨v, e1, r⟩ := he.2 i d e
    exact ⟨v, e1, h β H v (.refl hs hl) r⟩
  · exact False.elim h
theorem isGl_gl {sc : Scope} {y : Str} (hsc : X.env.scope = sc) (h : isGl sc y = true) : Gl X y := by
  unfold Gl Env.kindOf
  rw [hsc]
  unfold isGl at h
  split at h <;> simp_all
theorem rd_con {K : PySem.W.Frag} {d : D} {v : V} (r : ∀ β H, RepD T.fa K β H d v) {σ : L2.St} {H : Hp} {Q : VK} (h : rdE T K W (fun _ _ S => .ok d S) σ H Q) : Q v H := by
  obtain ⟨β, ms, g, S, hs, hl, he, h⟩ := h
  exact h β H v (.refl hs hl) (r β H)
theorem pe_conC {d : D} {e : Expr} {sc : Scope} {fp : Nat} {M : MtF} (C : Ctx T c k W X) (hsc : X.env.scope = sc) (h : mtStep c fp M sc (.con d) e = true) : PE X e (rdE T X.K W fun _ _ S => .ok d S) := by
  cases e with
  | Constant kc n p =>
    cases kc with
    | none => cases d <;> simp [mtStep] at h; exact pe_non.imp fun σ H Q q => rd_con (fun _ _ => rep_non) q
    | bool b => cases d <;> simp [mtStep] at h; subst h; exact pe_bl.imp fun σ H Q q => rd_con (fun _ _ => rep_bl _) q
    | int b => cases d <;> simp [mtStep] at h; subst h; exact pe_int.imp fun σ H Q q => rd_con (fun _ _ => rep_int _) q
    | str b => cases d <;> simp [mtStep] at h; subst h; exact pe_str.imp fun σ H Q q => rd_con (fun _ _ => rep_str _) q
    | _ => cases d <;> simp [mtStep] at h
  | Name y p =>
    cases d with
    | int i =>
      simp [mtStep, okN] at h
      obtain ⟨t, hm⟩ := C.link.gi y i h.2
      exact (pe_glob (v := .int i) (isGl_gl hsc h.1.1) hm ⟨t, rfl⟩ (by simpa using h.1.2.1)).imp fun σ H Q q => rd_con (fun _ _ => rep_int _) q
    | fn f =>
      simp [mtStep, okN] at h
      exact (pe_glob (v := .ref (T.fa f)) (isGl_gl hsc h.1.1) (C.link.gf y f h.2) rfl (by simpa using h.1.2.1)).imp fun σ H Q q => rd_con (fun _ _ => rep_fn _) q
    | _ => simp [mtStep] at h
  | _ => simp [mtStep] at h
theorem pe_tupC {es : List Expr} {F : List Nat → GE → Sto → R (List D)} {n : Nat} {p : Pos} (h : PA X es (rdA T X.K W F)) :
    PE X (.Tuple es n p) (rdE T X.K W fun ms g S => (F ms g S).bind fun l S1 => if lineOk l.length then .ok (.tup l) S1 else .bad) := by
  refine (pe_tup h).imp fun σ H Q h => ?_
  obtain ⟨β, ms, g, S, hs, hl, he, h⟩ := h
  refine rd_intoA (.start hs hl he) h fun l xs β1 H1 S1 n1 f1 r1 h1 => ?_
  split at h1
  · rename_i hz
    exact ⟨by rw [← r1.length]; exact lineOk_le hz, fun q hq => h1 β1 _ _ (n1.fin.trans (.new n1.st n1.low hq)) (rep_tup n1.st hq r1)⟩
  · exact False.elim h1
/-- a new list: as a value, or taken by the store -/
theorem box_new {K : PySem.W.Frag} {ms β0 H0 g σ β H S} {Q : VK} (n : Now T K ms β0 H0 g σ β H S) {bx : Bool} {l : List D} {xs : List V} {E : Nat → D → Sto → Prop} (r : RepL T.fa K β H l xs) (h : GoodE (boxL bx l S) (PV T K ms β0 H0 Q) E) {p : Addr} (hp : H p = none) :
    xs.length ≤ sizeLine ∧ Q (.ref p) (upd H p (.lst xs)) := by
  unfold boxL at h
  split at h
  · rename_i hz
    refine ⟨by rw [← r.length]; exact lineOk_le hz, ?_⟩
    cases bx
    · exact h β _ _ (n.fin.trans (.new n.st n.low hp)) (rep_lst n.st hp r)
    · refine h (β ++ [p]) _ _ (n.fin.trans ⟨Ext.push hp, n.st.push hp ⟨xs, upd_same, r.ext (Ext.push hp)⟩, n.low.push _⟩) ?_
      unfold RepD
      exact ⟨p, by rw [← n.st.len]; simp, rfl⟩
  · exact False.elim h
theorem pe_lstC {es : List Expr} {F : List Nat → GE → Sto → R (List D)} {p : Pos} {bx : Bool} (h : PA X es (rdA T X.K W F)) :
    PE X (.List es p) (rdE T X.K W fun ms g S => (F ms g S).bind fun l S1 => boxL bx l S1) := by
  refine (pe_lst h).imp fun σ H Q h => ?_
  obtain ⟨β, ms, g, S, hs, hl, he, h⟩ := h
  refine rd_intoA (.start hs hl he) h fun l xs β1 H1 S1 n1 f1 r1 h1 => ?_
  have hz : xs.length ≤ sizeLine := by
    unfold boxL at h1
    split at h1
    · rename_i hz; rw [← r1.length]; exact lineOk_le hz
    · exact False.elim h1
  exact ⟨hz, fun q hq => (box_new n1 r1 h1 hq).2⟩
theorem pe_binC {a b : Expr} {Fa Fb : List Nat → GE → Sto → R D} {op : Bop} {p : Pos} (ha : PE X a (rdE T X.K W Fa)) (hb : PE X b (rdE T X.K W Fb)) :
    PE X (.BinOp a (opOf op) b p) (rdE T X.K W fun ms g S => (Fa ms g S).bind fun x S1 => (Fb ms g S1).bind fun y S2 => .lift (binop S2 op x y) S2) :=
  (pe_op (op_bin op) ha hb).imp fun σ H Q h => two_imp h
theorem op_cmpB (hu : X.A.units + 64 < cLine) (op : Cop) : OpR X (compareOp (cmpOf op)) (rBin T X.K fun S a b => (cmpop S op a b).map .bl) :=
  fun pins s σ H x y v u Q I rx ry h => op_cmp hu op pins s σ H x y v u Q I rx ry (rBin_map h)
theorem nomarkR {op : Cop} {b : Expr} (h : isStar b = false) (h' : ∀ es n p, b ≠ .Set es n p) (o : CmpOp) : behindInMarks o b = false := by
  cases b <;> first | rfl | (simp_all)
theorem pe_cmpC {a b : Expr} {Fa Fb : List Nat → GE → Sto → R D} {op : Cop} {p : Pos} (hu : X.A.units + 64 < cLine) (ha : PE X a (rdE T X.K W Fa)) (hb : PE X b (rdE T X.K W Fb)) (hm : behindInMarks (cmpOf op) b = false) :
    PE X (.Compare a [cmpOf op] [b] p) (rdE T X.K W fun ms g S => (Fa ms g S).bind fun x S1 => (Fb ms g S1).bind fun y S2 => .lift ((cmpop S2 op x y).map .bl) S2) :=
  (pe_cmpR (op_cmpB hu op) ha hb hm).imp fun σ H Q h => two_imp h
theorem pe_cmp2C {a b d : Expr} {Fa Fb Fc : List Nat → GE → Sto → R D} {op op' : Cop} {p : Pos} (hu : X.A.units + 64 < cLine) (ha : PE X a (rdE T X.K W Fa)) (hb : PE X b (rdE T X.K W Fb)) (hc : PE X d (rdE T X.K W Fc)) (hm : lastMarks [cmpOf op, cmpOf op'] [b, d] = false) :
    PE X (.Compare a [cmpOf op, cmpOf op'] [b, d] p) (rdE T X.K W fun ms g S => (Fa ms g S).bind fun x S1 => (Fb ms g S1).bind fun y S2 => match cmpop S2 op x y with
      | some true => (Fc ms g S2).bind fun z S3 => (.lift ((cmpop S3 op' y z).map .bl) S3)
      | some false => .ok (.bl false) S2
      | none => .bad) := by
  refine (pe_chain (op_cmpB (T := T) hu op) (op_cmpB (T := T) hu op') ha hb hc hm).imp fun σ H Q h => ?_
  obtain ⟨β, ms, g, S, hs, hl, he, h⟩ := h
  refine rd_into (γ := Unit) (.start hs hl he) h fun d x β1 H1 S1 n1 f1 r1 h1 => rd_into (γ := Unit) n1 h1 fun d2 y β2 H2 S2 n2 f2 r2 h2 => ?_
  split at h2
  · rename_i e
    refine ⟨β2, ms, S2, d, d2, .bl true, n2.st, n2.low, r1.ext f2.ext, r2, congrArg (Option.map D.bl) e, fun β3 H3 z f3 rz => ⟨true, rz.bl_, ?_⟩⟩
    refine rd_into (γ := Unit) (n2.next f3) h2 fun d4 w β4 H4 S4 n4 f4 r4 h4 => ?_
    obtain ⟨r, e4, q⟩ := lift_good h4
    exact ⟨β4, ms, S4, d2, d4, r, n4.st, n4.low, (r2.ext f3.ext).ext f4.ext, r4, e4, q.trans n4.fin⟩
  · rename_i e
    exact ⟨β2, ms, S2, d, d2, .bl false, n2.st, n2.low, r1.ext f2.ext, r2, congrArg (Option.map D.bl) e, fun β3 H3 z f3 rz => ⟨false, rz.bl_, h2 β3 H3 _ (n2.fin.trans f3) (rep_bl _)⟩⟩
  · exact False.elim h2
theorem pe_negC {a : Expr} {Fa : List Nat → GE → Sto → R D} {p : Pos} (ha : PE X a (rdE T X.K W Fa)) :
    PE X (.UnaryOp .USub a p) (rdE T X.K W fun ms g S => (Fa ms g S).bind fun x S1 => match x with | .int i => .ok (.int (-i)) S1 | _ => .bad) := by
  refine (pe_un un_neg ha).imp fun σ H Q h => ?_
  obtain ⟨β, ms, g, S, hs, hl, he, h⟩ := h
  refine rd_into (γ := Unit) (.start hs hl he) h fun d x β1 H1 S1 n1 f1 r1 h1 => ?_
  cases d with
  | int i => exact ⟨i, r1.int_, h1 β1 H1 _ n1.fin (rep_int _)⟩
  | _ => exact False.elim h1
theorem pe_notC {a : Expr} {Fa : List Nat → GE → Sto → R D} {p : Pos} (ha : PE X a (rdE T X.K W Fa)) :
    PE X (.UnaryOp .Not a p) (rdE T X.K W fun ms g S => (Fa ms g S).bind fun d S1 => .lift ((truth S1 d).map fun b => .bl (!b)) S1) := by
  refine (pe_notT ha).imp fun σ H Q h => ?_
  obtain ⟨β, ms, g, S, hs, hl, he, h⟩ := h
  refine rd_into (γ := Unit) (.start hs hl he) h fun d x β1 H1 S1 n1 f1 r1 h1 => ?_
  obtain ⟨r, e, q⟩ := lift_good h1
  cases et : truth S1 d with
  | none => rw [et] at e; cases e
  | some b =>
    rw [et] at e; cases e
    exact ⟨b, tru_of n1.st r1 et, q β1 H1 _ n1.fin (rep_bl _)⟩
end MP

set_option linter.all false
set_option Elab.async false
set_option maxRecDepth 100000
namespace MP
open PySem PySem.Spec PyProof.Rows L2
variable {T : Tab} {X : Cx} {c : Sc} {k : Nat} {W : WX}

theorem star_any {pos : Pos} {env : PySem.Env} : ∀ {es : List Expr}, (∀ e ∈ es, isStar e = false) → (backTo pos (starEach es env)).any (·.1) = false
  | [], _ => rfl
  | e :: es, h => by
    rw [star_no (h e (by simp))]
    have := star_any (pos := pos) (env := env) (es := es) fun x hx => h x (by simp [hx])
    simp [backTo] at this ⊢
    exact this
theorem mtL_star {M : MtF} (hM : NoStar M) {sc : Scope} : ∀ {l : List Ex} {es : List Expr}, mtL M sc l es = true → ∀ e ∈ es, isStar e = false
  | [], [], _ => by simp
  | [], _ :: _, h => by simp [mtL] at h
  | _ :: _, [], h => by simp [mtL] at h
  | x :: l, e :: es, h => by
    simp [mtL] at h
    intro y hy
    rcases List.mem_cons.mp hy with q | q
    · rw [q]; exact hM sc x e h.1
    · exact mtL_star hM h.2 y q
theorem mtL_len {M : MtF} {sc : Scope} : ∀ {l : List Ex} {es : List Expr}, mtL M sc l es = true → l.length = es.length
  | [], [], _ => rfl
  | [], _ :: _, h => by simp [mtL] at h
  | _ :: _, [], h => by simp [mtL] at h
  | x :: l, e :: es, h => by simp [mtL] at h; simp [mtL_len h.2]

/-! ### and, or -/
theorem pe_andC {M : MtF} {E : List Nat → EvF} (hE : SE T c k M E) {sc : Scope} {p : Pos} (C : Ctx T c k W X) (hsc : X.env.scope = sc) : ∀ (l : List Ex) (es : List Expr), mtL M sc l es = true → 1 ≤ l.length → PE X (.BoolOp .And es p) (rdE T X.K W fun ms g S => evAnd (E ms) l g S)
  | [], _, _, h => by simp at h
  | _ :: _, [], h, _ => by simp [mtL] at h
  | [x], [e], h, _ => by
    simp [mtL] at h
    exact pe_one (hE sc x e W X h C hsc)
  | [x], e :: e' :: es, h, _ => by simp [mtL] at h
  | x :: y :: l, [e], h, _ => by simp [mtL] at h
  | x :: y :: l, e :: e' :: es, h, _ => by
    have h' : M sc x e = true ∧ mtL M sc (y :: l) (e' :: es) = true := by simpa [mtL] using h
    refine (pe_andT (hE sc x e W X h'.1 C hsc) (pe_andC hE C hsc (y :: l) (e' :: es) h'.2 (by simp))).imp fun σ H Q h => ?_
    obtain ⟨β, ms, g, S, hs, hl, he, h⟩ := h
    simp only [evAnd, evOr] at h
    refine rd_into (γ := Unit) (.start hs hl he) h fun d v β1 H1 S1 n1 f1 r1 h1 => ?_
    split at h1
    · rename_i e1
      refine ⟨true, tru_of n1.st r1 e1, ?_⟩
      rw [if_pos rfl]
      exact rd_lastE n1 h1
    · rename_i e1
      refine ⟨false, tru_of n1.st r1 e1, ?_⟩
      rw [if_neg Bool.false_ne_true]
      exact h1 β1 H1 v n1.fin r1
    · exact False.elim h1
theorem pe_orC {M : MtF} {E : List Nat → EvF} (hE : SE T c k M E) {sc : Scope} {p : Pos} (C : Ctx T c k W X) (hsc : X.env.scope = sc) : ∀ (l : List Ex) (es : List Expr), mtL M sc l es = true → 1 ≤ l.length → PE X (.BoolOp .Or es p) (rdE T X.K W fun ms g S => evOr (E ms) l g S)
  | [], _, _, h => by simp at h
  | _ :: _, [], h, _ => by simp [mtL] at h
  | [x], [e], h, _ => by
    simp [mtL] at h
    exact pe_one (hE sc x e W X h C hsc)
  | [x], e :: e' :: es, h, _ => by simp [mtL] at h
  | x :: y :: l, [e], h, _ => by simp [mtL] at h
  | x :: y :: l, e :: e' :: es, h, _ => by
    have h' : M sc x e = true ∧ mtL M sc (y :: l) (e' :: es) = true := by simpa [mtL] using h
    refine (pe_orT (hE sc x e W X h'.1 C hsc) (pe_orC hE C hsc (y :: l) (e' :: es) h'.2 (by simp))).imp fun σ H Q h => ?_
    obtain ⟨β, ms, g, S, hs, hl, he, h⟩ := h
    simp only [evAnd, evOr] at h
    refine rd_into (γ := Unit) (.start hs hl he) h fun d v β1 H1 S1 n1 f1 r1 h1 => ?_
    split at h1
    · rename_i e1
      refine ⟨false, tru_of n1.st r1 e1, ?_⟩
      rw [if_neg Bool.false_ne_true]
      exact rd_lastE n1 h1
    · rename_i e1
      refine ⟨true, tru_of n1.st r1 e1, ?_⟩
      rw [if_pos rfl]
      exact h1 β1 H1 v n1.fin r1
    · exact False.elim h1
theorem pw_andC {M : MtF} {E : List Nat → TtF} (hE : ST T c k M E) {sc : Scope} {p : Pos} (C : Ctx T c k W X) (hsc : X.env.scope = sc) : ∀ (l : List Ex) (es : List Expr), mtL M sc l es = true → 1 ≤ l.length → PW X (.BoolOp .And es p) (rdT T X.K W fun ms g S => ttAnd (E ms) l g S)
  | [], _, _, h => by simp at h
  | _ :: _, [], h, _ => by simp [mtL] at h
  | [x], [e], h, _ => by
    simp [mtL] at h
    refine ⟨fun wh pins s σ H Q I q => (pw_and1 (hE sc x e W X h C hsc)).run wh pins s σ H Q I ?_⟩
    obtain ⟨β, ms, g, S, hs, hl, he, h⟩ := q
    simp only [ttAnd, ttOr] at h
    refine rd_intoT (.start hs hl he) h fun d β1 H1 S1 n1 f1 h1 => ?_
    cases d
    · exact h1 β1 H1 n1.fin
    · exact h1 β1 H1 n1.fin
  | [x], e :: e' :: es, h, _ => by simp [mtL] at h
  | x :: y :: l, [e], h, _ => by simp [mtL] at h
  | x :: y :: l, e :: e' :: es, h, _ => by
    have h' : M sc x e = true ∧ mtL M sc (y :: l) (e' :: es) = true := by simpa [mtL] using h
    refine ⟨fun wh pins s σ H Q I q => (pw_and (hE sc x e W X h'.1 C hsc) (pw_andC hE C hsc (y :: l) (e' :: es) h'.2 (by simp))).run wh pins s σ H Q I ?_⟩
    obtain ⟨β, ms, g, S, hs, hl, he, h⟩ := q
    simp only [ttAnd, ttOr] at h
    refine rd_intoT (.start hs hl he) h fun d β1 H1 S1 n1 f1 h1 => ?_
    cases d
    · exact h1 β1 H1 n1.fin
    · exact rd_lastT n1 h1
theorem pw_orC {M : MtF} {E : List Nat → TtF} (hE : ST T c k M E) {sc : Scope} {p : Pos} (C : Ctx T c k W X) (hsc : X.env.scope = sc) : ∀ (l : List Ex) (es : List Expr), mtL M sc l es = true → 1 ≤ l.length → PW X (.BoolOp .Or es p) (rdT T X.K W fun ms g S => ttOr (E ms) l g S)
  | [], _, _, h => by simp at h
  | _ :: _, [], h, _ => by simp [mtL] at h
  | [x], [e], h, _ => by
    simp [mtL] at h
    refine ⟨fun wh pins s σ H Q I q => (pw_or1 (hE sc x e W X h C hsc)).run wh pins s σ H Q I ?_⟩
    obtain ⟨β, ms, g, S, hs, hl, he, h⟩ := q
    simp only [ttAnd, ttOr] at h
    refine rd_intoT (.start hs hl he) h fun d β1 H1 S1 n1 f1 h1 => ?_
    cases d
    · exact h1 β1 H1 n1.fin
    · exact h1 β1 H1 n1.fin
  | [x], e :: e' :: es, h, _ => by simp [mtL] at h
  | x :: y :: l, [e], h, _ => by simp [mtL] at h
  | x :: y :: l, e :: e' :: es, h, _ => by
    have h' : M sc x e = true ∧ mtL M sc (y :: l) (e' :: es) = true := by simpa [mtL] using h
    refine ⟨fun wh pins s σ H Q I q => (pw_or (hE sc x e W X h'.1 C hsc) (pw_orC hE C hsc (y :: l) (e' :: es) h'.2 (by simp))).run wh pins s σ H Q I ?_⟩
    obtain ⟨β, ms, g, S, hs, hl, he, h⟩ := q
    simp only [ttAnd, ttOr] at h
    refine rd_intoT (.start hs hl he) h fun d β1 H1 S1 n1 f1 h1 => ?_
    cases d
    · exact rd_lastT n1 h1
    · exact h1 β1 H1 n1.fin

/-! ### a if t else b; a test that is a value -/
theorem pe_iteC {t a b : Expr} {Ft : List Nat → GE → Sto → R Bool} {Fa Fb : List Nat → GE → Sto → R D} {p : Pos} (ht : PT X t (rdT T X.K W Ft)) (ha : PE X a (rdE T X.K W Fa)) (hb : PE X b (rdE T X.K W Fb)) :
    PE X (.IfExp t a b p) (rdE T X.K W fun ms g S => (Ft ms g S).bind fun t S1 => if t then Fa ms g S1 else Fb ms g S1) := by
  refine (pe_ifExp ht ha hb).imp fun σ H Q h => ?_
  obtain ⟨β, ms, g, S, hs, hl, he, h⟩ := h
  refine rd_intoT (.start hs hl he) h fun d β1 H1 S1 n1 f1 h1 => ?_
  cases d
  · exact rd_lastE n1 h1
  · exact rd_lastE n1 h1
theorem pt_plainC {e : Expr} {F : List Nat → GE → Sto → R D} (h : PE X e (rdE T X.K W F)) (he : ∀ whole, isTrue e X.env whole = (do let v ← whole; standAt e.pos; holding [v] (truthy v))) :
    PT X e (rdT T X.K W fun ms g S => (F ms g S).bind fun d S1 => .lift (truth S1 d) S1) := by
  refine (pt_truth h he).imp fun σ H Q h => ?_
  obtain ⟨β, ms, g, S, hs, hl, he, h⟩ := h
  refine rd_into (γ := Unit) (.start hs hl he) h fun d x β1 H1 S1 n1 f1 r1 h1 => ?_
  obtain ⟨b, e1, q⟩ := lift_good h1
  exact ⟨b, tru_of n1.st r1 e1, q β1 H1 n1.fin⟩
theorem pt_cmpC {a b : Expr} {Fa Fb : List Nat → GE → Sto → R D} {op : Cop} {p : Pos} (hu : X.A.units + 64 < cLine) (ha : PE X a (rdE T X.K W Fa)) (hb : PE X b (rdE T X.K W Fb)) (hm : behindInMarks (cmpOf op) b = false) :
    PT X (.Compare a [cmpOf op] [b] p) (rdT T X.K W fun ms g S => (Fa ms g S).bind fun x S1 => (Fb ms g S1).bind fun y S2 => .lift (cmpop S2 op x y) S2) := by
  refine (pt_cmpR (op_cmpB (T := T) hu op) ha hb hm).imp fun σ H Q h => ?_
  obtain ⟨β, ms, g, S, hs, hl, he, h⟩ := h
  refine rd_into (γ := Unit) (.start hs hl he) h fun d x β1 H1 S1 n1 f1 r1 h1 => rd_into (γ := Unit) n1 h1 fun d2 y β2 H2 S2 n2 f2 r2 h2 => ?_
  obtain ⟨b, e, q⟩ := lift_good h2
  exact ⟨β2, ms, S2, d, d2, .bl b, n2.st, n2.low, r1.ext f2.ext, r2, congrArg (Option.map D.bl) e, fun β3 H3 z f3 rz => ⟨b, rz.bl_, q β3 H3 (n2.fin.trans f3)⟩⟩
theorem pt_cmp2C {a b d : Expr} {Fa Fb Fc : List Nat → GE → Sto → R D} {op op' : Cop} {p : Pos} (hu : X.A.units + 64 < cLine) (ha : PE X a (rdE T X.K W Fa)) (hb : PE X b (rdE T X.K W Fb)) (hc : PE X d (rdE T X.K W Fc)) (hm : lastMarks [cmpOf op, cmpOf op'] [b, d] = false) :
    PT X (.Compare a [cmpOf op, cmpOf op'] [b, d] p) (rdT T X.K W fun ms g S => (Fa ms g S).bind fun x S1 => (Fb ms g S1).bind fun y S2 => match cmpop S2 op x y with
      | some true => (Fc ms g S2).bind fun z S3 => (.lift (cmpop S3 op' y z) S3)
      | some false => .ok false S2
      | none => .bad) := by
  refine (pt_chain (op_cmpB (T := T) hu op) (op_cmpB (T := T) hu op') ha hb hc hm).imp fun σ H Q h => ?_
  obtain ⟨β, ms, g, S, hs, hl, he, h⟩ := h
  refine rd_into (γ := Unit) (.start hs hl he) h fun d x β1 H1 S1 n1 f1 r1 h1 => rd_into (γ := Unit) n1 h1 fun d2 y β2 H2 S2 n2 f2 r2 h2 => ?_
  split at h2
  · rename_i e
    refine ⟨β2, ms, S2, d, d2, .bl true, n2.st, n2.low, r1.ext f2.ext, r2, congrArg (Option.map D.bl) e, fun β3 H3 z f3 rz => ⟨true, rz.bl_, ?_⟩⟩
    refine rd_into (γ := Unit) (n2.next f3) h2 fun d4 w β4 H4 S4 n4 f4 r4 h4 => ?_
    obtain ⟨b, e4, q⟩ := lift_good h4
    exact ⟨β4, ms, S4, d2, d4, .bl b, n4.st, n4.low, (r2.ext f3.ext).ext f4.ext, r4, congrArg (Option.map D.bl) e4, fun β5 H5 z f5 rz => ⟨b, rz.bl_, q β5 H5 (n4.fin.trans f5)⟩⟩
  · rename_i e
    exact ⟨β2, ms, S2, d, d2, .bl false, n2.st, n2.low, r1.ext f2.ext, r2, congrArg (Option.map D.bl) e, fun β3 H3 z f3 rz => ⟨false, rz.bl_, ⟨false, rfl, h2 β3 H3 (n2.fin.trans f3)⟩⟩⟩
  · exact False.elim h2

/-! ### calls of the program's defs -/
theorem call_good {P : Prg} {kk f : Nat} {args : List D} {ms : List Nat} {S : Sto} {PP : D → Sto → Prop} {E : Nat → D → Sto → Prop} (h : GoodE (callK P kk f args ms S) PP E) : ∃ i, P.fns[f]? = some i ∧ args.length = i.ar := by
  cases kk with
  | zero => exact False.elim h
  | succ n =>
    simp only [callK] at h
    split at h
    · exact False.elim h
    · rename_i i e
      refine ⟨i, e, ?_⟩
      split at h
      · assumption
      · exact False.elim h
/-- a call, the def's address told -/
theorem run_call (C : Ctx T c k W X) {pins : List (Addr × Obj)} {s : Shared} {σ : L2.St} {H : Hp} {Q : VK} {f : Nat} {l : List D} {vs : List V} {us : List Value} (I : Inv X pins σ H s) (r : Vals vs us) {ms β0 H0 g β S}
    (n : Now T X.K ms β0 H0 g σ β H S) (rl : RepL T.fa X.K β H l vs) (h : GoodE (callK T.prg k f l ms S) (PV T X.K ms β0 H0 Q) (PX T X.K ms β0 H0 fun c d H' => W c d σ H')) :
    wpAny (model X.prog X.w) X.A (call (.ref (T.fa f)) us) (EP X pins σ Q) X.xe s := by
  obtain ⟨i, e, hl⟩ := call_good h
  obtain ⟨fd, ps, F, hk, hb⟩ := C.fns f i e
  exact run_fnG F C.guards C.room hb C.takes I r ⟨β, ms, S, l, i, n.st, n.low, rl, e, hl, h.mono (fun d S' q => q.trans n.fin) fun c p S' q => q.trans n.fin⟩
theorem pe_callC {es : List Expr} {F : List Nat → GE → Sto → R (List D)} {f : Nat} {y : Str} {p pos : Pos} (C : Ctx T c k W X) (hg : Gl X y) (hm : c.gf.lookup y = some f) (hy : (y == ("__debug__" : Str)) = false) (hf : ∃ i, T.prg.fns[f]? = some i) (ha : PA X es (rdA T X.K W F)) (hne : 1 ≤ es.length) (hst : ∀ e ∈ es, isStar e = false) :
    PE X (.Call (.Name y p) es [] pos) (rdE T X.K W fun ms g S => (F ms g S).bind fun l S1 => callK T.prg k f l ms S1) := by
  cases es with
  | nil => simp at hne
  | cons e es =>
    refine ⟨fun pins s σ H Q I h => ?_⟩
    obtain ⟨i, ei⟩ := hf
    obtain ⟨fd, ps, FF, hk, hb⟩ := C.fns f i ei
    refine wpAny_Call_Name_kw (ld_glob I hg (C.link.gf y f hm) ?_ hy)
    obtain ⟨β, ms, g, S, hs, hl, he, h⟩ := h
    refine PySem.W.callWith_K (h₀ := X.base) I.ok.mod.kin hk (thn (ha.run pos pins s σ H _ I (rd_intoA (.start hs hl he) h (Q := fun vs H1 => ∃ β1 l S1, Now T X.K ms β H g σ β1 H1 S1 ∧ RepL T.fa X.K β1 H1 l vs ∧ GoodE (callK T.prg k f l ms S1) (PV T X.K ms β H Q) (PX T X.K ms β H fun c d H' => W c d σ H'))
      fun l xs β1 H1 S1 n1 f1 r1 h1 => ⟨β1, l, S1, n1, r1, h1⟩)) fun us s1 ⟨vs, H1, I1, r, β1, l, S1, n1, r1, h1⟩ => ⟨I1.kIn, ?_⟩) (star_no (hst e (by simp)) es X.env) (star_any fun x hx => hst x (by simp [hx]))
    exact run_call C I1 r n1 r1 h1
theorem pe_callvC {es : List Expr} {F : List Nat → GE → Sto → R (List D)} {i : Nat} {y : Str} {p pos : Pos} (C : Ctx T c k W X) (hN : X.N[i]? = some y) (hv : Vis X.env.scope y) (hy : (y == ("__debug__" : Str)) = false) (hy2 : (y == ("__classdict__" : Str)) = false) (ha : PA X es (rdA T X.K W F)) (hne : 1 ≤ es.length) (hst : ∀ e ∈ es, isStar e = false) :
    PE X (.Call (.Name y p) es [] pos) (rdE T X.K W fun ms g S => match g[i]? with
      | some (some (.fn f)) => if f < T.prg.fns.length then (F ms g S).bind fun l S1 => callK T.prg k f l ms S1 else .bad
      | _ => .bad) := by
  cases es with
  | nil => simp at hne
  | cons e es =>
    refine ⟨fun pins s σ H Q I h => ?_⟩
    obtain ⟨β, ms, g, S, hs, hl, he, h⟩ := h
    dsimp only at h
    split at h
    · rename_i f eg
      split at h
      · rename_i hlt
        obtain ⟨v, ev, rv⟩ := he.2 i _ eg
        obtain rfl := rv.fn_
        obtain ⟨fd, ps, FF, hk, hb⟩ := C.fns f _ (List.getElem?_eq_getElem hlt)
        refine wpAny_Call_Name_kw (thn ((pe_var (pos := p) hN hv hy hy2).run pins s σ H (fun v H1 => v = .ref (T.fa f) ∧ H1 = H) I ⟨_, ev, rfl, rfl⟩) fun u s1 ⟨v, H1, I1, r1, q1, q2⟩ => ?_)
        subst q1 q2
        cases r1
        refine PySem.W.callWith_K (h₀ := X.base) I.ok.mod.kin hk (thn (ha.run pos pins s1 σ _ _ I1 (rd_intoA (.start hs hl he) h (Q := fun vs H2 => ∃ β1 l S1, Now T X.K ms β H1 g σ β1 H2 S1 ∧ RepL T.fa X.K β1 H2 l vs ∧ GoodE (callK T.prg k f l ms S1) (PV T X.K ms β H1 Q) (PX T X.K ms β H1 fun c d H' => W c d σ H'))
          fun l xs β1 H2 S1 n1 f1 r1 h1 => ⟨β1, l, S1, n1, r1, h1⟩)) fun us s1 ⟨vs, H2, I1, r, β1, l, S1, n1, r1, h1⟩ => ⟨I1.kIn, ?_⟩) (star_no (hst e (by simp)) es X.env) (star_any fun x hx => hst x (by simp [hx]))
        exact run_call C I1 r n1 r1 h1
      · exact False.elim h
    · exact False.elim h
end MP

set_option linter.all false
set_option Elab.async false
set_option maxRecDepth 100000
namespace MP
open PySem PySem.Spec PyProof.Rows L2

section
variable {α : Type} (le : α → α → Bool)
def insG (x : α) : List α → List α
  | [] => [x]
  | y :: r => if le x y then x :: y :: r else y :: insG x r
def isortG : List α → List α
  | [] => []
  | x :: r => insG le x (isortG r)
theorem insG_mem {x z : α} : ∀ {r : List α}, z ∈ insG le x r → z = x ∨ z ∈ r
  | [], h => by simp [insG] at h; exact .inl h
  | y :: r, h => by
    unfold insG at h
    split at h
    · simp at h ⊢; exact h
    · simp at h ⊢
      rcases h with h | h
      · exact .inr (.inl h)
      · rcases insG_mem h with h | h
        · exact .inl h
        · exact .inr (.inr h)
variable (trans : ∀ x y z, le x y = true → le y z = true → le x z = true) (total : ∀ x y, (le x y || le y x) = true)
include trans total
theorem insG_sorted (x : α) : ∀ {r : List α}, r.Pairwise (fun x y => le x y = true) → (insG le x r).Pairwise (fun x y => le x y = true)
  | [], _ => by simp [insG]
  | y :: r, h => by
    unfold insG
    have h' := List.pairwise_cons.mp h
    split
    · rename_i e
      refine List.pairwise_cons.mpr ⟨fun z hz => ?_, h⟩
      rcases List.mem_cons.mp hz with q | q
      · rw [q]; exact e
      · exact trans _ _ _ e (h'.1 z q)
    · rename_i e
      refine List.pairwise_cons.mpr ⟨fun z hz => ?_, insG_sorted x h'.2⟩
      rcases insG_mem le hz with q | q
      · have := total x y
        rw [q]
        simp_all
      · exact h'.1 z q
theorem insG_filter (x z : α) : ∀ (r : List α), (insG le x r).filter (PySem.W.Srt.alike le z) = (x :: r).filter (PySem.W.Srt.alike le z)
  | [] => rfl
  | y :: r => by
    unfold insG
    split
    · rfl
    · rename_i e
      have ih := insG_filter x z r
      rw [List.filter_cons, ih]
      cases hz : PySem.W.Srt.alike le z x with
      | false => simp [List.filter_cons, hz]
      | true =>
        have hy : PySem.W.Srt.alike le z y = false := by
          cases hzy : PySem.W.Srt.alike le z y with
          | false => rfl
          | true =>
            unfold PySem.W.Srt.alike at hz hzy
            simp at hz hzy
            exact absurd (trans _ _ _ hz.2 hzy.1) e
        simp [List.filter_cons, hz, hy]
theorem isortG_eq (l : List α) : isortG le l = l.mergeSort le := by
  refine PySem.W.Srt.the le trans total ?_ fun z => ?_
  · induction l with
    | nil => exact .nil
    | cons x l ih => exact insG_sorted le trans total x ih
  · induction l with
    | nil => rfl
    | cons x l ih =>
      show (insG le x (isortG le l)).filter _ = _
      rw [insG_filter le trans total, List.filter_cons, List.filter_cons, ih]
end

/-! ### the order, as the library tells it -/
theorem isI_ex {d : D} (h : isI d = true) : ∃ i, d = .int i := by cases d <;> simp [isI] at h; exact ⟨_, rfl⟩
theorem ltI_eq : ∀ (l k : List D), (∀ x ∈ l, isI x = true) → (∀ x ∈ k, isI x = true) → ltI l k = PySem.W.rowLt (pdOfs l) (pdOfs k)
  | [], [], _, _ => by
    have e : PySem.W.rowLt [] [] = false := PyProof.Rows.lex_irrefl _
    simp [ltI, pdOfs, e]
  | [], y :: k, _, hk => by
    obtain ⟨j, rfl⟩ := isI_ex (hk y (by simp))
    unfold ltI pdOfs
    rfl
  | x :: l, [], hl, _ => by
    obtain ⟨j, rfl⟩ := isI_ex (hl x (by simp))
    unfold ltI pdOfs
    rfl
  | x :: l, y :: k, hl, hk => by
    obtain ⟨i, rfl⟩ := isI_ex (hl x (by simp))
    obtain ⟨j, rfl⟩ := isI_ex (hk y (by simp))
    have ih := ltI_eq l k (fun z hz => hl z (by simp [hz])) (fun z hz => hk z (by simp [hz]))
    unfold ltI pdOfs PySem.W.rowLt
    rw [PySem.W.dataLt_cons (by simp [pdOf, PySem.W.alike])]
    simp only [pdOf, PyData.eqv]
    rw [ih]
    unfold PySem.W.rowLt
    rw [PySem.W.dataLt_int]
theorem isTI_ex {d : D} (h : isTI d = true) : ∃ x r, d = .tup (x :: r) ∧ ∀ y ∈ x :: r, isI y = true := by
  cases d <;> simp [isTI] at h
  rename_i l
  cases l with
  | nil => simp at h
  | cons x r =>
    cases x <;> simp at h
    exact ⟨_, _, rfl, by simp [isI]; exact h⟩
theorem ltD_int {a b : D} (ha : isI a = true) (hb : isI b = true) : ltD a b = PySem.W.dataLt (pdOf a) (pdOf b) := by
  obtain ⟨i, rfl⟩ := isI_ex ha
  obtain ⟨j, rfl⟩ := isI_ex hb
  simp only [ltD, pdOf]
  rw [PySem.W.dataLt_int]
theorem ltD_tup {a b : D} (ha : isTI a = true) (hb : isTI b = true) : ltD a b = PySem.W.dataLt (pdOf a) (pdOf b) := by
  obtain ⟨x, r, rfl, h1⟩ := isTI_ex ha
  obtain ⟨y, q, rfl, h2⟩ := isTI_ex hb
  simp only [ltD, pdOf]
  rw [PySem.W.dataLt_tuple, ltI_eq _ _ h1 h2]
  rfl
abbrev leP : D → D → Bool := PySem.W.dataLe false pdOf
theorem insD_eq {good : D → Prop} (h : ∀ a b, good a → good b → ltD a b = PySem.W.dataLt (pdOf a) (pdOf b)) {x : D} (hx : good x) : ∀ {r : List D}, (∀ y ∈ r, good y) → insD x r = insG leP x r
  | [], _ => rfl
  | y :: r, hr => by
    unfold insD insG
    rw [insD_eq h hx (r := r) fun z hz => hr z (by simp [hz]), h y x (hr y (by simp)) hx]
    rfl
theorem isortD_mem {z : D} : ∀ {r : List D}, z ∈ isortG leP r → z ∈ r
  | [], h => h
  | x :: r, h => by
    rcases insG_mem leP h with q | q
    · simp [q]
    · simp [isortD_mem q]
theorem isortD_eq {good : D → Prop} (h : ∀ a b, good a → good b → ltD a b = PySem.W.dataLt (pdOf a) (pdOf b)) : ∀ {r : List D}, (∀ y ∈ r, good y) → isortD r = isortG leP r
  | [], _ => rfl
  | x :: r, hr => by
    unfold isortD isortG
    rw [isortD_eq h (r := r) fun z hz => hr z (by simp [hz])]
    exact insD_eq h (hr x (by simp)) fun y hy => hr y (by simp [isortD_mem hy])
theorem isortD_merge {good : D → Prop} (h : ∀ a b, good a → good b → ltD a b = PySem.W.dataLt (pdOf a) (pdOf b)) {r : List D} (hr : ∀ y ∈ r, good y) : isortD r = r.mergeSort leP := by
  rw [isortD_eq h hr]
  have t := PySem.W.sortLe_total (PyProof.Rows.listOrd itemOrd) false fun b => PySem.W.keyToks (pdOf b)
  exact isortG_eq leP t.trans (fun x y => by
    have q : leP x y = true ∨ leP y x = true := t.total x y
    rcases q with q | q <;> simp [q]) r
theorem pure_int (n : Nat) (i : Int) : isPure (n + 1) (.int i) = true := rfl
theorem pure_tup (n : Nat) (l : List D) (h : ∀ x ∈ l, isPure n x = true) : isPure (n + 1) (.tup l) = true := by
  simp only [isPure, List.all_eq_true]
  exact h
theorem sort_of {l l' : List D} (e : sortD l = some l') : l' = l.mergeSort leP ∧ (∀ d ∈ l, isPure deep d = true) ∧ PySem.W.AllAlike (l.map pdOf) ∧ PySem.W.Sortable (l.map pdOf) ∧ ∀ d ∈ l, (pdOf d).depth ≤ 2 := by
  unfold sortD at e
  split at e
  · rename_i h
    have e' := (Option.some.inj e).symm
    subst e'
    simp at h
    rcases h with h | h
    · refine ⟨isortD_merge (good := fun d => isI d = true) (fun _ _ => ltD_int) h, fun d hd => ?_, ?_, .inr ?_, fun d hd => ?_⟩
      · obtain ⟨i, rfl⟩ := isI_ex (h d hd); exact pure_int 59 i
      · intro d hd d' hd'
        obtain ⟨a, ha, rfl⟩ := List.mem_map.mp hd
        obtain ⟨b, hb, rfl⟩ := List.mem_map.mp hd'
        obtain ⟨i, rfl⟩ := isI_ex (h a ha)
        obtain ⟨j, rfl⟩ := isI_ex (h b hb)
        simp [pdOf, PySem.W.alike]
      · intro d hd
        obtain ⟨a, ha, rfl⟩ := List.mem_map.mp hd
        obtain ⟨i, rfl⟩ := isI_ex (h a ha)
        exact ⟨by simp [pdOf], by simp [pdOf]⟩
      · obtain ⟨i, rfl⟩ := isI_ex (h d hd); simp [pdOf, PyData.depth]
    · have hall : ∀ r : List D, (∀ y ∈ r, isI y = true) → PyData.depthAll (pdOfs r) = 0 := by
        intro r
        induction r with
        | nil => intro _; simp [pdOfs, PyData.depthAll]
        | cons y r ih =>
          intro hr
          obtain ⟨i, rfl⟩ := isI_ex (hr y (by simp))
          simp [pdOfs, PyData.depthAll, pdOf, PyData.depth, ih fun z hz => hr z (by simp [hz])]
      have hal : ∀ r q : List D, (∀ y ∈ r, isI y = true) → (∀ y ∈ q, isI y = true) → PySem.W.alikeAll (pdOfs r) (pdOfs q) = true := by
        intro r
        induction r with
        | nil => intro q _ _; simp [pdOfs, PySem.W.alikeAll]
        | cons y r ih =>
          intro q hr hq
          cases q with
          | nil => simp [pdOfs, PySem.W.alikeAll]
          | cons z q =>
            obtain ⟨i, rfl⟩ := isI_ex (hr y (by simp))
            obtain ⟨j, rfl⟩ := isI_ex (hq z (by simp))
            simp [pdOfs, PySem.W.alikeAll, pdOf, PySem.W.alike, ih q (fun z hz => hr z (by simp [hz])) fun z hz => hq z (by simp [hz])]
      refine ⟨isortD_merge (good := fun d => isTI d = true) (fun _ _ => ltD_tup) h, fun d hd => ?_, ?_, .inl ?_, fun d hd => ?_⟩
      · obtain ⟨x, r, rfl, h1⟩ := isTI_ex (h d hd)
        refine pure_tup 59 _ fun y hy => ?_
        obtain ⟨i, rfl⟩ := isI_ex (h1 y hy); exact pure_int 58 i
      · intro d hd d' hd'
        obtain ⟨a, ha, rfl⟩ := List.mem_map.mp hd
        obtain ⟨b, hb, rfl⟩ := List.mem_map.mp hd'
        obtain ⟨x, r, rfl, h1⟩ := isTI_ex (h a ha)
        obtain ⟨y, q, rfl, h2⟩ := isTI_ex (h b hb)
        simp only [pdOf, PySem.W.alike]
        exact hal _ _ h1 h2
      · intro d hd
        obtain ⟨a, ha, rfl⟩ := List.mem_map.mp hd
        obtain ⟨x, r, rfl, h1⟩ := isTI_ex (h a ha)
        exact ⟨pdOf x, pdOfs r, by simp [pdOf, pdOfs]⟩
      · obtain ⟨x, r, rfl, h1⟩ := isTI_ex (h d hd)
        simp [pdOf, PyData.depth, hall _ h1]
  · cases e

theorem ints_flat {h : Heap} : ∀ {l : List D} {vs : List Value} {as : List Addr}, (∀ y ∈ l, isI y = true) → ReadsAll h vs (pdOfs l) as → as = []
  | [], _, _, _, r => by
    unfold pdOfs at r
    cases r; rfl
  | d :: l, _, _, hl, r => by
    obtain ⟨i, rfl⟩ := isI_ex (hl d (by simp))
    unfold pdOfs at r
    cases r with
    | cons h1 h2 =>
      unfold pdOf at h1
      cases h1
      rw [ints_flat (fun y hy => hl y (by simp [hy])) h2]
      rfl
theorem sort_flat {l l' : List D} (e : sortD l = some l') (d : D) (hd : d ∈ l) {h : Heap} {v : Value} {as : List Addr} (r : Reads h v (pdOf d) as) : as = [] := by
  unfold sortD at e
  split at e
  · rename_i q
    simp at q
    rcases q with q | q
    · obtain ⟨i, rfl⟩ := isI_ex (q d hd)
      unfold pdOf at r
      cases r; rfl
    · obtain ⟨x, r', rfl, h1⟩ := isTI_ex (q d hd)
      unfold pdOf at r
      cases r with
      | tuple _ _ _ h4 => exact ints_flat h1 h4
  · cases e

/-! ### sorted(x) -/
variable {T : Tab} {X : Cx} {c : Sc} {k : Nat} {W : WX}
section
variable {β : List Addr} {H : Hp} {fa : Nat → Addr} {K : PySem.W.Frag}
theorem each_rep : ∀ {l : List D} {xs : List V} {us : List Value}, RepL fa K β H l xs → Vals xs us → PySem.W.EachIs (fun v d => ∃ x, RelV x v ∧ RepD fa K β H d x) us l
  | [], _, _, h, r => by
    rw [h.unnil] at r
    cases r
    exact .nil
  | d :: l, _, _, h, r => by
    obtain ⟨x, q, rfl, h1, h2⟩ := h.uncons
    cases r with
    | cons r1 r2 => exact .cons ⟨x, r1, h1⟩ (each_rep h2 r2)
theorem rep_each : ∀ {l : List D} {us : List Value}, PySem.W.EachIs (fun v d => ∃ x, RelV x v ∧ RepD fa K β H d x) us l → ∃ xs, RepL fa K β H l xs ∧ Vals xs us
  | _, _, .nil => ⟨[], .nil, .nil⟩
  | _, _, .cons ⟨x, h1, h2⟩ t => by
    obtain ⟨xs, a, b⟩ := rep_each t
    exact ⟨x :: xs, .cons h2 a, .cons h1 b⟩
theorem each_imp {α γ : Type} {R R' : α → γ → Prop} : ∀ {us : List α} {l : List γ}, PySem.W.EachIs R us l → (∀ u d, d ∈ l → R u d → R' u d) → PySem.W.EachIs R' us l
  | _, _, .nil, _ => .nil
  | _, _, .cons h t, f => .cons (f _ _ (by simp) h) (each_imp t fun u d hd => f u d (by simp [hd]))
end
theorem sort_lst (hu : X.A.units + 64 < cLine) {pins : List (Addr × Obj)} {s : Shared} {σ : L2.St} {H : Hp} {Q : VK} {β S} {p : Addr} {xs : List V} {l l' : List D} (hs : RepS T.fa X.K β H S) (I : Inv X pins σ H s)
    (h1 : SqL X.K H p xs) (h2 : RepL T.fa X.K β H l xs) (e : sortD l = some l') (q : ∀ (ys : List V) n, H n = none → RepL T.fa X.K β H l' ys → ys.length ≤ sizeLine → Q (.ref n) (upd H n (.lst ys))) :
    wpAny (model X.prog X.w) X.A (call (.builtin "sorted") [.ref p]) (EP X pins σ Q) X.xe s := by
  obtain ⟨e1, e2, e3, e4, e5⟩ := sort_of e
  obtain ⟨its, rv, hl, hz⟩ := I.list h1
  have hll := h2.length
  refine PySem.W.sorted_data (enc := pdOf) (bs := l) hl.isList (each_rep h2 rv) (each_imp (each_rep h2 rv) fun u d hd ⟨x, a, b⟩ => ?_) e3 e4 (by omega) (fun d hd => ?_) fun out ho eo => ?_
  · exact Dp.reads I _ x u (dp_of _ _ _ (e2 d hd) b) a
  · have := e5 d hd; omega
  · rw [← e1] at eo
    obtain ⟨ys, r1, r2⟩ := rep_each eo
    obtain ⟨ep, he'⟩ := PyProof.Rows.sortedAll_at s.heap its out.toArray
    have hlen : ys.length ≤ sizeLine := by rw [r2.length, ho]; omega
    exact ⟨.ref _, upd H (s.heap.objs.size + 1) (.lst ys), I.laid (t' := s.toks) (fun _ _ => PyProof.Rows.sortedAll_old) (Nat.le_succ _) ⟨hlen, out, ep, r2, he'⟩, rfl, q _ _ (I.hok.fresh (Nat.le_succ _)) r1 hlen⟩

/-- sorted(d), d walked by its keys -/
theorem sort_src (hu : X.A.units + 64 < cLine) {pins : List (Addr × Obj)} {s : Shared} {σ : L2.St} {H : Hp} {Q : VK} {β S} {d : Addr} {l l' : List D} (hs : RepS T.fa X.K β H S) (I : Inv X pins σ H s)
    (hc : ∀ R : List Value → Shared → Prop, (∀ (h' : Heap) (tk : Nat) (acc : Array Value) (ys : List V), (∀ b o, s.heap.get? b = some o → h'.get? b = some o) → Vals ys acc.toList → RepL T.fa X.K β H l ys → R acc.toList { s with heap := h', toks := tk }) → wpAny (model X.prog X.w) X.A.in1 (collect (.ref d)) R X.xe s)
    (e : sortD l = some l') (hz : l.length ≤ sizeLine) (q : ∀ (ys : List V) n, H n = none → RepL T.fa X.K β H l' ys → ys.length ≤ sizeLine → Q (.ref n) (upd H n (.lst ys))) :
    wpAny (model X.prog X.w) X.A (call (.builtin "sorted") [.ref d]) (EP X pins σ Q) X.xe s := by
  obtain ⟨e1, e2, e3, e4, e5⟩ := sort_of e
  refine Calls.call_function_entry PyProof.Rows.kind_sorted PyProof.Rows.plain_sorted PyProof.Rows.entry_sorted (PyProof.Rows.args_sorted1 _) ?_
  unfold Builtin.«sorted»
  refine wpAny_bind (m := checkCount "sorted" 1 1 _) (wpAny_pure ?_)
  refine wpAny_bind (hc _ fun h' tk acc ys hk rv rl => ?_)
  have hal : acc.toList.length = l.length := by rw [← rv.length, ← rl.length]
  have I1 : Inv X pins σ H { s with heap := h', toks := tk } := I.kept hk
  refine wpAny_bind (wpAny_newList ?_ (by rw [hal]; exact hz))
  have hoL : (h'.push (seqObj "list" acc.toList.toArray 0)).get? h'.objs.size = some (seqObj "list" acc.toList.toArray 0) := Heap.get?_push_size _ rfl
  have I2 : Inv X pins σ H { s with heap := h'.push (seqObj "list" acc.toList.toArray 0), toks := tk } := I1.kept fun b o eo => Heap.get?_push_of_some _ eo
  show wpAny _ _ _ _ _ { s with heap := h'.push (seqObj "list" acc.toList.toArray 0), toks := tk }
  refine wpAny_bind (wpAny_holding (PySem.W.list_sort_data (s := { s with heap := h'.push (seqObj "list" acc.toList.toArray 0), toks := tk }) (enc := pdOf) (bs := l) hoL (each_rep rl rv) (each_imp (each_rep rl rv) fun u dd hd ⟨x, a, b⟩ => ?_) e3 e4 hz (fun dd hd => ?_) fun out ho eo => ?_))
  · obtain ⟨as, r⟩ := Dp.reads I1 _ x u (dp_of _ _ _ (e2 dd hd) b) a
    refine ⟨as, PyProof.Rows.Reads.keeps (fun b o eo => Heap.get?_push_of_some _ eo) r, fun hm => ?_⟩
    rw [sort_flat e dd hd r] at hm
    cases hm
  · have := e5 dd hd
    show X.A.in1.units + 1 + _ < _
    simp only [Around.in1]
    omega
  · rw [← e1] at eo
    obtain ⟨zs, r1, r2⟩ := rep_each eo
    obtain ⟨ep, he'⟩ := PyProof.Rows.sortedHeap_at (vs := acc.toList) (out := out.toArray) hoL
    have hlen : zs.length ≤ sizeLine := by rw [r2.length, ho]; exact hz
    refine wpAny_pure ⟨_, rfl, .ref h'.objs.size, upd H h'.objs.size (.lst zs), I1.laid (t' := tk) (fun b u e => ?_) (Nat.le_refl _)
      (show ObjOk X.prog X.w _ _ _ (.lst zs) from ⟨hlen, out, ep, r2, he'⟩), rfl, q _ _ (I1.hok.fresh (Nat.le_refl _)) r1 hlen⟩
    have hb : b < h'.objs.size := Heap.lt_size e
    rw [PyProof.Rows.sortedHeap_old (Nat.ne_of_lt hb) (by rw [size_push']; exact Nat.lt_succ_of_lt hb)]
    exact Heap.get?_push_of_some _ e
end MP

set_option linter.all false
set_option Elab.async false
set_option maxRecDepth 100000
namespace MP
open PySem PySem.Spec PyProof.Rows L2
variable {T : Tab} {X : Cx} {c : Sc} {k : Nat} {W : WX}

/-! ### pairs of a dict -/
section
variable {fa : Nat → Addr} {K : PySem.W.Frag} {β β' : List Addr} {H H' : Hp} {κ : Type}
abbrev RepP (fa : Nat → Addr) (K : PySem.W.Frag) (β : List Addr) (H : Hp) (kd : D → Option κ) (l : List (D × D)) (kvs : List (κ × V)) : Prop := Paired (fun p q => kd p.1 = some q.1 ∧ RepD fa K β H p.2 q.2) l kvs
theorem RepP.of {kd : D → Option κ} : ∀ {l : List (D × D)} {kk : List κ} {us : List V}, (l.map (·.1)).map kd = kk.map some → RepL fa K β H (l.map (·.2)) us → RepP fa K β H kd l (kk.zip us)
  | [], kk, us, h1, h2 => by
    cases kk with
    | nil => exact .nil
    | cons a b => simp at h1
  | (a, d) :: l, kk, us, h1, h2 => by
    cases kk with
    | nil => simp at h1
    | cons ka kk =>
      simp at h1
      obtain ⟨x, r, rfl, h3, h4⟩ := RepL.uncons h2
      exact .cons ⟨h1.1, h3⟩ (RepP.of (by simpa using h1.2) h4)
theorem RepP.to {kd : D → Option κ} : ∀ {l : List (D × D)} {kvs : List (κ × V)}, RepP fa K β H kd l kvs → ∃ (kk : List κ) (us : List V), kvs = kk.zip us ∧ (l.map (·.1)).map kd = kk.map some ∧ RepL fa K β H (l.map (·.2)) us ∧ kk.length = us.length
  | _, _, .nil => ⟨[], [], rfl, rfl, .nil, rfl⟩
  | p :: _, q :: _, .cons h t => by
    obtain ⟨kk, us, e, h1, h2, h3⟩ := RepP.to t
    exact ⟨q.1 :: kk, q.2 :: us, by rw [List.zip_cons_cons, ← e], by simp [h.1]; simpa using h1, .cons h.2 h2, by simp [h3]⟩
theorem RepP.put [DecidableEq κ] {kd : D → Option κ} {k v : D} {key : κ} {x : V} (same : ∀ a ka, kd a = some ka → sameD deep a k = decide (ka = key)) (hk : kd k = some key) (hv : RepD fa K β H v x) {l : List (D × D)} {kvs : List (κ × V)} (h : RepP fa K β H kd l kvs) :
    RepP fa K β H kd (MP.putK k v l) (L2.putK kvs key x) := by
  have e : (findK k l).isSome = kvs.any fun kv => decide (kv.1 = key) := by
    induction h with
    | nil => rfl
    | @cons p q ps qs h t ih =>
      obtain ⟨a, d⟩ := p
      simp only [findK, List.any_cons]
      rw [same a q.1 h.1]
      by_cases z : q.1 = key
      · simp [z]
      · simp only [z, decide_false, Bool.false_or]
        simpa using ih
  unfold MP.putK L2.putK
  rw [e]
  split
  · rename_i z
    clear e z
    induction h with
    | nil => exact .nil
    | @cons p q ps qs h t ih =>
      refine .cons ?_ ih
      dsimp only
      rw [same p.1 q.1 h.1]
      by_cases z : q.1 = key
      · simp [z]; exact ⟨by rw [← z]; exact h.1, hv⟩
      · simp [z]; exact h
  · rename_i z
    clear e z
    induction h with
    | nil => exact .cons ⟨hk, hv⟩ .nil
    | @cons p q ps qs h t ih => exact .cons h ih
theorem RepP.merge {more : List (D × D)} {kvm : List (Key × V)} (h : RepP fa K β H keyD more kvm) : ∀ {l : List (D × D)} {kvs : List (Key × V)}, RepP fa K β H keyD l kvs → RepP fa K β H keyD (mergeD l more) (mergeK kvs kvm) := by
  induction h with
  | nil => intro l kvs q; exact q
  | @cons p q ps qs h t ih =>
    intro l kvs r
    obtain ⟨a, d⟩ := p
    exact ih (RepP.put (k := a) (v := d) (key := q.1) (fun a ka ha => sameD_key ha h.1) h.1 h.2 r)
theorem RepP.length {kd : D → Option κ} {l : List (D × D)} {kvs : List (κ × V)} (h : RepP fa K β H kd l kvs) : l.length = kvs.length := Paired.length h
end

/-! ### built-in functions -/
def biVal : Bi → Value
  | .xtuple => .type "tuple" | .len => .builtin "len" | .tuple => .type "tuple" | .list => .type "list" | .all => .builtin "all" | .any => .builtin "any" | .max => .builtin "max" | .min => .builtin "min" | .sum => .builtin "sum" | .abs => .builtin "abs" | .int => .type "int" | .sorted => .builtin "sorted" | .dict => .type "dict" | .str => .type "str"
def rBi (T : Tab) (K : PySem.W.Frag) (bx : Bool) (b : Bi) : List V → Hp → VK → Prop := fun vs H Q => ∃ β ms S l, RepS T.fa K β H S ∧ LowS ms S ∧ RepL T.fa K β H l vs ∧ GoodE (biE bx b S l) (PV T K ms β H Q) (fun _ _ _ => False)
theorem rl_one {fa : Nat → Addr} {K : PySem.W.Frag} {β : List Addr} {H : Hp} {d : D} {vs : List V} (h : RepL fa K β H [d] vs) : ∃ x, vs = [x] ∧ RepD fa K β H d x := by
  obtain ⟨x, r, rfl, h1, h2⟩ := h.uncons
  rw [h2.unnil]
  exact ⟨x, rfl, h1⟩
theorem rl_two {fa : Nat → Addr} {K : PySem.W.Frag} {β : List Addr} {H : Hp} {d d' : D} {vs : List V} (h : RepL fa K β H [d, d'] vs) : ∃ x y, vs = [x, y] ∧ RepD fa K β H d x ∧ RepD fa K β H d' y := by
  obtain ⟨x, r, rfl, h1, h2⟩ := h.uncons
  obtain ⟨y, rfl, h3⟩ := rl_one h2
  exact ⟨x, y, rfl, h1, h3⟩
/-- one value in, of a form -/
theorem one_of {b : Bi} {S : Sto} {l : List D} {r : D} (h : biop S b l = some r) (hb : b = .len ∨ b = .tuple ∨ b = .list ∨ b = .all ∨ b = .any ∨ b = .sum ∨ b = .abs ∨ b = .int ∨ b = .sorted ∨ b = .dict) : ∃ d, l = [d] := by
  cases l with
  | nil => rcases hb with rfl | rfl | rfl | rfl | rfl | rfl | rfl | rfl | rfl | rfl <;> simp [biop] at h
  | cons d l =>
    cases l with
    | nil => exact ⟨d, rfl⟩
    | cons e l => rcases hb with rfl | rfl | rfl | rfl | rfl | rfl | rfl | rfl | rfl | rfl <;> simp [biop] at h
theorem biE_ok {bx : Bool} {b : Bi} {S : Sto} {l : List D} {P : D → Sto → Prop} {E : Nat → D → Sto → Prop} (h : GoodE (biE bx b S l) P E) : ∃ r, biop S b l = some r ∧ GoodE (if bx then (match r with
      | .lst x => boxL true x S
      | .dct t ks vs => .ok (.ref S.length) (S ++ [⟨false, .dct t (ks.zip vs)⟩])
      | _ => .bad) else .ok r S) P E := by
  unfold biE at h
  split at h
  · exact False.elim h
  · exact ⟨_, by assumption, h⟩
/-- a result that is no list, no dict -/
theorem plain_ok {bx : Bool} {S : Sto} {r : D} {P : D → Sto → Prop} {E : Nat → D → Sto → Prop} (h : GoodE (if bx then (match r with
      | .lst x => boxL true x S
      | .dct t ks vs => .ok (.ref S.length) (S ++ [⟨false, .dct t (ks.zip vs)⟩])
      | _ => .bad) else .ok r S) P E) (hr : (∀ l, r ≠ .lst l) ∧ ∀ t ks vs, r ≠ .dct t ks vs) : P r S := by
  cases bx
  · exact h
  · cases r <;> first | exact False.elim h | exact absurd rfl (hr.1 _) | exact absurd rfl (hr.2 _ _ _)
/-- a new list -/
theorem new_lst {K : PySem.W.Frag} {ms β H S} {Q : VK} (hs : RepS T.fa K β H S) (hl : LowS ms S) {bx : Bool} {l : List D} {xs : List V} {E : Nat → D → Sto → Prop} (r : RepL T.fa K β H l xs)
    (h : GoodE (if bx then (match D.lst l with
      | .lst x => boxL true x S
      | .dct t ks vs => .ok (.ref S.length) (S ++ [⟨false, .dct t (ks.zip vs)⟩])
      | _ => .bad) else .ok (.lst l) S) (PV T K ms β H Q) E) {p : Addr} (hp : H p = none) : Q (.ref p) (upd H p (.lst xs)) := by
  cases bx
  · exact h β _ _ (.new hs hl hp) (rep_lst hs hp r)
  · have h' : GoodE (boxL true l S) (PV T K ms β H Q) E := h
    unfold boxL at h'
    split at h'
    · refine h' (β ++ [p]) _ _ ⟨Ext.push hp, hs.push hp ⟨xs, upd_same, r.ext (Ext.push hp)⟩, hl.push _⟩ ?_
      unfold RepD
      exact ⟨p, by rw [← hs.len]; simp, rfl⟩
    · exact False.elim h'
theorem lst_at {fa : Nat → Addr} {K : PySem.W.Frag} {β : List Addr} {H : Hp} {S : Sto} (s : RepS fa K β H S) {d : D} {l : List D} {v : V} (e : lstOf S d = some l) (r : RepD fa K β H d v) : ∃ p xs, v = .ref p ∧ SqL K H p xs ∧ RepL fa K β H l xs := by
  unfold lstOf at e
  split at e
  · rename_i l' et
    cases e
    exact top_lst s et r
  · cases e
theorem call_len_b {bx : Bool} : CallR X (.builtin "len") (rBi T X.K bx .len) := by
  intro pins s σ H vs us Q I rv ⟨β, ms, S, l, hs, hl, rl, h⟩
  obtain ⟨r, e, g⟩ := biE_ok h
  obtain ⟨d, rfl⟩ := one_of e (.inl rfl)
  obtain ⟨x, rfl, rx⟩ := rl_one rl
  have fin : ∀ {n : Nat}, some (D.int n) = some r → PV T X.K ms β H Q r S → ∀ t s', Inv X pins σ H s' → EP X pins σ Q (.int n t) s' := fun en q t s' I' => by
    rw [← Option.some.inj en] at q
    exact ⟨.int _, H, I', ⟨t, rfl⟩, q β H _ (.refl hs hl) (rep_int _)⟩
  have np : ∀ {n : Nat}, some (D.int n) = some r → PV T X.K ms β H Q r S := fun en => by
    refine plain_ok g ⟨fun l e => ?_, fun t ks vs e => ?_⟩ <;> (rw [e] at en; cases en)
  simp only [biop] at e
  split at e
  · rename_i z
    rw [rx.str_] at rv
    split at e
    · rename_i hz
      have q := np e
      have er := (Option.some.inj e)
      rw [← er] at q
      exact call_len_str pins s σ H _ us Q I rv ⟨z, rfl, lineOk_le hz, q β H _ (.refl hs hl) (rep_int _)⟩
    · cases e
  · split at e
    · rename_i l' hq
      obtain ⟨p, xs, rfl, h1, h2⟩ := seq_at hs hq rx
      have q := np e
      have er := (Option.some.inj e)
      rw [← er] at q
      refine call_len_seq pins s σ H _ us Q I rv ⟨p, xs, rfl, h1, ?_⟩
      rw [← h2.length]
      exact q β H _ (.refl hs hl) (rep_int _)
    · split at e
      · rename_i t l' hd
        obtain ⟨a, us', rfl, h1, h2⟩ := dct_at hs hd rx
        have q := np e
        have ev := Vals.ref1 rv
        subst ev
        cases t
        · obtain ⟨kk, b1, b2⟩ := h2
          refine d_len I b2 fun t s' I' => ?_
          have hn : (kk.zip us').length = l'.length := (RepP.of b1 h1).length.symm
          rw [hn]
          exact fin e q t s' I'
        · obtain ⟨kk, b1, b2⟩ := h2
          have hn : (kk.zip us').length = l'.length := (RepP.of b1 h1).length.symm
          obtain ⟨z, hd', ys, rel, dd⟩ := dt_rd I.hok b2
          have hl' := Paired.length rel
          refine PySem.call_len_dictH hd' dd (by rw [← hl']; rw [sizeLine_eq] at z; omega) ?_
          rw [← hl', hn]
          exact fin e q _ _ (I.tok _)
      · cases e
theorem call_tuple_b {bx : Bool} : CallR X (.type "tuple") (rBi T X.K bx .tuple) := by
  intro pins s σ H vs us Q I rv ⟨β, ms, S, l, hs, hl, rl, h⟩
  obtain ⟨r, e, g⟩ := biE_ok h
  obtain ⟨d, rfl⟩ := one_of e (.inr (.inl rfl))
  obtain ⟨x, rfl, rx⟩ := rl_one rl
  simp only [biop] at e
  obtain ⟨l', hq, rfl⟩ := Option.map_eq_some_iff.mp e
  have q := plain_ok g ⟨fun l => by simp, fun t ks vs => by simp⟩
  unfold tupOf at hq
  split at hq
  · cases hq
    obtain ⟨p, xs, rfl, h1, h2⟩ := rx.tup_
    exact call_tuple_of pins s σ H _ us Q I rv ⟨p, xs, rfl, .inr ⟨h1.sq, q β H _ (.refl hs hl) rx⟩⟩
  · obtain ⟨p, xs, rfl, h1, h2⟩ := lst_at hs hq rx
    exact call_tuple_of pins s σ H _ us Q I rv ⟨p, xs, rfl, .inl ⟨h1, fun n hn => q β _ _ (.new hs hl hn) (rep_tup hs hn h2)⟩⟩
theorem call_xtuple_b {bx : Bool} : CallR X (.type "tuple") (rBi T X.K bx .xtuple) := by
  intro pins s σ H vs us Q I rv ⟨β, ms, S, l, hs, hl, rl, h⟩
  obtain ⟨r, e, g⟩ := biE_ok h
  cases l with
  | nil => simp [biop] at e
  | cons d l =>
    cases l with
    | cons e' l => simp [biop] at e
    | nil =>
      obtain ⟨x, rfl, rx⟩ := rl_one rl
      simp only [biop] at e
      obtain ⟨l', hq, rfl⟩ := Option.map_eq_some_iff.mp e
      have q := plain_ok g ⟨fun l => by simp, fun t ks vs => by simp⟩
      obtain ⟨p, xs, rfl, h1, h2⟩ := lst_at hs hq rx
      have ev := Vals.ref1 rv
      subst ev
      obtain ⟨its, r', pl, hz⟩ := I.list h1
      have hlen := r'.length
      refine call_tuple_list pl.isList (fun h' kp => ?_) (by simp only [List.size_toArray] <;> omega)
      have I1 : Inv X pins σ H { s with heap := h' } := I.kept (t' := s.toks) kp
      have hn : H h'.objs.size = none := I1.hok.fresh (Nat.le_refl _)
      have I2 : Inv X pins σ (upd H h'.objs.size (.frz { cls := .type "tuple", data := .seq its.toArray } (.tup xs))) { s with heap := h'.push { cls := .type "tuple", data := .seq its.toArray } } :=
        I1.laid (t' := s.toks) (fun b o e => Heap.get?_push_of_some _ e) (Nat.le_refl _) (show ObjOk X.prog X.w _ _ _ (.frz _ (.tup xs)) from ⟨Heap.get?_push_size _ rfl, hz, its, r', IsTup.new _ _⟩)
      refine ⟨.ref h'.objs.size, _, I2, rfl, q β _ _ (.new hs hl hn) ?_⟩
      unfold RepD
      exact ⟨_, xs, _, rfl, upd_same, rfl, hs.fresh hn, h2.ext (Ext.new hn)⟩
theorem call_list_b {bx : Bool} : CallR X (.type "list") (rBi T X.K bx .list) := by
  intro pins s σ H vs us Q I rv ⟨β, ms, S, l, hs, hl, rl, h⟩
  obtain ⟨r, e, g⟩ := biE_ok h
  obtain ⟨d, rfl⟩ := one_of e (.inr (.inr (.inl rfl)))
  obtain ⟨x, rfl, rx⟩ := rl_one rl
  simp only [biop] at e
  obtain ⟨l', hq, rfl⟩ := Option.map_eq_some_iff.mp e
  obtain ⟨p, xs, rfl, h1, h2⟩ := seq_at hs hq rx
  exact call_list_of pins s σ H _ us Q I rv ⟨p, xs, rfl, h1, fun n hn => new_lst hs hl h2 g hn⟩
theorem call_all_b {bx : Bool} (hc : X.calm = true) : CallR X (.builtin "all") (rBi T X.K bx .all) := by
  intro pins s σ H vs us Q I rv ⟨β, ms, S, l, hs, hl, rl, h⟩
  obtain ⟨r, e, g⟩ := biE_ok h
  obtain ⟨d, rfl⟩ := one_of e (.inr (.inr (.inr (.inl rfl))))
  obtain ⟨x, rfl, rx⟩ := rl_one rl
  simp only [biop] at e
  split at e
  · rename_i l' hq
    obtain ⟨bs, hb, rfl⟩ := Option.map_eq_some_iff.mp e
    obtain ⟨p, xs, rfl, h1, h2⟩ := lst_at hs hq rx
    rw [h2.toBools hb] at h1
    have q := plain_ok g ⟨fun l => by simp, fun t ks vs => by simp⟩
    exact cr_all hc pins s σ H _ us Q I rv ⟨p, bs, rfl, h1, q β H _ (.refl hs hl) (rep_bl _)⟩
  · cases e
theorem call_any_b {bx : Bool} (hc : X.calm = true) : CallR X (.builtin "any") (rBi T X.K bx .any) := by
  intro pins s σ H vs us Q I rv ⟨β, ms, S, l, hs, hl, rl, h⟩
  obtain ⟨r, e, g⟩ := biE_ok h
  obtain ⟨d, rfl⟩ := one_of e (.inr (.inr (.inr (.inr (.inl rfl)))))
  obtain ⟨x, rfl, rx⟩ := rl_one rl
  simp only [biop] at e
  split at e
  · rename_i l' hq
    obtain ⟨bs, hb, rfl⟩ := Option.map_eq_some_iff.mp e
    obtain ⟨p, xs, rfl, h1, h2⟩ := lst_at hs hq rx
    rw [h2.toBools hb] at h1
    have q := plain_ok g ⟨fun l => by simp, fun t ks vs => by simp⟩
    exact cr_any hc pins s σ H _ us Q I rv ⟨p, bs, rfl, h1, q β H _ (.refl hs hl) (rep_bl _)⟩
  · cases e
theorem call_sum_b {bx : Bool} (hc : X.calm = true) : CallR X (.builtin "sum") (rBi T X.K bx .sum) := by
  intro pins s σ H vs us Q I rv ⟨β, ms, S, l, hs, hl, rl, h⟩
  obtain ⟨r, e, g⟩ := biE_ok h
  obtain ⟨d, rfl⟩ := one_of e (by simp)
  obtain ⟨x, rfl, rx⟩ := rl_one rl
  simp only [biop] at e
  split at e
  · rename_i l' hq
    obtain ⟨ns, hb, rfl⟩ := Option.map_eq_some_iff.mp e
    obtain ⟨p, xs, rfl, h1, h2⟩ := lst_at hs hq rx
    rw [h2.toInts hb] at h1
    have q := plain_ok g ⟨fun l => by simp, fun t ks vs => by simp⟩
    exact cr_sum hc pins s σ H _ us Q I rv ⟨p, ns, rfl, h1, q β H _ (.refl hs hl) (rep_int _)⟩
  · cases e
theorem call_abs_b {bx : Bool} : CallR X (.builtin "abs") (rBi T X.K bx .abs) := by
  intro pins s σ H vs us Q I rv ⟨β, ms, S, l, hs, hl, rl, h⟩
  obtain ⟨r, e, g⟩ := biE_ok h
  obtain ⟨d, rfl⟩ := one_of e (by simp)
  obtain ⟨x, rfl, rx⟩ := rl_one rl
  cases d <;> simp [biop] at e
  subst e
  have q := plain_ok g ⟨fun l => by simp, fun t ks vs => by simp⟩
  rw [rx.int_] at rv
  exact call_abs pins s σ H _ us Q I rv ⟨_, rfl, q β H _ (.refl hs hl) (rep_int _)⟩
theorem call_int_b {bx : Bool} : CallR X (.type "int") (rBi T X.K bx .int) := by
  intro pins s σ H vs us Q I rv ⟨β, ms, S, l, hs, hl, rl, h⟩
  obtain ⟨r, e, g⟩ := biE_ok h
  obtain ⟨d, rfl⟩ := one_of e (by simp)
  obtain ⟨x, rfl, rx⟩ := rl_one rl
  cases d <;> simp [biop] at e
  subst e
  have q := plain_ok g ⟨fun l => by simp, fun t ks vs => by simp⟩
  rw [rx.int_] at rv
  exact call_int1 pins s σ H _ us Q I rv (.inl ⟨_, rfl, q β H _ (.refl hs hl) (rep_int _)⟩)
theorem maxI_mem : ∀ (r : List Int) (i : Int), maxI i r ∈ i :: r ∧ ∀ y ∈ i :: r, y ≤ maxI i r
  | [], i => by simp [maxI]
  | j :: r, i => by
    obtain ⟨h1, h2⟩ := maxI_mem r (if j > i then j else i)
    have h3 := h2 (if j > i then j else i) (by simp)
    unfold maxI
    refine ⟨?_, fun y hy => ?_⟩
    · rcases List.mem_cons.mp h1 with h | h
      · rw [h]
        split <;> simp
      · simp [h]
    · have h4 : ∀ z ∈ r, z ≤ maxI (if j > i then j else i) r := fun z hz => h2 z (by simp [hz])
      rcases List.mem_cons.mp hy with h | h
      · rw [h]; split at h3 <;> split <;> simp_all <;> omega
      · rcases List.mem_cons.mp h with h | h
        · rw [h]; split at h3 <;> split <;> simp_all <;> omega
        · exact h4 y h
theorem minI_mem : ∀ (r : List Int) (i : Int), minI i r ∈ i :: r ∧ ∀ y ∈ i :: r, minI i r ≤ y
  | [], i => by simp [minI]
  | j :: r, i => by
    obtain ⟨h1, h2⟩ := minI_mem r (if j < i then j else i)
    have h3 := h2 (if j < i then j else i) (by simp)
    unfold minI
    refine ⟨?_, fun y hy => ?_⟩
    · rcases List.mem_cons.mp h1 with h | h
      · rw [h]
        split <;> simp
      · simp [h]
    · have h4 : ∀ z ∈ r, minI (if j < i then j else i) r ≤ z := fun z hz => h2 z (by simp [hz])
      rcases List.mem_cons.mp hy with h | h
      · rw [h]; split at h3 <;> split <;> simp_all <;> omega
      · rcases List.mem_cons.mp h with h | h
        · rw [h]; split at h3 <;> split <;> simp_all <;> omega
        · exact h4 y h
theorem call_max_b {bx : Bool} (hc : X.calm = true) : CallR X (.builtin "max") (rBi T X.K bx .max) := by
  intro pins s σ H vs us Q I rv ⟨β, ms, S, l, hs, hl, rl, h⟩
  obtain ⟨r, e, g⟩ := biE_ok h
  cases l with
  | nil => simp [biop] at e
  | cons d l =>
    cases l with
    | nil =>
      obtain ⟨x, rfl, rx⟩ := rl_one rl
      simp only [biop] at e
      split at e
      · rename_i l' hq
        split at e
        · rename_i i ns hb
          obtain ⟨p, xs, rfl, h1, h2⟩ := lst_at hs hq rx
          rw [h2.toInts hb] at h1
          have er := Option.some.inj e
          subst er
          have q := plain_ok g ⟨fun l => by simp, fun t ks vs => by simp⟩
          refine cr_max hc pins s σ H _ us Q I rv ⟨p, i :: ns, rfl, h1, by simp, fun m hm hall => ?_⟩
          obtain ⟨h3, h4⟩ := maxI_mem ns i
          have em : m = maxI i ns := Int.le_antisymm (h4 m hm) (hall _ h3)
          rw [em]
          exact q β H _ (.refl hs hl) (rep_int _)
        · cases e
      · cases e
    | cons d' l =>
      cases l with
      | nil =>
        obtain ⟨x, y, rfl, rx, ry⟩ := rl_two rl
        cases d <;> cases d' <;> simp [biop] at e
        subst e
        have q := plain_ok g ⟨fun l => by simp, fun t ks vs => by simp⟩
        rw [rx.int_, ry.int_] at rv
        exact call_max2 hc pins s σ H _ us Q I rv ⟨_, _, rfl, q β H _ (.refl hs hl) (rep_int _)⟩
      | cons d'' l => simp [biop] at e
theorem call_min_b {bx : Bool} (hc : X.calm = true) : CallR X (.builtin "min") (rBi T X.K bx .min) := by
  intro pins s σ H vs us Q I rv ⟨β, ms, S, l, hs, hl, rl, h⟩
  obtain ⟨r, e, g⟩ := biE_ok h
  cases l with
  | nil => simp [biop] at e
  | cons d l =>
    cases l with
    | nil =>
      obtain ⟨x, rfl, rx⟩ := rl_one rl
      simp only [biop] at e
      split at e
      · rename_i l' hq
        split at e
        · rename_i i ns hb
          obtain ⟨p, xs, rfl, h1, h2⟩ := lst_at hs hq rx
          rw [h2.toInts hb] at h1
          have er := Option.some.inj e
          subst er
          have q := plain_ok g ⟨fun l => by simp, fun t ks vs => by simp⟩
          refine cr_min hc pins s σ H _ us Q I rv ⟨p, i :: ns, rfl, h1, by simp, fun m hm hall => ?_⟩
          obtain ⟨h3, h4⟩ := minI_mem ns i
          have em : m = minI i ns := Int.le_antisymm (hall _ h3) (h4 m hm)
          rw [em]
          exact q β H _ (.refl hs hl) (rep_int _)
        · cases e
      · cases e
    | cons d' l =>
      cases l with
      | nil =>
        obtain ⟨x, y, rfl, rx, ry⟩ := rl_two rl
        cases d <;> cases d' <;> simp [biop] at e
        subst e
        have q := plain_ok g ⟨fun l => by simp, fun t ks vs => by simp⟩
        rw [rx.int_, ry.int_] at rv
        exact call_min2 hc pins s σ H _ us Q I rv ⟨_, _, rfl, q β H _ (.refl hs hl) (rep_int _)⟩
      | cons d'' l => simp [biop] at e
end MP

set_option linter.all false
set_option Elab.async false
set_option maxRecDepth 100000
namespace MP
open PySem PySem.Spec PyProof.Rows L2
variable {T : Tab} {X : Cx} {c : Sc} {k : Nat} {W : WX}
section
variable {fa : Nat → Addr} {K : PySem.W.Frag} {β : List Addr} {H : Hp}
theorem rep_key {d : D} {key : Key} (e : keyD d = some key) : RepD fa K β H d (kV key) := by
  cases d with
  | int i => simp [keyD] at e; subst e; exact rep_int _
  | str i => simp [keyD] at e; subst e; exact rep_str _
  | _ => simp [keyD] at e
theorem rep_keys : ∀ {ks : List D} {kk : List Key}, ks.map keyD = kk.map some → RepL fa K β H ks (kk.map kV)
  | [], kk, e => by cases kk <;> simp at e; exact .nil
  | d :: ks, kk, e => by
    cases kk with
    | nil => simp at e
    | cons a kk => simp at e; exact .cons (rep_key e.1) (rep_keys (by simpa using e.2))
theorem rep_keyDs : ∀ {ks : List D} {kk : List Key}, keyDs ks = some kk → RepL fa K β H ks (kk.map kV)
  | [], kk, e => by simp [keyDs] at e; subst e; exact .nil
  | d :: ks, kk, e => by
    obtain ⟨a, b, h1, h2, rfl⟩ := keyDs_cons e
    exact .cons (rep_key h1) (rep_keyDs h2)
theorem no_tup {S : Sto} (hs : RepS fa K β H S) {b : Addr} {xs : List V} (h : H b = some (.tup xs)) : b ∉ β := fun hm => by
  obtain ⟨n, h1, h2⟩ := List.getElem_of_mem hm
  have e : β[n]? = some b := by simp [h1, h2]
  have e2 : S[n]? = some (S[n]'(by rw [← hs.len]; exact h1)) := by simp [show n < S.length by rw [← hs.len]; exact h1]
  have r := hs.at_ n b _ e e2
  generalize S[n]'(by rw [← hs.len]; exact h1) = ob at r
  obtain ⟨lk, bd⟩ := ob
  have at' : ∀ {o : HO}, At lk H b o → (∀ ys, o ≠ .tup ys) → False := fun {o} ha ho => by
    cases lk
    · have q : H b = some o := ha
      rw [h] at q; cases q; exact ho _ rfl
    · obtain ⟨ob, q⟩ := ha
      rw [h] at q; cases q
  cases bd with
  | lst l => obtain ⟨ys, r1, _⟩ := r; exact at' r1 (by simp)
  | dct t l =>
    obtain ⟨us, _, r⟩ := r
    cases t
    · obtain ⟨kk, _, r1⟩ := r; exact at' r1 (by simp)
    · obtain ⟨kk, _, r1⟩ := r; exact at' r1 (by simp)
  | ins cc fs => exact r.elim
theorem rep_keyT {S : Sto} (hs : RepS fa K β H S) {d : D} {ks : List Key} {b : Addr} (e : keyT d = some ks) (h : H b = some (.tup (ks.map kV))) : RepD fa K β H d (.ref b) := by
  cases d with
  | tup l =>
    simp only [keyT] at e
    unfold RepD
    exact ⟨b, _, rfl, ⟨h, no_tup hs h⟩, rep_keyDs e⟩
  | _ => simp [keyT] at e
theorem rep_keysT {S : Sto} (hs : RepS fa K β H S) : ∀ {ks : List D} {kk : List (List Key)} {us : List V} {bs : List Addr}, ks.map keyT = kk.map some → kk.length = us.length → IsKeys H (kk.zip us) bs → RepL fa K β H ks (bs.map V.ref)
  | [], kk, us, bs, e, hl, h => by
    cases kk with
    | nil => cases h; exact .nil
    | cons a b => simp at e
  | d :: ks, kk, us, bs, e, hl, h => by
    cases kk with
    | nil => simp at e
    | cons a kk =>
      cases us with
      | nil => simp at hl
      | cons u us =>
        simp at e hl
        cases h with
        | cons h1 h2 => exact .cons (rep_keyT hs e.1 h1) (rep_keysT hs (by simpa using e.2) hl h2)
end
/-- the keys of a dict, collected -/
theorem collect_dk {pins : List (Addr × Obj)} {s : Shared} {σ : L2.St} {H : Hp} {β S} {a : Addr} {ks : List D} {kk : List Key} {us : List V} (hc : X.calm = true) (hs : RepS T.fa X.K β H S) (I : Inv X pins σ H s) (hd : Rd H a (.dK (kk.zip us))) (hl : kk.length = us.length) (hk : ks.map keyD = kk.map some)
    (R : List Value → Shared → Prop) (q : ∀ (h' : Heap) (tk : Nat) (acc : Array Value) (ys : List V), (∀ b o, s.heap.get? b = some o → h'.get? b = some o) → Vals ys acc.toList → RepL T.fa X.K β H ks ys → R acc.toList { s with heap := h', toks := tk }) :
    wpAny (model X.prog X.w) X.A.in1 (collect (.ref a)) R X.xe s := by
  obtain ⟨z, lo, vs, rel, dd⟩ := dk_rd I.hok hd
  obtain ⟨ep, hat⟩ := dd.dictAt
  have h16 : vs.length ≤ sizeLine := by rw [← rel.length]; exact z
  have ek : kk.map kV = vs.map fun p => kV p.1 := by
    have e := congrArg (List.map kV) rel.keys
    rw [zip_fst hl, List.map_map] at e
    exact e
  refine PySem.W.kdu_collect (A := X.A.in1) (PySem.W.kdl_dict (knd := mixKind X.prog X.w) (kvs := vs) (ep := ep) lo) (I.ok.hd hc) hat h16 fun h' tk acc hk' hacc => ?_
  have hv : Vals (vs.map fun p => kV p.1) acc.toList := keys_at (by rw [Array.length_toList]; exact hacc.1) fun j v e => hacc.2 j v (by rw [← Array.getElem?_toList]; exact e)
  rw [← ek] at hv
  exact q h' tk acc _ hk' hv (rep_keys hk)
theorem collect_dt {pins : List (Addr × Obj)} {s : Shared} {σ : L2.St} {H : Hp} {β S} {d : Addr} {ks : List D} {kk : List (List Key)} {us : List V} (hc : X.calm = true) (hs : RepS T.fa X.K β H S) (I : Inv X pins σ H s) (hd : Rd H d (.dT (kk.zip us))) (hl : kk.length = us.length) (hk : ks.map keyT = kk.map some)
    (R : List Value → Shared → Prop) (q : ∀ (h' : Heap) (tk : Nat) (acc : Array Value) (ys : List V), (∀ b o, s.heap.get? b = some o → h'.get? b = some o) → Vals ys acc.toList → RepL T.fa X.K β H ks ys → R acc.toList { s with heap := h', toks := tk }) :
    wpAny (model X.prog X.w) X.A.in1 (collect (.ref d)) R X.xe s := by
  obtain ⟨z, hs', xs, pr, o, es, ep, ho, hx, hdt, he, hn⟩ := (show ObjOk X.prog X.w H s.heap d (.dT (kk.zip us)) from hd.ok I.hok)
  have l1 : es.size = xs.length := size_of_entries he
  have l2 : (kk.zip us).length = xs.length := Paired.length pr
  refine PySem.W.kdu_collect (A := X.A.in1) (kdl_raw hs' hx hdt) (I.ok.hd hc) ho (by omega) fun h' tk acc' kp it => ?_
  have ea : acc'.toList = xs.map fun x => Value.ref x.2.1 := by
    have hl : acc'.toList.length = xs.length := by rw [Array.length_toList, it.1]; exact l1
    apply List.ext_getElem?
    intro j
    rw [List.getElem?_map]
    cases hj : acc'.toList[j]? with
    | none =>
      have h1 := List.getElem?_eq_none_iff.mp hj
      rw [List.getElem?_eq_none (by omega)]
      all_goals rfl
    | some v =>
      obtain ⟨en, hen, hv⟩ := it.2 j v (by rw [← Array.getElem?_toList]; exact hj)
      have qe := entry_at he j
      rw [hen] at qe
      cases hb : xs[j]? with
      | none =>
        rw [hb] at qe
        exact nomatch (show some en = none from qe)
      | some b =>
        rw [hb] at qe
        have e2 : en = entryOfKey (tupleKind (mixKind X.prog X.w)) b := Option.some.inj qe
        rw [hv, e2]
        all_goals rfl
  have eb : acc'.toList = (xs.map fun x => x.2.1).map Value.ref := by rw [ea, List.map_map]; all_goals rfl
  have rv : Vals ((xs.map fun x => x.2.1).map V.ref) acc'.toList := by rw [eb]; exact vals_refs _
  exact q h' tk acc' _ kp rv (rep_keysT hs hk hl (isKeys_of pr))
theorem call_sorted_b {bx : Bool} (hc : X.calm = true) (hu : X.A.units + 64 < cLine) : CallR X (.builtin "sorted") (rBi T X.K bx .sorted) := by
  intro pins s σ H vs us Q I rv ⟨β, ms, S, l, hs, hl, rl, h⟩
  obtain ⟨r, e, g⟩ := biE_ok h
  obtain ⟨d, rfl⟩ := one_of e (by simp)
  obtain ⟨x, rfl, rx⟩ := rl_one rl
  simp only [biop] at e
  split at e
  · rename_i l1 hq
    obtain ⟨l', hb, rfl⟩ := Option.map_eq_some_iff.mp e
    obtain ⟨p, xs, rfl, h1, h2⟩ := lst_at hs hq rx
    have ev := Vals.ref1 rv
    subst ev
    exact sort_lst hu hs I h1 h2 hb fun ys n hn ry hy => new_lst hs hl ry g hn
  · split at e
    · rename_i t l1 hd
      obtain ⟨l', hb, rfl⟩ := Option.map_eq_some_iff.mp e
      obtain ⟨a, us', rfl, h1, h2⟩ := dct_at hs hd rx
      have ev := Vals.ref1 rv
      subst ev
      have hlu := h1.length
      cases t
      · obtain ⟨kk, b1, b2⟩ := h2
        have hlk : kk.length = us'.length := by have := congrArg List.length b1; simp at this hlu; omega
        obtain ⟨z, _⟩ := dk_rd I.hok b2
        exact sort_src hu hs I (fun R q => collect_dk hc hs I b2 hlk b1 R q) hb (by simp at hlu z ⊢; omega) fun ys n hn ry hy => new_lst hs hl ry g hn
      · obtain ⟨kk, b1, b2⟩ := h2
        have hlk : kk.length = us'.length := by have := congrArg List.length b1; simp at this hlu; omega
        obtain ⟨z, _⟩ := dt_rd I.hok b2
        exact sort_src hu hs I (fun R q => collect_dt hc hs I b2 hlk b1 R q) hb (by simp at hlu z ⊢; omega) fun ys n hn ry hy => new_lst hs hl ry g hn
    · cases e
/-- pairs as a list of tuples -/
theorem pairs_rep {fa : Nat → Addr} {K : PySem.W.Frag} {β : List Addr} {H : Hp} : ∀ {l : List D} {kvs : List (D × D)} {xs : List V}, RepL fa K β H l xs → pairsOf l = some kvs → (∀ p ∈ kvs, isKey false p.1 = true) →
    ∃ (ps : List Addr) (kv : List (Key × V)), xs = ps.map V.ref ∧ Paired (fun p kv => SqT K H p [kV kv.1, kv.2]) ps kv ∧ RepP fa K β H keyD kvs kv
  | [], kvs, xs, h, e, _ => by
    simp [pairsOf] at e; subst e
    rw [h.unnil]
    exact ⟨[], [], rfl, .nil, .nil⟩
  | d :: l, kvs, xs, h, e, hk => by
    obtain ⟨x, r, rfl, h1, h2⟩ := h.uncons
    unfold pairsOf at e
    split at e
    · rename_i heq; cases heq
    · rename_i a v r' heq
      cases heq
      obtain ⟨kvs', e1, rfl⟩ := Option.map_eq_some_iff.mp e
      obtain ⟨ps, kv, rfl, h3, h4⟩ := pairs_rep h2 e1 fun p hp => hk p (by simp [hp])
      obtain ⟨p, ys, rfl, h5, h6⟩ := h1.tup_
      obtain ⟨x, y, rfl, r1, r2⟩ := rl_two h6
      obtain ⟨key, ek⟩ := isKey_false (hk (a, v) (by simp))
      have ex := keyD_kV r1 ek
      subst ex
      exact ⟨p :: ps, (key, y) :: kv, rfl, .cons h5.sq h3, .cons ⟨ek, r2⟩ h4⟩
    · cases e
theorem zip_self' {α γ : Type} : ∀ l : List (α × γ), (l.map (·.1)).zip (l.map (·.2)) = l
  | [] => rfl
  | p :: l => by simp [zip_self' l]
theorem new_dct {K : PySem.W.Frag} {ms β H S} {Q : VK} (hs : RepS T.fa K β H S) (hl : LowS ms S) {bx : Bool} {z : List (D × D)} {kvs : List (Key × V)} {E : Nat → D → Sto → Prop} (r : RepP T.fa K β H keyD z kvs)
    (h : GoodE (if bx then (match D.dct false (z.map (·.1)) (z.map (·.2)) with
      | .lst x => boxL true x S
      | .dct t ks vs => .ok (.ref S.length) (S ++ [⟨false, .dct t (ks.zip vs)⟩])
      | _ => .bad) else .ok (D.dct false (z.map (·.1)) (z.map (·.2))) S) (PV T K ms β H Q) E) {p : Addr} (hp : H p = none) : Q (.ref p) (upd H p (.dK kvs)) := by
  obtain ⟨kk, us, rfl, h1, h2, h3⟩ := r.to
  cases bx
  · refine h β _ _ (.new hs hl hp) ?_
    unfold RepD
    refine ⟨p, us, rfl, h2.ext (Ext.new hp), ?_⟩
    exact ⟨kk, h1, ⟨.inl upd_same, hs.fresh hp⟩, h3⟩
  · refine h (β ++ [p]) _ _ ⟨Ext.push hp, hs.push hp ?_, hl.push _⟩ ?_
    · dsimp only [RepO]
      rw [zip_self']
      exact ⟨us, h2.ext (Ext.push hp), kk, h1, upd_same⟩
    · unfold RepD
      exact ⟨p, by rw [← hs.len]; simp, rfl⟩
theorem call_dict_b {bx : Bool} (hc : X.calm = true) : CallR X (.type "dict") (rBi T X.K bx .dict) := by
  intro pins s σ H vs us Q I rv ⟨β, ms, S, l, hs, hl, rl, h⟩
  obtain ⟨r, e, g⟩ := biE_ok h
  obtain ⟨d, rfl⟩ := one_of e (by simp)
  obtain ⟨x, rfl, rx⟩ := rl_one rl
  simp only [biop] at e
  split at e
  · rename_i l1 hq
    split at e
    · rename_i kvs hb
      split at e
      · rename_i hk
        have er := Option.some.inj e
        subst er
        obtain ⟨p, xs, rfl, h1, h2⟩ := lst_at hs hq rx
        obtain ⟨ps, kv, rfl, h3, h4⟩ := pairs_rep h2 hb (by simpa using hk)
        exact call_dictP hc pins s σ H _ us Q I rv ⟨p, ps, kv, rfl, h1, h3, fun n hn => new_dct hs hl (RepP.merge h4 .nil) g hn⟩
      · cases e
    · cases e
  · cases e
/-- any of them -/
theorem call_bi {bx : Bool} (hc : X.calm = true) (hu : X.A.units + 64 < cLine) (b : Bi) : CallR X (biVal b) (rBi T X.K bx b) := by
  cases b
  · exact call_xtuple_b
  · exact call_len_b
  · exact call_tuple_b
  · exact call_list_b
  · exact call_all_b hc
  · exact call_any_b hc
  · exact call_max_b hc
  · exact call_min_b hc
  · exact call_sum_b hc
  · exact call_abs_b
  · exact call_int_b
  · exact call_sorted_b hc hu
  · exact call_dict_b hc
  · intro pins s σ H vs us Q I rv ⟨β, ms, S, l, hs, hl, rl, h⟩
    obtain ⟨r, e, g⟩ := biE_ok h
    simp [biop] at e
theorem boot_bi (b : Bi) : bootBuiltins (biName b) = some (biVal b) := by cases b <;> decide +kernel
theorem bi_in (b : Bi) : biName b ∈ bltns := by cases b <;> decide
theorem pe_biC {es : List Expr} {F : List Nat → GE → Sto → R (List D)} {bx : Bool} {b : Bi} {p pos : Pos} (C : Ctx T c k W X) (hg : Gl X (biName b)) (ha : PA X es (rdA T X.K W F)) (hne : 1 ≤ es.length) (hst : ∀ e ∈ es, isStar e = false) :
    PE X (.Call (.Name (biName b) p) es [] pos) (rdE T X.K W fun ms g S => (F ms g S).bind fun l S1 => biE bx b S1 l) := by
  cases es with
  | nil => simp at hne
  | cons e es =>
    have noexc : ∀ {S : Sto} {l : List D} {P : D → Sto → Prop} {E : Nat → D → Sto → Prop}, GoodE (biE bx b S l) P E → GoodE (biE bx b S l) P (fun _ _ _ => False) := fun {S l P E} h => by
      unfold biE boxL at h ⊢
      split at h
      · exact h
      · cases bx
        · exact h
        · simp only [if_true] at h ⊢
          split at h
          · split at h
            · rename_i hz; rw [if_pos hz]; exact h
            · exact False.elim h
          · exact h
          · exact False.elim h
    have im : ∀ σ H Q, rdE T X.K W (fun ms g S => (F ms g S).bind fun l S1 => biE bx b S1 l) σ H Q → tCB (rBi T X.K bx b) (rdA T X.K W F) σ H Q := fun σ H Q h => by
      obtain ⟨β, ms, g, S, hs, hl, he, h⟩ := h
      refine rd_intoA (.start hs hl he) h fun l xs β1 H1 S1 n1 f1 r1 h1 => ⟨β1, ms, S1, l, n1.st, n1.low, r1, (noexc h1).mono (fun d S' q => q.trans n1.fin) fun cc p S' q => q⟩
    have hm := C.link.bl _ (bi_in b)
    have hv := boot_bi b
    have hcall : CallR X (biVal b) (rBi T X.K bx b) := call_bi C.calm C.hu b
    revert hv hcall hg hm
    cases b <;> intro hg hm hv hcall <;> first
      | exact (pe_callB hcall hg hm hv ha (by decide) (by decide) (star_no (hst e (by simp)) es X.env) (star_any fun x hx => hst x (by simp [hx]))).imp im
      | exact (pe_callTy hcall hg hm hv ha (by decide) (by decide) (star_no (hst e (by simp)) es X.env) (star_any fun x hx => hst x (by simp [hx]))).imp im
end MP

set_option linter.all false
set_option Elab.async false
set_option maxRecDepth 100000
namespace MP
open PySem PySem.Spec PyProof.Rows L2
variable {T : Tab} {X : Cx} {c : Sc} {k : Nat} {W : WX}

/-! ### isinstance -/
def kName : Kd → String
  | .non => "NoneType" | .bl => "bool" | .int => "int" | .str => "str" | .tup => "tuple" | .lst => "list" | .dct => "dict"
def tyS : Ty → String
  | .tuple => "tuple" | .int => "int" | .bool => "bool" | .list => "list" | .str => "str"
theorem kit_tab (kd : Kd) (t : Ty) : kitB (kName kd) (tyS t) = some (tyTab kd t) := by cases kd <;> cases t <;> decide +kernel
theorem boot_ty (t : Ty) : bootBuiltins (tyName t) = some (.type (tyS t)) := by cases t <;> decide +kernel
theorem ty_in (t : Ty) : tyName t ∈ bltns := by cases t <;> decide
theorem tyx_of {K : PySem.W.Frag} {β H S} (hs : RepS T.fa K β H S) {d : D} {x : V} {kd : Kd} (r : RepD T.fa K β H d x) (e : kdOf S d = some kd) : TyX K H x (.type (kName kd)) := by
  have sq : ∀ {p xs}, SqL K H p xs → TyX K H (.ref p) (.type "list") := fun {p xs} h => by
    rcases h with (h | ⟨o, h⟩) | ⟨o, its, n, h1, h2, _⟩
    · exact .base (.lst h)
    · exact .base (.frz h)
    · exact .kList h1 h2
  have dk : ∀ {p kvs}, Rd H p (.dK kvs) → TyX K H (.ref p) (.type "dict") := fun {p kvs} h => by
    rcases h with h | ⟨o, h⟩
    · exact .base (.dK h)
    · exact .fDict h
  cases d with
  | non => cases e; obtain rfl := r.non_; exact .base .non
  | bl b => cases e; obtain rfl := r.bl_; exact .base (.bl _)
  | int b => cases e; obtain rfl := r.int_; exact .base (.int _)
  | str b => cases e; obtain rfl := r.str_; exact .base (.str _)
  | tup b => cases e; obtain ⟨p, xs, rfl, h, _⟩ := r.tup_; exact .base (.tup h.1)
  | xtp b => cases e; obtain ⟨p, xs, o, rfl, h, _⟩ := r.xtp_; exact .fTuple h
  | lst b => cases e; obtain ⟨p, xs, rfl, h, _⟩ := r.lst_; exact sq h.sq
  | dct t ks vs =>
    cases t <;> simp [kdOf] at e
    subst e
    unfold RepD at r
    obtain ⟨p, us, rfl, _, kk, _, h, _⟩ := r
    exact dk h.1
  | ref n =>
    obtain ⟨a, h1, rfl⟩ := r.ref_
    simp only [kdOf] at e
    split at e
    · rename_i lk l hq
      cases e
      obtain ⟨xs, h3, h4⟩ := hs.at_ n a _ h1 hq
      exact sq (.inl h3.rd)
    · rename_i lk l hq
      cases e
      obtain ⟨us, h3, kk, h4, h5⟩ := hs.at_ n a _ h1 hq
      exact dk h5.rd
    · cases e
  | fn n => simp [kdOf] at e
theorem pe_isinC {a y : Expr} {F : List Nat → GE → Sto → R D} {t : Ty} {p pos p2 : Pos} (C : Ctx T c k W X) (hg : Gl X "isinstance") (ha : PE X a (rdE T X.K W F)) (hs : isStar a = false) (hy : y = .Name (tyName t) p2) (hgt : Gl X (tyName t)) :
    PE X (.Call (.Name "isinstance" p) [a, y] [] pos) (rdE T X.K W fun ms g S => (F ms g S).bind fun d S1 => .lift ((tyOf S1 d t).map .bl) S1) := by
  subst hy
  have hb : PE X (.Name (tyName t) p2) (tC (.ty (tyS t))) := by
    have hm := C.link.bl _ (ty_in t)
    have hv := boot_ty t
    revert hm hv hgt
    cases t <;> intro hgt hm hv <;> exact pe_bltn hgt hm hv rfl
  have hsy : isStar (.Name (tyName t) p2) = false := rfl
  refine (pe_callB (x := "isinstance") call_isi hg (C.link.bl _ (by decide)) (by decide +kernel) (pa_cons ha (pa_cons hb pa_nil (star_no hsy _ _)) (star_no hs _ _)) (by decide) (by decide) (star_no hs _ _) (star_any fun x hx => ?_)).imp fun σ H Q h => ?_
  · simp at hx; subst hx; rfl
  · obtain ⟨β, ms, g, S, hs, hl, he, h⟩ := h
    refine rd_into (γ := Unit) (.start hs hl he) h fun d x β1 H1 S1 n1 f1 r1 h1 => ?_
    obtain ⟨r, e, q⟩ := lift_good h1
    obtain ⟨b, e1, e2⟩ := Option.map_eq_some_iff.mp e
    subst e2
    obtain ⟨kd, e3, e4⟩ := Option.map_eq_some_iff.mp (show (kdOf S1 d).map (fun k => tyTab k t) = some b from e1)
    refine ⟨x, .ty (tyS t), _, _, b, rfl, .ty _, tyx_of n1.st r1 e3, ?_, q β1 H1 _ n1.fin (rep_bl _)⟩
    rw [← e4]
    exact kit_ty (kit_tab kd t)

/-! ### a[i] -/
theorem ix_d (hu : X.A.units + 64 < cLine) : IxR X (rBin T X.K ixop) := by
  intro value slice pins s σ H x y v u Q I rx ry ⟨β, ms, S, da, db, r, hs, hl, ra, rb, e, q⟩ hsub
  unfold ixop at e
  split at e
  · rename_i t l hd
    split at e
    · rename_i hk
      obtain ⟨a, rfl, ⟨z1, z2⟩ | ⟨dv, w, z1, z2, z3⟩⟩ := dget hs hd ra hk rb
      · rw [z1] at e; cases e
      · rw [z1] at e; cases e
        cases rx
        exact tail_any (dict_typeIs I z2) PySem.F.slot_dict_getitem.lookup (d_getItem (by omega) I z2 ry fun w' s3 I3 rw' => ⟨w, H, I3, rw', q β H _ (.refl hs hl) z3⟩) hsub
    · cases e
  · split at e
    · rename_i l i hq
      obtain ⟨p, xs, rfl, h1, h2⟩ := seq_at hs hq ra
      split at e
      · rename_i n hn
        obtain ⟨z, e1, r1⟩ := h2.get e
        have eat : atI xs i = some z := by
          unfold atI
          have : L2.ixN xs.length i = some n := by rw [← h2.length]; exact hn
          rw [this]
          exact e1
        rw [rb.int_] at ry
        have qq := q β H _ (.refl hs hl) r1
        rcases h1 with h1 | h1
        · exact ix_list value slice pins s σ H _ _ v u Q I rx ry ⟨p, xs, i, z, rfl, rfl, h1, eat, qq⟩ hsub
        · exact ix_tup value slice pins s σ H _ _ v u Q I rx ry ⟨p, xs, i, z, rfl, rfl, h1, eat, qq⟩ hsub
      · cases e
    · cases e
theorem plainIx_of {i : Expr} (h : noSl i = true) : PlainIx i := by
  intro o v
  cases i <;> first | (simp [noSl] at h; done) | (with_unfolding_all rfl)
theorem pe_ixC {a b : Expr} {Fa Fb : List Nat → GE → Sto → R D} {p : Pos} (hu : X.A.units + 64 < cLine) (ha : PE X a (rdE T X.K W Fa)) (hb : PE X b (rdE T X.K W Fb)) (hn : noSl b = true) :
    PE X (.Subscript a b p) (rdE T X.K W fun ms g S => (Fa ms g S).bind fun x S1 => (Fb ms g S1).bind fun y S2 => .lift (ixop S2 x y) S2) :=
  (pe_ix (ix_d (T := T) hu) ha hb (plainIx_of hn)).imp fun σ H Q h => two_imp h

/-! ### a[i:j] -/
def PVO (T : Tab) (K : PySem.W.Frag) (ms : List Nat) (β : List Addr) (H : Hp) (Q : Option Int → Hp → Prop) : Option Int → Sto → Prop := fun d S' =>
  ∀ β' H', Fin T K ms β H β' H' S' → Q d H'
theorem PVO.trans {K : PySem.W.Frag} {ms β H β1 H1 S1} {Q : Option Int → Hp → Prop} {d : Option Int} {S : Sto} (f : Fin T K ms β H β1 H1 S1) (h : PVO T K ms β H Q d S) : PVO T K ms β1 H1 Q d S := fun β' H' f' => h β' H' (f.trans f')
abbrev rdO (T : Tab) (K : PySem.W.Frag) (W : WX) (F : List Nat → GE → Sto → R (Option Int)) : TO := rd T K W F (PVO T K)
theorem rd_intoO {α : Type} {K : PySem.W.Frag} {W : WX} {F : List Nat → GE → Sto → R (Option Int)} {kk : Option Int → Sto → R α} {P : α → Sto → Prop} {ms β0 H0 g σ β H S}
    (n : Now T K ms β0 H0 g σ β H S) (h : GoodE ((F ms g S).bind kk) P (PX T K ms β0 H0 fun c d H' => W c d σ H')) {Q : Option Int → Hp → Prop}
    (hq : ∀ d β' H' S', Now T K ms β0 H0 g σ β' H' S' → Fin T K ms β H β' H' S' → GoodE (kk d S') P (PX T K ms β0 H0 fun c d H' => W c d σ H') → Q d H') : rdO T K W F σ H Q :=
  ⟨β, ms, g, S, n.st, n.low, n.env, h.bind.mono (fun d S' q β' H' f => hq d β' H' S' (n.next f) f q) fun c p S' q => q.trans n.fin⟩
theorem po_of {M : MtF} {E : List Nat → EvF} (hE : SE T c k M E) {sc : Scope} {o : Option Ex} {e : Option Expr} (h : mtO M sc o e = true) (C : Ctx T c k W X) (hsc : X.env.scope = sc) : PO X e (rdO T X.K W fun ms g S => evStep.evO (E ms) o g S) := by
  cases o with
  | none =>
    cases e with
    | none =>
      refine ⟨fun pins s σ H Q I q => po_none.run pins s σ H Q I ?_⟩
      obtain ⟨β, ms, g, S, hs, hl, he, h⟩ := q
      exact h β H (.refl hs hl)
    | some e => simp [mtO] at h
  | some x =>
    cases e with
    | none => simp [mtO] at h
    | some e =>
      have h' : M sc x e = true := h
      refine ⟨fun pins s σ H Q I q => (po_some (hE sc x e W X h' C hsc)).run pins s σ H Q I ?_⟩
      obtain ⟨β, ms, g, S, hs, hl, he, h⟩ := q
      simp only [evStep.evO] at h
      refine rd_into (γ := Unit) (.start hs hl he) h fun d x β1 H1 S1 n1 f1 r1 h1 => ?_
      split at h1
      · rename_i i
        exact ⟨i, r1.int_, h1 β1 H1 n1.fin⟩
      · exact False.elim h1
def rSl (T : Tab) (K : PySem.W.Frag) : V → Option Int → Option Int → Hp → VK → Prop := fun x lo hi H Q => ∃ β ms S da r, RepS T.fa K β H S ∧ LowS ms S ∧ RepD T.fa K β H da x ∧ slop S da lo hi = some r ∧ PV T K ms β H Q r S
theorem cut_rep {fa : Nat → Addr} {K : PySem.W.Frag} {β : List Addr} {H : Hp} {l : List D} {xs : List V} (h : RepL fa K β H l xs) (lo hi : Option Int) : RepL fa K β H (cut l lo hi) (cutV xs lo hi) := by
  unfold cut cutV
  have e : ∀ n d o, sx n d o = HT.sIx n d o := fun n d o => by cases o <;> rfl
  rw [h.length, e, e]
  exact (h.drop _).take _
theorem sl_d : SlR X (rSl T X.K) := by
  intro pins s σ H x v vl vu lo hi sl Q I rx hs' pl pu ⟨β, ms, S, da, r, hs, hl, ra, e, q⟩
  unfold slop at e
  split at e
  · rename_i l ht
    cases e
    have hda : da = .tup l := by
      cases da with
      | ref n =>
        simp only [top] at ht
        split at ht <;> cases ht
      | _ => simpa [top] using ht
    subst hda
    obtain ⟨p, xs, rfl, h1, h2⟩ := ra.tup_
    refine sl_tupA pins s σ H _ v vl vu lo hi sl Q I rx hs' pl pu ⟨p, xs, rfl, h1.sq, fun hw => ?_, fun hw n hn => q β _ _ (.new hs hl hn) (rep_tup hs hn (cut_rep h2 lo hi))⟩
    have ec : cut l lo hi = l := by
      have e : ∀ n d o, sx n d o = HT.sIx n d o := fun n d o => by cases o <;> rfl
      unfold cut
      rw [h2.length, e, e, hw.1, hw.2, List.drop_zero, Nat.sub_zero, ← h2.length, List.take_length]
    rw [ec] at q
    exact q β H _ (.refl hs hl) ra
  · rename_i l ht
    cases e
    obtain ⟨p, xs, rfl, h1, h2⟩ := top_lst hs ht ra
    exact sl_list pins s σ H _ v vl vu lo hi sl Q I rx hs' pl pu ⟨p, xs, rfl, h1, fun n hn => q β _ _ (.new hs hl hn) (rep_lst hs hn (cut_rep h2 lo hi))⟩
  · cases e
theorem pe_slC {a : Expr} {lo hi : Option Expr} {Fa : List Nat → GE → Sto → R D} {Fl Fh : List Nat → GE → Sto → R (Option Int)} {p p2 : Pos} (ha : PE X a (rdE T X.K W Fa)) (hl : PO X lo (rdO T X.K W Fl)) (hh : PO X hi (rdO T X.K W Fh)) :
    PE X (.Subscript a (.Slice lo hi none p2) p) (rdE T X.K W fun ms g S => (Fa ms g S).bind fun d S1 => (Fl ms g S1).bind fun x S2 => (Fh ms g S2).bind fun y S3 => .lift (slop S3 d x y) S3) := by
  refine (pe_slice (sl_d (T := T)) ha hl hh).imp fun σ H Q h => ?_
  obtain ⟨β, ms, g, S, hs, hl, he, h⟩ := h
  refine rd_into (γ := Unit) (.start hs hl he) h fun d x β1 H1 S1 n1 f1 r1 h1 => rd_intoO n1 h1 fun lo β2 H2 S2 n2 f2 h2 => rd_intoO n2 h2 fun hi β3 H3 S3 n3 f3 h3 => ?_
  obtain ⟨r, e, q⟩ := lift_good h3
  exact ⟨β3, ms, S3, d, r, n3.st, n3.low, (r1.ext f2.ext).ext f3.ext, e, q.trans n3.fin⟩

/-! ### repr(a) == repr(b) -/
theorem pdOf_same : ∀ (n : Nat) (a b : D), sameD n a b = true → pdOf a = pdOf b
  | 0, _, _, h => by simp [sameD] at h
  | n + 1, a, b, h => by
    have all : ∀ (l k : List D), eqD.eqDs (sameD n) l k = true → pdOfs l = pdOfs k := by
      intro l
      induction l with
      | nil => intro k h; cases k <;> simp [eqD.eqDs] at h; rfl
      | cons x l ih =>
        intro k h
        cases k with
        | nil => simp [eqD.eqDs] at h
        | cons y k =>
          simp [eqD.eqDs] at h
          simp only [pdOfs]
          rw [pdOf_same n x y h.1, ih k h.2]
    cases a <;> cases b <;> simp [sameD] at h <;> simp only [pdOf]
    · rw [h]
    · rw [h]
    · rw [h]
    · rw [all _ _ h]
    · rw [all _ _ h]
theorem same_pure : ∀ (n : Nat) (a b : D), sameD n a b = true → isPure n a = true → isPure n b = true
  | 0, _, _, h, _ => by simp [sameD] at h
  | n + 1, a, b, h, hp => by
    have all : ∀ (l k : List D), eqD.eqDs (sameD n) l k = true → (∀ x ∈ l, isPure n x = true) → ∀ x ∈ k, isPure n x = true := by
      intro l
      induction l with
      | nil => intro k h _; cases k <;> simp [eqD.eqDs] at h; simp
      | cons x l ih =>
        intro k h hl
        cases k with
        | nil => simp [eqD.eqDs] at h
        | cons y k =>
          simp [eqD.eqDs] at h
          intro z hz
          rcases List.mem_cons.mp hz with q | q
          · rw [q]; exact same_pure n x y h.1 (hl x (by simp))
          · exact ih k h.2 (fun w hw => hl w (by simp [hw])) z q
    cases a <;> cases b <;> simp [sameD] at h <;> simp only [isPure] at hp ⊢
    · rw [← h]; exact hp
    · rw [List.all_eq_true] at hp ⊢; exact all _ _ h hp
    · rw [List.all_eq_true] at hp ⊢; exact all _ _ h hp
theorem int_len {i : Int} (h : small64 i = true) : (PyData.shown (.int i)).length ≤ 80 := by
  have e : PyData.shown (.int i) = Str.ofString (toString i) := rfl
  rw [e, PySem.ofString_length]
  simp [small64] at h
  have h2 : i.natAbs < 2 ^ 64 := by omega
  have := int_text_length_le (a := i) (k := 64) (by decide) (by
    by_cases h0 : i.natAbs = 0
    · rw [h0]; decide
    · exact (Nat.log2_lt h0).mpr h2)
  omega
theorem int_show {i : Int} (h : small64 i = true) : i.natAbs.log2 < 1920 := by
  simp [small64] at h
  by_cases h0 : i.natAbs = 0
  · rw [h0]; decide
  · have h2 : i.natAbs < 2 ^ 64 := by omega
    have := (Nat.log2_lt h0).mpr h2
    omega
theorem int_wgt {i : Int} (h : small64 i = true) : (PyData.int i).weight ≤ 70 := by
  simp only [PyData.weight]
  split
  · omega
  · simp [small64] at h
    by_cases h0 : i.natAbs = 0
    · rw [h0]; decide
    · have h2 : i.natAbs < 2 ^ 64 := by omega
      have := (Nat.log2_lt h0).mpr h2
      omega
theorem fits_of : ∀ (n : Nat) (d : D), isPure n d = true → ∀ m, wgt m d ≤ 200000 → (pdOf d).weight ≤ wgt m d ∧ (pdOf d).showable = true ∧ (pdOf d).leavesShort 80 = true
  | 0, _, h, _, _ => by simp [isPure] at h
  | n + 1, d, h, 0, hw => by simp [wgt] at hw
  | n + 1, d, h, m + 1, hw => by
    have all : ∀ l : List D, (∀ x ∈ l, isPure n x = true) → wgt.wgts (wgt m) l ≤ 200000 → PyData.weightAll (pdOfs l) ≤ wgt.wgts (wgt m) l ∧ PyData.showableAll (pdOfs l) = true ∧ PyData.leavesShortAll 80 (pdOfs l) = true := by
      intro l
      induction l with
      | nil => intro _ _; simp [pdOfs, PyData.weightAll, PyData.showableAll, PyData.leavesShortAll]
      | cons x l ih =>
        intro hl hw
        simp only [wgt.wgts] at hw
        obtain ⟨a1, a2, a3⟩ := fits_of n x (hl x (by simp)) m (by omega)
        obtain ⟨b1, b2, b3⟩ := ih (fun y hy => hl y (by simp [hy])) (by omega)
        refine ⟨?_, ?_, ?_⟩
        · simp only [pdOfs, PyData.weightAll, wgt.wgts]; omega
        · simp only [pdOfs, PyData.showableAll, a2, b2]; rfl
        · simp only [pdOfs, PyData.leavesShortAll, a3, b3]; rfl
    cases d with
    | non => exact ⟨by simp [pdOf, PyData.weight], by simp [pdOf, PyData.showable], by simp [pdOf, PyData.leavesShort]⟩
    | bl b => exact ⟨by simp [pdOf, PyData.weight], by simp [pdOf, PyData.showable], by simp [pdOf, PyData.leavesShort]⟩
    | int i =>
      simp only [wgt] at hw ⊢
      split at hw
      · rename_i hs
        rw [if_pos hs]
        refine ⟨by simp only [pdOf]; exact int_wgt hs, by simp only [pdOf, PyData.showable]; exact decide_eq_true (int_show hs), by simp only [pdOf, PyData.leavesShort]; exact decide_eq_true (int_len hs)⟩
      · omega
    | str s =>
      simp [isPure] at h
      refine ⟨by simp [pdOf, PyData.weight, wgt], by simp [pdOf, PyData.showable], ?_⟩
      simp only [pdOf, PyData.leavesShort, List.all_eq_true, decide_eq_true_eq]
      intro c hc
      have := h c
      obtain ⟨i, hi, e⟩ := List.getElem_of_mem hc
      have h3 := h i (by simpa using hi)
      simp at e
      omega
    | tup l =>
      simp [isPure] at h
      simp only [wgt] at hw ⊢
      obtain ⟨a1, a2, a3⟩ := all l h hw
      exact ⟨by simp only [pdOf, PyData.weight]; exact a1, by simp only [pdOf, PyData.showable]; exact a2, by simp only [pdOf, PyData.leavesShort]; exact a3⟩
    | lst l =>
      simp [isPure] at h
      simp only [wgt] at hw ⊢
      obtain ⟨a1, a2, a3⟩ := all l h hw
      exact ⟨by simp only [pdOf, PyData.weight]; exact a1, by simp only [pdOf, PyData.showable]; exact a2, by simp only [pdOf, PyData.leavesShort]; exact a3⟩
    | _ => simp [isPure] at h
def rRepr (K : PySem.W.Frag) : List V → Hp → VK → Prop := fun xs H Q => ∃ x d, xs = [x] ∧ Dp K H x d ∧ d.showable = true ∧ d.canLay0 = true ∧ d.depth ≤ 60 ∧ d.shown.length ≤ sizeLine ∧ Q (.str d.shown) H
theorem call_repr (hg : X.A.guards = some []) (hu : X.A.units + 64 < cLine) : CallR X (.builtin "repr") (rRepr X.K) := by
  intro pins s σ H xs us Q I r ⟨x, d, e, hd, h1, h2, h3, h4, q⟩
  subst e
  obtain ⟨u, rfl, rx⟩ := vals1 r
  cases hd with
  | non => cases rx; exact PySem.P.repr_of_none ⟨.str _, H, I.tok _, ⟨_, rfl⟩, q⟩
  | bl b => cases rx; exact PySem.P.repr_of_bool ⟨.str _, H, I.tok _, ⟨_, by cases b <;> rfl⟩, q⟩
  | int i =>
    obtain ⟨t, rfl⟩ := rx
    exact PySem.P.repr_of_int (by simpa [PyData.showable] using h1) ⟨.str _, H, I.tok _, ⟨_, rfl⟩, q⟩
  | str z =>
    obtain ⟨t, rfl⟩ := rx
    exact PySem.P.repr_of_str ⟨.str _, H, I.tok _, ⟨_, rfl⟩, q⟩ h4
  | lst ha hb =>
    obtain rfl : u = .ref _ := rx
    obtain ⟨as, rr⟩ := Dp.reads I _ _ _ (.lst ha hb) (show RelV (.ref _) (.ref _) from rfl)
    exact repr_of_reads' rr h1 (PyData.noDict_hsm (PyData.hasDict_of_canLay _ h2)) hg (by omega) (fun _ _ e => e) (fun h' u tk hk => ⟨.str _, H, I.kept hk, ⟨_, rfl⟩, q⟩) h4
  | tup ha hb =>
    obtain rfl : u = .ref _ := rx
    obtain ⟨as, rr⟩ := Dp.reads I _ _ _ (.tup ha hb) (show RelV (.ref _) (.ref _) from rfl)
    exact repr_of_reads' rr h1 (PyData.noDict_hsm (PyData.hasDict_of_canLay _ h2)) hg (by omega) (fun _ _ e => e) (fun h' u tk hk => ⟨.str _, H, I.kept hk, ⟨_, rfl⟩, q⟩) h4
theorem pe_reprEqC {a b : Expr} {Fa Fb : List Nat → GE → Sto → R D} {p p1 p2 p3 p4 : Pos} (C : Ctx T c k W X) (hg : Gl X "repr") (ha : PE X a (rdE T X.K W Fa)) (hb : PE X b (rdE T X.K W Fb)) (hsa : isStar a = false) (hsb : isStar b = false) :
    PE X (.Compare (.Call (.Name "repr" p1) [a] [] p2) [.Eq] [.Call (.Name "repr" p3) [b] [] p4] p)
      (rdE T X.K W fun ms g S => (Fa ms g S).bind fun x S1 => if isPure deep x && fitsD x then ((Fb ms g S1).bind fun y S2 => if sameD deep x y then .ok (.bl true) S2 else .bad) else .bad) := by
  have rp : ∀ {e : Expr} {F : List Nat → GE → Sto → R D} {q1 q2 : Pos}, PE X e (rdE T X.K W F) → isStar e = false → PE X (.Call (.Name "repr" q1) [e] [] q2) (tCB (rRepr X.K) (tCons (rdE T X.K W F) tNil)) := fun {e F q1 q2} he hs =>
    pe_callB (x := "repr") (call_repr C.guards C.hu) hg (C.link.bl _ (by decide)) (by decide +kernel) (pa_cons he pa_nil (star_no hs _ _)) (by decide) (by decide) (star_no hs _ _) rfl
  refine (pe_cmpR (op := .Eq) op_eq (rp ha hsa) (rp hb hsb) rfl).imp fun σ H Q h => ?_
  obtain ⟨β, ms, g, S, hs, hl, he, h⟩ := h
  have shows : ∀ {d : D}, isPure deep d = true → fitsD d = true → (pdOf d).showable = true ∧ (pdOf d).canLay0 = true ∧ (pdOf d).depth ≤ 60 ∧ (pdOf d).shown.length ≤ sizeLine := fun {d} hp hf => by
    obtain ⟨l1, l2⟩ := lay_of _ _ hp
    have hf' : wgt deep d ≤ 200000 := of_decide_eq_true hf
    obtain ⟨f1, f2, f3⟩ := fits_of _ _ hp deep hf'
    have := PyData.shown_le 80 (by omega) (pdOf d) f3
    refine ⟨f2, l1, l2, ?_⟩
    rw [sizeLine_eq]
    omega
  refine rd_into (γ := Unit) (.start hs hl he) h fun d x β1 H1 S1 n1 f1 r1 h1 => ?_
  split at h1
  · rename_i hpf
    rw [Bool.and_eq_true] at hpf
    obtain ⟨s1, s2, s3, s4⟩ := shows hpf.1 hpf.2
    refine ⟨x, pdOf d, rfl, dp_of _ _ _ hpf.1 r1, s1, s2, s3, s4, ?_⟩
    refine rd_into (γ := Unit) n1 h1 fun d2 y β2 H2 S2 n2 f2 r2 h2 => ?_
    split at h2
    · rename_i hsm
      have ee := pdOf_same _ _ _ hsm
      have hp2 : isPure deep d2 = true := same_pure _ _ _ hsm hpf.1
      have dp2 := dp_of _ _ _ hp2 r2
      rw [← ee] at dp2
      refine ⟨y, pdOf d, rfl, dp2, s1, s2, s3, s4, ⟨by simp [scal], ?_⟩⟩
      simp only [decide_true]
      exact h2 β2 H2 _ n2.fin (rep_bl _)
    · exact False.elim h2
  · exact False.elim h1
end MP

set_option linter.all false
set_option Elab.async false
set_option maxRecDepth 100000
namespace MP
open PySem PySem.Spec PyProof.Rows L2
variable {T : Tab} {X : Cx} {c : Sc} {k : Nat} {W : WX}

def bmT (k : Bm) (d : D) : String := match k with
  | .get => "dict"
  | .update => "dict"
  | .count => (match d with | .xtp _ => "tuple" | _ => "list")
  | .index => (match d with | .xtp _ => "tuple" | _ => "list")
  | _ => "list"
def bmId (k : Bm) (d : D) : String := match k with
  | .append => "list.append" | .pop => "list.pop" | .pop0 => "list.pop" | .extend => "list.extend"
  | .get => "dict.get"
  | .update => "dict.update"
  | .count => (match d with | .xtp _ => "tuple.count" | _ => "list.count")
  | .index => (match d with | .xtp _ => "tuple.index" | _ => "list.index")
theorem bm_plain (k : Bm) (d : D) : PlainAttrs (bmT k d) := by
  cases k with
  | count => cases d with
    | xtp l => exact PySem.F.plainAttrs_tuple
    | _ => exact PySem.F.plainAttrs_list
  | index => cases d with
    | xtp l => exact PySem.F.plainAttrs_tuple
    | _ => exact PySem.F.plainAttrs_list
  | get => exact PySem.F.plainAttrs_dict
  | update => exact PySem.F.plainAttrs_dict
  | _ => exact PySem.F.plainAttrs_list
theorem bm_slot (k : Bm) (d : D) : Slot (bmT k d) (bmName k) (bmId k d) := by
  cases k with
  | append => exact PySem.F.slot_list_append
  | pop => exact PySem.F.slot_list_pop
  | pop0 => exact PySem.F.slot_list_pop
  | extend => exact PySem.F.slot_list_extend
  | count => cases d with
    | xtp l => exact PySem.F.slot_tuple_count
    | _ => exact PySem.F.slot_list_count
  | index => cases d with
    | xtp l => exact PySem.F.slot_tuple_index
    | _ => exact PySem.F.slot_list_index
  | get => exact PySem.F.slot_dict_get
  | update => exact PySem.F.slot_dict_update
theorem bm_type (k : Bm) (d : D) : typeOf (.builtin (bmId k d)) = pure (.type "method_descriptor") := by
  cases k with
  | append => exact PySem.F.type_list_append
  | pop => exact PySem.F.type_list_pop
  | pop0 => exact PySem.F.type_list_pop
  | extend => exact PySem.F.type_list_extend
  | count => cases d with
    | xtp l => exact PySem.F.type_tuple_count
    | _ => exact PySem.F.type_list_count
  | index => cases d with
    | xtp l => exact PySem.F.type_tuple_index
    | _ => exact PySem.F.type_list_index
  | get => exact PySem.F.type_dict_get
  | update => exact PySem.F.type_dict_update
theorem cnt_at {fa : Nat → Addr} {K : PySem.W.Frag} {β : List Addr} {H : Hp} {S : Sto} (s : RepS fa K β H S) {d : D} {l : List D} {v : V} (e : cntOf S d = some l) (r : RepD fa K β H d v) :
    (∃ p xs o, d = .xtp l ∧ v = .ref p ∧ H p = some (.frz o (.tup xs)) ∧ o.dict = none ∧ RepL fa K β H l xs) ∨ ((∀ l', d ≠ .xtp l') ∧ ∃ p xs, v = .ref p ∧ SqL K H p xs ∧ RepL fa K β H l xs) := by
  unfold cntOf at e
  split at e
  · cases e
    obtain ⟨p, xs, o, rfl, h1, h2, _, h4⟩ := r.xtp_
    exact .inl ⟨p, xs, o, rfl, rfl, h1, h2, h4⟩
  · rename_i hn
    exact .inr ⟨fun l' e' => hn l' e', lst_at s e r⟩
theorem bm_fact {pins : List (Addr × Obj)} {s : Shared} {σ : L2.St} {H : Hp} {β S} (hs : RepS T.fa X.K β H S) (I : Inv X pins σ H s) {k : Bm} {d : D} {x : V} {v : Value} (r : RepD T.fa X.K β H d x) (rv : RelV x v) (h : bmOk S k d = true) :
    s.TypeIs v (bmT k d) ∧ ∀ a, v = .ref a → ∃ ob, s.heap.get? a = some ob ∧ ob.dict = none := by
  have lst : ∀ {p xs}, SqL X.K H p xs → x = .ref p → s.TypeIs v "list" ∧ ∀ a, v = .ref a → ∃ ob, s.heap.get? a = some ob ∧ ob.dict = none := fun {p xs} hq hx => by
    subst hx
    cases rv
    obtain ⟨its, _, pl, _⟩ := I.list hq
    refine ⟨pl.isList.typeIs, fun a e => ?_⟩
    cases e
    obtain ⟨o, n, e, c, hd, _⟩ := pl
    exact ⟨o, e, hd⟩
  have lst2 : (lstOf S d).isSome = true → s.TypeIs v "list" ∧ ∀ a, v = .ref a → ∃ ob, s.heap.get? a = some ob ∧ ob.dict = none := fun h => by
    obtain ⟨l, e⟩ := Option.isSome_iff_exists.mp h
    obtain ⟨p, xs, hx, h1, _⟩ := lst_at hs e r
    exact lst h1 hx
  have dct : (dctOf S d).isSome = true → s.TypeIs v "dict" ∧ ∀ a, v = .ref a → ∃ ob, s.heap.get? a = some ob ∧ ob.dict = none := fun h => by
    obtain ⟨⟨t, l⟩, e⟩ := Option.isSome_iff_exists.mp h
    obtain ⟨a, us, hx, h1, h2⟩ := dct_at hs e r
    subst hx
    cases rv
    have hd : IsD H a := by
      cases t
      · obtain ⟨kk, _, q⟩ := h2; exact .inl ⟨_, q⟩
      · obtain ⟨kk, _, q⟩ := h2; exact .inr ⟨_, q⟩
    obtain ⟨t1, t2, _⟩ := isD_at I hd
    exact ⟨t1, t2⟩
  have cnt : (cntOf S d).isSome = true → s.TypeIs v (bmT .count d) ∧ ∀ a, v = .ref a → ∃ ob, s.heap.get? a = some ob ∧ ob.dict = none := fun h => by
    obtain ⟨l, e⟩ := Option.isSome_iff_exists.mp h
    rcases cnt_at hs e r with ⟨p, xs, o, hd, hx, h1, h2, _⟩ | ⟨hn, p, xs, hx, h1, _⟩
    · subst hd hx
      cases rv
      obtain ⟨g1, _, its, _, g2⟩ := (show ObjOk X.prog X.w H s.heap p (.frz o (.tup xs)) from I.hok p _ h1)
      refine ⟨g2.typeIs, fun a e => ?_⟩
      cases e
      exact ⟨o, g1, h2⟩
    · have := lst h1 hx
      cases d <;> first | exact this | exact absurd rfl (hn _)
  cases k <;> first | exact lst2 h | exact dct h | exact cnt h
theorem plain_of : ∀ (n : Nat) (d : D), isPure n d = true → (pdOf d).plain = true
  | 0, _, h => by simp [isPure] at h
  | n + 1, d, h => by
    have all : ∀ l : List D, (∀ x ∈ l, isPure n x = true) → PyData.plainAll (pdOfs l) = true := by
      intro l
      induction l with
      | nil => intro _; simp [pdOfs, PyData.plainAll]
      | cons x l ih =>
        intro hl
        simp only [pdOfs, PyData.plainAll, plain_of n x (hl x (by simp)), ih fun y hy => hl y (by simp [hy])]
        rfl
    cases d with
    | tup l => simp [isPure] at h; simp only [pdOf, PyData.plain]; exact all l h
    | lst l => simp [isPure] at h; simp only [pdOf, PyData.plain]; exact all l h
    | non => simp [pdOf, PyData.plain]
    | bl b => simp [pdOf, PyData.plain]
    | int b => simp [pdOf, PyData.plain]
    | str b => simp [pdOf, PyData.plain]
    | _ => simp [isPure] at h
theorem count_eq {l : List D} {a : D} (ha : isPure deep a = true) (hl : ∀ x ∈ l, isPure deep x = true) : (l.countP fun x => eqD deep x a) = ((pdOfs l).countP fun z => PyData.eqv z (pdOf a)) := by
  rw [pdOfs_map, List.countP_map]
  induction l with
  | nil => rfl
  | cons x l ih =>
    simp only [List.countP_cons]
    rw [ih fun y hy => hl y (by simp [hy]), eq_of _ _ _ (hl x (by simp)) ha]
    rfl
theorem dats_plain : ∀ (l : List D), (∀ x ∈ l, isPure deep x = true) → PyData.plainAll (pdOfs l) = true
  | [], _ => by simp [pdOfs, PyData.plainAll]
  | x :: l, h => by
    simp only [pdOfs, PyData.plainAll, plain_of deep x (h x (by simp)), dats_plain l fun y hy => h y (by simp [hy])]
    rfl
section
variable {pins : List (Addr × Obj)} {s : Shared} {σ : L2.St} {H : Hp} {β : List Addr} {S : Sto} {ms : List Nat} {Q : VK}
theorem bm_append {n : Nat} {y : D} {l : List D} {x w : V} {v u : Value} (hs : RepS T.fa X.K β H S) (hl : LowS ms S) (I : Inv X pins σ H s) (rd : RepD T.fa X.K β H (.ref n) x) (rx : RelV x v) (ry : RepD T.fa X.K β H y w) (rw' : RelV w u)
    (e : S[n]? = some ⟨false, .lst l⟩) (hw : writable ms n y = true) (hz : lineOk (l.length + 1) = true) (q : PV T X.K ms β H Q .non (S.set n ⟨false, .lst (l ++ [y])⟩)) :
    wpAny (model X.prog X.w) X.A (call (.builtin "list.append") [v, u]) (EP X pins σ Q) X.xe s := by
  obtain ⟨a, ha, rfl⟩ := rd.ref_
  obtain ⟨xs, h1, h2⟩ := hs.at_ n a _ ha e
  have h1' : H a = some (.lst xs) := h1
  have nf : NoFrz H a := nofrz_of h1' (by simp)
  have hz' := lineOk_le hz
  refine mt_append pins s σ H _ [w] v [u] Q I rx (.cons rw' .nil) ⟨a, xs, w, rfl, rfl, h1', by rw [← h2.length]; omega, ?_⟩
  have ex : Ext β H β (upd H a (.lst (xs ++ [w]))) := Ext.upd ha nf
  refine q β _ _ ⟨ex, hs.upd ha nf ?_, hl.set fun m hm hn => ?_⟩ rep_non
  · exact ⟨_, upd_same, (h2.append (.cons ry .nil)).ext ex⟩
  · have hb := (hl m hm).2 n _ hn e
    show BlL m (l ++ [y])
    refine BlL.all fun d hd => ?_
    rcases List.mem_append.mp hd with g | g
    · exact BlL.mem hb d g
    · simp at g; subst g; exact writable_bl hw m hm hn
theorem bm_count {d y : D} {l : List D} {x w : V} {v u : Value} (hu : X.A.units + 64 < cLine) (hs : RepS T.fa X.K β H S) (hl : LowS ms S) (I : Inv X pins σ H s) (rd : RepD T.fa X.K β H d x) (rx : RelV x v) (ry : RepD T.fa X.K β H y w) (rw' : RelV w u)
    (e : cntOf S d = some l) (hp : isPure deep y = true) (hpl : ∀ z ∈ l, isPure deep z = true) (q : PV T X.K ms β H Q (.int (l.countP fun z => eqD deep z y)) S) :
    wpAny (model X.prog X.w) X.A (call (.builtin (bmId .count d)) [v, u]) (EP X pins σ Q) X.xe s := by
  obtain ⟨as, rr⟩ := Dp.reads I _ w u (dp_of _ _ _ hp ry) rw'
  obtain ⟨l1, l2⟩ := lay_of _ _ hp
  obtain ⟨l3, l4⟩ := layAll hpl
  have hroom : X.A.units + 1 + min (PyData.depthAll (pdOfs l)) (pdOf y).depth < cLine := by
    have : min (PyData.depthAll (pdOfs l)) (pdOf y).depth ≤ deep := Nat.le_trans (Nat.min_le_left _ _) l4
    unfold deep at this
    omega
  have fin : EP X pins σ Q (.int (((pdOfs l).countP fun z => PyData.eqv z (pdOf y) : Nat) : Int) s.toks) { s with toks := s.toks + 1 } := by
    rw [← count_eq hp hpl]
    exact ⟨.int _, H, I.tok _, ⟨_, rfl⟩, q β H _ (.refl hs hl) (rep_int _)⟩
  rcases cnt_at hs e rd with ⟨p, xs, o, rfl, rfl, h1, h2, h3⟩ | ⟨hn, p, xs, rfl, h1, h3⟩
  · cases rx
    obtain ⟨g1, _, its, rvv, g2⟩ := (show ObjOk X.prog X.w H s.heap p (.frz o (.tup xs)) from I.hok p _ h1)
    obtain ⟨as2, rs⟩ := Dp.readsAll I _ xs its (dpAll_of (dp_of deep) l xs hpl h3) rvv
    exact SeqAt.count_tuple_data g2 (by simpa using rs) rr (dats_plain l hpl) (plain_of _ _ hp) hroom fin
  · cases rx
    obtain ⟨its, rvv, pl, _⟩ := I.list h1
    obtain ⟨as2, rs⟩ := Dp.readsAll I _ xs its (dpAll_of (dp_of deep) l xs hpl h3) rvv
    have hid : bmId .count d = "list.count" := by
      cases d <;> first | rfl | exact absurd rfl (hn _)
    rw [hid]
    exact SeqAt.count_list_data pl.isList (by simpa using rs) rr (dats_plain l hpl) (plain_of _ _ hp) hroom fin
theorem bm_get {d y z : D} {t : Bool} {l : List (D × D)} {x w w2 : V} {v u u2 : Value} (hu : X.A.units + 64 < cLine) (hs : RepS T.fa X.K β H S) (hl : LowS ms S) (I : Inv X pins σ H s) (rd : RepD T.fa X.K β H d x) (rx : RelV x v) (ry : RepD T.fa X.K β H y w) (rw' : RelV w u) (rz : RepD T.fa X.K β H z w2) (rw2 : RelV w2 u2)
    (e : dctOf S d = some (t, l)) (hk : isKey t y = true) (q : PV T X.K ms β H Q ((findK y l).getD z) S) :
    wpAny (model X.prog X.w) X.A (call (.builtin "dict.get") [v, u, u2]) (EP X pins σ Q) X.xe s := by
  obtain ⟨a, rfl, ⟨z1, z2⟩ | ⟨dv, wv, z1, z2, z3⟩⟩ := dget hs e rd hk ry
  · cases rx
    rw [z1] at q
    exact d_get2 (by omega) I z2 rw' rw2 fun w' s3 I3 rw3 => ⟨_, H, I3, rw3, q β H _ (.refl hs hl) rz⟩
  · cases rx
    rw [z1] at q
    exact d_get2 (by omega) I z2 rw' rw2 fun w' s3 I3 rw3 => ⟨_, H, I3, rw3, q β H _ (.refl hs hl) z3⟩
theorem bm_update {n : Nat} {ks vs : List D} {l : List (D × D)} {x w : V} {v u : Value} (hs : RepS T.fa X.K β H S) (hl : LowS ms S) (I : Inv X pins σ H s) (rd : RepD T.fa X.K β H (.ref n) x) (rx : RelV x v) (ry : RepD T.fa X.K β H (.dct false ks vs) w) (rw' : RelV w u)
    (e : S[n]? = some ⟨false, .dct false l⟩) (hw : ∀ p ∈ ks.zip vs, writable ms n p.1 = true ∧ writable ms n p.2 = true) (hz : lineOk (l.length + ks.length) = true) (q : PV T X.K ms β H Q .non (S.set n ⟨false, .dct false (mergeD l (ks.zip vs))⟩)) :
    wpAny (model X.prog X.w) X.A (call (.builtin "dict.update") [v, u]) (EP X pins σ Q) X.xe s := by
  obtain ⟨a, ha, rfl⟩ := rd.ref_
  obtain ⟨us, h1, kk, h2, h3⟩ := hs.at_ n a _ ha e
  have h3' : H a = some (.dK (kk.zip us)) := h3
  have nf : NoFrz H a := nofrz_of h3' (by simp)
  unfold RepD at ry
  obtain ⟨p, ws, rfl, g1, kk2, g2, g3, g4⟩ := ry
  cases rx; cases rw'
  have hap : a ≠ p := fun h => g3.2 (by rw [← h]; exact List.mem_of_getElem? ha)
  have hz' := lineOk_le hz
  obtain ⟨z, hd, vs', rel, dd⟩ := dk_of I.hok h3'
  obtain ⟨z2, hd2, vs2, rel2, dd2⟩ := dk_rd I.hok g3.1
  have rp := RepP.of h2 h1
  have hks : ks.length = kk2.length := by have := congrArg List.length g2; simpa using this
  have hws := g1.length
  have rp2 : RepP T.fa X.K β H keyD (ks.zip vs) (kk2.zip ws) := RepP.of (by rw [zip_fst (by omega)]; exact g2) (by rw [zip_snd (by omega)]; exact g1)
  have e1 : vs'.length = l.length := by rw [← rel.length]; exact rp.length.symm
  have e2 : vs2.length = ks.length := by
    rw [← rel2.length]
    simp
    omega
  have rm : RepP T.fa X.K β H keyD (mergeD l (ks.zip vs)) (mergeK (kk.zip us) (kk2.zip ws)) := RepP.merge rp2 rp
  have kvm : KV (mergeK (kk.zip us) (kk2.zip ws)) (merged vs' vs2) := KV.merge rel2 rel
  have hlen : (mergeK (kk.zip us) (kk2.zip ws)).length ≤ sizeLine := by
    rw [kvm.length]
    exact Nat.le_trans (merged_length_le vs' vs2) (by omega)
  refine call_meetsIn PySem.F.slot_dict_update dd.typeIs PySem.F.entry_dict_update (PySem.F.args_dict_update_2 _ _) (meets_dict_update (mixKind X.prog X.w) a p hap hd2)
    ⟨vs', vs2, dd, dd2, by omega, fun h' hm _ hsb => ?_⟩
  have he : ∃ q, h'.get? a = some q := let ⟨q, _, _, hq, _⟩ := hm; ⟨q, hq⟩
  have I2 : Inv X pins σ (upd H a (.dK (mergeK (kk.zip us) (kk2.zip ws)))) { s with heap := h' } := d_write (t' := s.toks) I (by rw [h3']; exact True.intro) hsb he (dk_new hlen hd kvm hm)
  have ex : Ext β H β (upd H a (.dK (mergeK (kk.zip us) (kk2.zip ws)))) := Ext.upd ha nf
  refine ⟨.non, _, I2, rfl, q β _ _ ⟨ex, hs.upd ha nf ?_, hl.set fun m hm hn => ?_⟩ rep_non⟩
  · obtain ⟨k3, u3, e3, f1, f2, f3⟩ := rm.to
    rw [e3]
    refine ⟨u3, f2.ext ?_, k3, f1, upd_same⟩
    rw [← e3]; exact ex
  · have hb : BlL m (l.map (·.2)) := (hl m hm).2 n _ hn e
    show BlL m ((mergeD l (ks.zip vs)).map (·.2))
    have hmer : ∀ (more l : List (D × D)), (∀ p ∈ more, Bl m p.2) → (∀ p ∈ l, Bl m p.2) → ∀ p ∈ mergeD l more, Bl m p.2 := by
      intro more
      induction more with
      | nil => intro l _ h; exact h
      | cons p more ih =>
        intro l hmore hl'
        obtain ⟨ka, va⟩ := p
        refine ih (MP.putK ka va l) (fun p hp => hmore p (by simp [hp])) fun p hp => ?_
        unfold MP.putK at hp
        split at hp
        · obtain ⟨q', hq', rfl⟩ := List.mem_map.mp hp
          split
          · exact hmore (ka, va) (by simp)
          · exact hl' q' hq'
        · rcases List.mem_append.mp hp with g | g
          · exact hl' p g
          · simp at g; subst g; exact hmore (ka, va) (by simp)
    refine BlL.all fun d hd => ?_
    obtain ⟨p', hp', rfl⟩ := List.mem_map.mp hd
    refine hmer (ks.zip vs) l (fun p hp => writable_bl (hw p hp).2 m hm hn) (fun p hp => BlL.mem hb _ (List.mem_map_of_mem hp)) p' hp'
theorem bm_call {k : Bm} {d : D} {l : List D} {x : V} {xs : List V} {v : Value} {us : List Value} {E : Nat → D → Sto → Prop} (hu : X.A.units + 64 < cLine) (hs : RepS T.fa X.K β H S) (hl : LowS ms S) (I : Inv X pins σ H s) (rd : RepD T.fa X.K β H d x) (rx : RelV x v) (rl : RepL T.fa X.K β H l xs) (rv : Vals xs us)
    (h : GoodE (bmop ms S k d l) (PV T X.K ms β H Q) E) : wpAny (model X.prog X.w) X.A (call (.builtin (bmId k d)) (v :: us)) (EP X pins σ Q) X.xe s := by
  unfold bmop at h
  split at h
  · obtain ⟨w, rfl, rw'⟩ := rl_one rl
    obtain ⟨u, rfl, ru⟩ := vals1 rv
    split at h
    · split at h
      · rename_i e hc
        rw [Bool.and_eq_true] at hc
        exact bm_append hs hl I rd rx rw' ru e hc.1 hc.2 h
      · exact False.elim h
    · exact False.elim h
  · obtain ⟨w, rfl, rw'⟩ := rl_one rl
    obtain ⟨u, rfl, ru⟩ := vals1 rv
    split at h
    · rename_i e
      split at h
      · rename_i hc
        rw [Bool.and_eq_true] at hc
        exact bm_count hu hs hl I rd rx rw' ru e hc.1 (by simpa using hc.2) h
      · exact False.elim h
    · exact False.elim h
  · obtain ⟨w, w2, rfl, r1, r2⟩ := rl_two rl
    obtain ⟨u, u2, rfl, q1, q2⟩ := vals2 rv
    split at h
    · rename_i e
      split at h
      · rename_i hc
        exact bm_get hu hs hl I rd rx r1 q1 r2 q2 e hc h
      · exact False.elim h
    · exact False.elim h
  · obtain ⟨w, rfl, rw'⟩ := rl_one rl
    obtain ⟨u, rfl, ru⟩ := vals1 rv
    split at h
    · split at h
      · rename_i e hc
        rw [Bool.and_eq_true] at hc
        exact bm_update hs hl I rd rx rw' ru e (by simpa using hc.1) hc.2 h
      · exact False.elim h
    · exact False.elim h
  · exact False.elim h
end
theorem base_of {o : Expr} {name : Str} {env : PySem.Env} (h : recvOk o = true) : attributeBase o name env (eval o env) = eval o env := by
  cases o <;> first | (simp [recvOk] at h; done) | rfl
theorem pe_bmC {o : Expr} {es : List Expr} {Fo : List Nat → GE → Sto → R D} {Fa : List Nat → GE → Sto → R (List D)} {k' : Bm} {apos cpos : Pos} (C : Ctx T c k W X) (ho : PE X o (rdE T X.K W Fo)) (ha : PA X es (rdA T X.K W Fa)) (hr : recvOk o = true) (hline : (apos.endLine == cpos.line) = true) (hne : 1 ≤ es.length) (hfew : es.length < 20) (hst : ∀ e ∈ es, isStar e = false) :
    PE X (.Call (.Attribute o (bmName k') apos) es [] cpos) (rdE T X.K W fun ms g S => (Fo ms g S).bind fun d S1 => if bmOk S1 k' d then ((Fa ms g S1).bind fun l S2 => bmop ms S2 k' d l) else .bad) := by
  cases es with
  | nil => simp at hne
  | cons e es =>
    have hs := star_no (hst e (by simp)) es X.env
    have hplain : (backTo cpos (starEach es X.env)).any (·.1) = false := star_any fun x hx => hst x (by simp [hx])
    have hf : ((backTo cpos (starEach (e :: es) X.env)).all (fun x => !x.1) && (backToKw cpos (keywordEach [] X.env)).all (fun x => x.1.isSome)
      && decide ((e :: es).length + ([] : List Keyword).length + (if ([] : List Keyword).isEmpty then 0 else 1) < 30)) = true := by
      have h1 : (backTo cpos (starEach (e :: es) X.env)).all (fun x => !x.1) = true := by
        have : (backTo cpos (starEach (e :: es) X.env)).any (·.1) = false := star_any hst
        rw [List.all_eq_true]
        intro x hx
        have := List.any_eq_false.mp this x hx
        simpa using this
      rw [h1]
      have : decide ((e :: es).length + ([] : List Keyword).length + (if ([] : List Keyword).isEmpty then 0 else 1) < 30) = true := by
        simp at hfew ⊢; omega
      rw [this]
      rfl
    refine ⟨fun pins s σ H Q I h => ?_⟩
    obtain ⟨β, ms, g, S, hs', hl, he, h⟩ := h
    refine wpAny_Call_method_late (base_of hr) hf hline rfl (thn (ho.run pins s σ H (fun x H1 => ∃ d β1 S1, Now T X.K ms β H g σ β1 H1 S1 ∧ RepD T.fa X.K β1 H1 d x ∧ GoodE (if bmOk S1 k' d then ((Fa ms g S1).bind fun l S2 => bmop ms S2 k' d l) else .bad) (PV T X.K ms β H Q) (PX T X.K ms β H fun c d H' => W c d σ H')) I
      (rd_into (γ := Unit) (.start hs' hl he) h fun d x β1 H1 S1 n1 f1 r1 h1 => ⟨d, β1, S1, n1, r1, h1⟩)) fun v s1 ⟨x, H1, I1, rx, d, β1, S1, n1, r1, h1⟩ => ?_)
    split at h1
    · rename_i hok
      obtain ⟨t1, t2⟩ := bm_fact n1.st I1 r1 rx hok
      refine ⟨bmT k' d, bmId k' d, bm_plain k' d, bm_slot k' d, bm_type k' d, t1, t2, ?_⟩
      have hA := ha.run cpos pins s1 σ H1 (fun xs H2 => ∃ l β2 S2, Now T X.K ms β H g σ β2 H2 S2 ∧ RepD T.fa X.K β2 H2 d x ∧ RepL T.fa X.K β2 H2 l xs ∧ GoodE (bmop ms S2 k' d l) (PV T X.K ms β2 H2 Q) (PX T X.K ms β H fun c d H' => W c d σ H')) I1
        (rd_intoA n1 h1 fun l xs β2 H2 S2 n2 f2 r2 h2 => ⟨l, β2, S2, n2, r1.ext f2.ext, r2, h2.mono (fun a s q => q.trans n2.fin) fun _ _ _ q => q⟩)
      rw [hs] at hA ⊢
      refine Calls.callWith_builtin (by show (false || (backTo cpos (starEach es X.env)).any (·.1)) = false; rw [hplain] <;> rfl) (Calls.evalArgs_plain ?_)
      exact thn hA fun us s2 ⟨vs, H2, I2, r2, l, β2, S2, n2, q1, q2, q3⟩ => bm_call C.hu n2.st n2.low I2 q1 rx q2 r2 q3
    · exact False.elim h1
end MP

set_option linter.all false
set_option Elab.async false
set_option maxRecDepth 100000
namespace MP
open PySem PySem.Spec PyProof.Rows L2
variable {T : Tab} {X : Cx} {c : Sc} {k : Nat} {W : WX}

/-! ### enumerate(tuple) -/
theorem meets_enumerate_newT (l : Addr) (items : Array Value) (n : Nat) (dct : Option Addr) (sl : Array (Option Value)) :
    Meets (Builtin.«enumerate.__new__» ⟨[.type "enumerate", .ref l], []⟩) (fun _ R s => s.heap.get? l = some { cls := .type "tuple", dict := dct, data := .seq items n, slots := sl } ∧
      R (.ok (.ret (.ref (s.heap.push { cls := .type "tuple_iterator", data := .fields #[.ref l, .int 0 0] }).objs.size)))
        { s with heap := (s.heap.push { cls := .type "tuple_iterator", data := .fields #[.ref l, .int 0 0] }).push { cls := .type "enumerate", data := .fields #[.none, .bool false, .ref s.heap.objs.size, rawInt 0, .none, .none] } }) :=
  .of_wp fun prog w A R s h => by
    obtain ⟨hp, g, d, tk, os⟩ := s; obtain ⟨hl, h⟩ := h
    have hsub := sub_enumerate
    have hL : Heap.IsTuple (Shared.heap ⟨hp, g, d, tk, os⟩) l items := ⟨_, hl, rfl, n, rfl⟩
    wp_walk using AutoSeq1.wpAny_loadPart' hl
    refine wpAny_stack_any fun st => wpAny_pure ?_
    split
    · rename_i c _ _ _ _ _
      cases (c == Value.type "enumerate")
      · wp_walk using AutoSeq1.wpAny_loadPart' hl, wpAny_pyIter_tuple hL
        exact ⟨_, rfl, h⟩
      · wp_walk using AutoSeq1.wpAny_loadPart' hl, wpAny_pyIter_tuple hL
        exact ⟨_, rfl, h⟩
    · wp_walk using AutoSeq1.wpAny_loadPart' hl, wpAny_pyIter_tuple hL
      exact ⟨_, rfl, h⟩
section
variable {prog : Program} {w : World} {A : Around} {E : Value → Shared → Prop} {s : Shared}
theorem call_enumerate_tuple {l : Addr} {items : Array Value} {Q : Value → Shared → Prop} (hL : s.heap.IsTuple l items)
    (h : ∀ h', IsEnum h' (s.heap.objs.size + 1) s.heap.objs.size 0 .none → h'.IsTupleIter s.heap.objs.size l 0 → h'.objs.size = s.heap.objs.size + 2 →
      (∀ b o, s.heap.get? b = some o → h'.get? b = some o) → Q (.ref (s.heap.objs.size + 1)) { s with heap := h' }) :
    wpAny (model prog w) A (call (.type "enumerate") [.ref l]) Q E s := by
  obtain ⟨⟨c, dct, dt, sl⟩, hl, hc, n, hd⟩ := hL
  replace hc : c = .type "tuple" := hc
  replace hd : dt = .seq items n := hd
  subst hc hd
  refine callType_new F.called_enumerate (by decide) (F.typeCall_enumerate_1 _) (F.newCall_enumerate_1 _) (fun obj => F.args_object_init_2 obj _) F.entry_enumerate_new
    (meets_enumerate_newT l items n dct sl) ⟨hl, ?_⟩
  have hz : (s.heap.push { cls := .type "tuple_iterator", data := .fields #[.ref l, .int 0 0] }).objs.size = s.heap.objs.size + 1 := Heap.size_push ..
  show _ ∧ _
  rw [hz]
  have he : IsEnum ((s.heap.push { cls := .type "tuple_iterator", data := .fields #[.ref l, .int 0 0] }).push
      { cls := .type "enumerate", data := .fields #[.none, .bool false, .ref s.heap.objs.size, rawInt 0, .none, .none] }) (s.heap.objs.size + 1) s.heap.objs.size 0 .none := by
    have := Heap.get?_push_size (s.heap.push { cls := .type "tuple_iterator", data := .fields #[.ref l, .int 0 0] })
      (o := { cls := .type "enumerate", data := .fields #[.none, .bool false, .ref s.heap.objs.size, rawInt 0, .none, .none] }) rfl
    rw [hz] at this; exact this
  refine ⟨⟨_, he, rfl⟩, h _ he ⟨_, Heap.get?_push_of_some _ (Heap.get?_push_size _ rfl), rfl, rfl⟩ (by rw [Heap.size_push, hz]) fun b o x => Heap.get?_push_of_some _ (Heap.get?_push_of_some _ x)⟩
end
def IteT (K : PySem.W.Frag) (a : Addr) : It :=
  ⟨fun i H => ∃ (xs : List V) (x : V), SqT K H a xs ∧ xs[i]? = some x, fun i H v H' => ∃ T x, v = .ref T ∧ H T = none ∧ H' = upd H T (.tup [.int (i : Nat), x]) ∧ ∀ xs, SqT K H a xs → xs[i]? = some x, fun i H => ∃ xs : List V, SqT K H a xs ∧ xs.length = i⟩
theorem turn_enumT {P : Program} {w : World} {K : PySem.W.Frag} {elts : List Expr} {kk : Nat} {tpos : Pos} (a e it : Addr) :
    Turn P w K (.Tuple elts kk tpos) (IteT K a) [e, it] e (fun i h => (∃ old, IsEnum h e it ((i : Nat) : Int) old) ∧ h.IsTupleIter it a i ∧ e ≠ it ∧ a ≠ e ∧ a ≠ it) where
  mem := by simp
  obj := fun i h st b hb => by
    obtain ⟨⟨old, he⟩, ⟨o, ho, hc, hd⟩, _⟩ := st
    have e' : b = e ∨ b = it := by simpa using hb
    rcases e' with z | z
    · rw [z]; exact ⟨_, he, fun v q => nomatch q⟩
    · rw [z]; exact ⟨o, ho, fun v q => by rw [hd] at q; cases q⟩
  keep := fun i h h' st k => let ⟨⟨old, he⟩, hi, hne⟩ := st; ⟨⟨old, k e (by simp) _ he⟩, hi.at fun o q => k it (by simp) o q, hne⟩
  item := by
    intro X hP hw hK hc i pins s σ H E I hf st hg
    subst hP hw hK
    obtain ⟨⟨old, he⟩, hit, hne, hae, hai⟩ := st
    obtain ⟨xs, x, hq, hx⟩ := hg
    obtain ⟨its, rv, p, hz⟩ := I.tuple hq
    obtain ⟨u, hu, ru⟩ := rv.get hx
    have hel : e < s.heap.objs.size := Heap.lt_size he
    have hil : it < s.heap.objs.size := by obtain ⟨_, q, _⟩ := hit; exact Heap.lt_size q
    have hil' : i < its.toArray.size := by
      have := (List.getElem?_eq_some_iff.mp hu).1
      simpa using this
    refine wpAny_pyNext_enum_itemD (i := i) (Draws.tuple (prog := X.prog) (w := X.w) (A := X.A.in1) (I.ok.hd hc) it a hai its.toArray) he ⟨hit, p⟩ hil' hne (by simp; exact ⟨hne, fun z => hae z.symm⟩) fun x' h' tk hP ho hs' hT hsz hk => ?_
    have ex : x' = u := by
      have hP' : its.toArray[i]? = some x' := hP
      have : its[i]? = some x' := by simpa using hP'
      rw [hu] at this; cases this; rfl
    subst ex
    refine ⟨_, rfl, wpAny_letOwnedTupleGo_enum (s := { s with heap := h', toks := tk + 1 }) ho fun h'' he' sb => ?_⟩
    have hT2 : h''.get? s.heap.objs.size = some { cls := .type "tuple", data := .seq #[.int i tk, x'] } := (sb.2 _ (Nat.ne_of_gt hel)).trans hT
    have new : ObjOk X.prog X.w (upd H s.heap.objs.size (.tup [.int (i : Nat), x])) h'' s.heap.objs.size (.tup [.int (i : Nat), x]) :=
      ⟨by show 2 ≤ sizeLine; decide, [.int i tk, x'], .cons ⟨_, rfl⟩ (.cons ru .nil), ⟨_, hT2, rfl, _, rfl⟩⟩
    have I1 : Inv X pins σ (upd H s.heap.objs.size (.tup [.int (i : Nat), x])) { s with heap := h'', toks := tk + 1 } :=
      I.turnedNew (ch := [e, it]) (fun b ob hb q => (sb.2 b (fun z => hb (by simp [z]))).trans (hk b ob (fun z => hb (by simp [z])) (fun z => hb (by simp [z])) q)) hf (Nat.le_refl _) new
    have hit' : h'.IsTupleIter it a (i + 1) := hs'.1
    refine ⟨.ref s.heap.objs.size, _, I1, rfl, ⟨_, x, rfl, I.hok.fresh (Nat.le_refl _), rfl, fun ys hy => by rw [I.tuple_inj hy hq]; exact hx⟩, ⟨⟨x', ?_⟩, hit'.at fun o q => (sb.2 it (Ne.symm hne)).trans q, hne, hae, hai⟩, fun b hb => ?_⟩
    · have e1 : ((i + 1 : Nat) : Int) = (i : Int) + 1 := by omega
      rw [e1]; exact he'
    · have hb' : b < s.heap.objs.size := by
        have e' : b = e ∨ b = it := by simpa using hb
        rcases e' with z | z
        · rw [z]; exact hel
        · rw [z]; exact hil
      rw [upd_ne (Nat.ne_of_lt hb')]
      exact (hf b hb).1
  done := by
    intro X hP hw hK hc i pins s σ H E I hf st hg
    subst hP hw hK
    obtain ⟨⟨old, he⟩, hit, hne, hae, hai⟩ := st
    obtain ⟨xs, hq, hx⟩ := hg
    obtain ⟨its, rv, p, hz⟩ := I.tuple hq
    obtain ⟨f0, f1, f2, f3, f4, f5⟩ := hf it (by simp)
    have hl := rv.length
    have hi : i = its.toArray.size := by simp; omega
    exact wpAny_pyNext_enum_endD (Draws.tuple (prog := X.prog) (w := X.w) (A := X.A.in1) (I.ok.hd hc) it a hai its.toArray) he ⟨by rw [← hi]; exact hit, p⟩ fun h' eb => ⟨rfl, I.turned (t' := s.toks) (fun b o hb q => eb b o hb q) f0 f1 f3 f4 f5⟩
  self := fun A i s Q E st h => let ⟨⟨_, he⟩, _⟩ := st; wpAny_pyIter_enum he h
theorem walk_enumT {K : PySem.W.Frag} {a : Addr} {xs : List V} : Walk (IteT K a) xs.length (fun H => SqT K H a xs) (YPair (fun i => some (.int (i : Nat))) (fun i => xs[i]?)) := by
  refine ⟨fun i _ hi q => ⟨xs, xs[i], q, by simp [hi]⟩, fun _ q => ⟨xs, q, rfl⟩, fun i H v H' _ q y => ?_⟩
  obtain ⟨T, x, h1, h2, h3, h4⟩ := y
  exact ⟨T, .int (i : Nat), x, h1, h2, h3, rfl, h4 xs q⟩

/-! ### an iterator that gives the items l -/
structure WD (fa : Nat → Addr) (K : PySem.W.Frag) (J : It) (l : List D) (β0 : List Addr) (H0 : Hp) : Prop where
  go : ∀ i β H S, i < l.length → RepS fa K β H S → Ext β0 H0 β H → J.go i H
  stop : ∀ β H S, RepS fa K β H S → Ext β0 H0 β H → J.stop l.length H
  yld : ∀ i d x β H H' S, l[i]? = some d → RepS fa K β H S → Ext β0 H0 β H → J.yld i H x H' → RepS fa K β H' S ∧ Ext β H β H' ∧ RepD fa K β H' d x
section
variable {fa : Nat → Addr} {K : PySem.W.Frag} {β0 : List Addr} {H0 : Hp} {S0 : Sto} {J : It} {l : List D} {xs ys : List V}
theorem WD.of {n : Nat} {G : Hp → Prop} {Y : Nat → Hp → V → Hp → Prop} (w : Walk J n G Y) (hn : n = l.length) (hG : ∀ β H, Ext β0 H0 β H → G H)
    (hY : ∀ i d x β H H' S, l[i]? = some d → RepS fa K β H S → Ext β0 H0 β H → Y i H x H' → RepS fa K β H' S ∧ Ext β H β H' ∧ RepD fa K β H' d x) : WD fa K J l β0 H0 := by
  subst hn
  exact ⟨fun i β H S hi _ e => w.goes i H hi (hG β H e), fun β H S _ e => w.stops H (hG β H e), fun i d x β H H' S hd hs e y => hY i d x β H H' S hd hs e (w.yields i H x H' (List.getElem?_eq_some_iff.mp hd).1 (hG β H e) y)⟩
theorem wd_at (r : RepL fa K β0 H0 l xs) : ∀ i d x β H H' S, l[i]? = some d → RepS fa K β H S → Ext β0 H0 β H → YAt xs i H x H' → RepS fa K β H' S ∧ Ext β H β H' ∧ RepD fa K β H' d x := by
  intro i d x β H H' S hd hs e ⟨e1, e2⟩
  subst e1
  obtain ⟨y, h1, h2⟩ := r.get hd
  rw [e2] at h1; cases h1
  exact ⟨hs, .refl _ _, h2.ext e⟩
/-- a list that is not written: by value, or locked -/
def LstF (K : PySem.W.Frag) (β : List Addr) (H : Hp) (p : Addr) (xs : List V) : Prop := LstAt K β H p xs ∨ ∃ o, H p = some (.frz o (.lst xs))
def TupF (K : PySem.W.Frag) (β : List Addr) (H : Hp) (p : Addr) (xs : List V) : Prop := TupAt K β H p xs ∨ ∃ o, H p = some (.frz o (.tup xs))
theorem LstF.sq {β H p} (h : LstF K β H p xs) : SqL K H p xs := by
  rcases h with h | ⟨o, h⟩
  · exact h.sq
  · exact .inl (.inr ⟨o, h⟩)
theorem TupF.sq {β H p} (h : TupF K β H p xs) : SqT K H p xs := by
  rcases h with h | ⟨o, h⟩
  · exact h.sq
  · exact .inl (.inr ⟨o, h⟩)
theorem LstF.ext {β H β' H' p} (e : Ext β H β' H') (h : LstF K β H p xs) : LstF K β' H' p xs := by
  rcases h with h | ⟨o, h⟩
  · exact .inl (h.ext e)
  · exact .inr ⟨o, e.frz _ _ _ h⟩
theorem TupF.ext {β H β' H' p} (e : Ext β H β' H') (h : TupF K β H p xs) : TupF K β' H' p xs := by
  rcases h with h | ⟨o, h⟩
  · exact .inl (h.ext e)
  · exact .inr ⟨o, e.frz _ _ _ h⟩
theorem wd_list {p : Addr} (h : LstF K β0 H0 p xs) (r : RepL fa K β0 H0 l xs) : WD fa K (Itl K p) l β0 H0 :=
  .of walk_list r.length.symm (fun _ _ e => (h.ext e).sq) (wd_at r)
theorem wd_tup {p : Addr} (h : TupF K β0 H0 p xs) (r : RepL fa K β0 H0 l xs) : WD fa K (Itt K p) l β0 H0 :=
  .of walk_tup r.length.symm (fun _ _ e => (h.ext e).sq) (wd_at r)
theorem rangeD_get : ∀ (n : Nat) (lo : Int) (i : Nat), i < n → (rangeD lo 1 n)[i]? = some (.int (lo + i))
  | 0, _, _, h => by omega
  | n + 1, lo, 0, _ => by simp [rangeD]
  | n + 1, lo, i + 1, h => by
    simp only [rangeD, List.getElem?_cons_succ]
    rw [rangeD_get n (lo + 1) i (by omega)]
    congr 2
    omega
theorem rangeD_len : ∀ (n : Nat) (lo : Int), (rangeD lo 1 n).length = n
  | 0, _ => rfl
  | n + 1, lo => by simp [rangeD, rangeD_len n]
theorem wd_range {lo : Int} {n : Nat} : WD fa K (Itr lo n) (rangeD lo 1 n) β0 H0 := by
  refine .of walk_range (rangeD_len n lo).symm (fun _ _ _ => trivial) fun i d x β H H' S hd hs e ⟨e1, e2⟩ => ?_
  subst e1 e2
  have hi : i < n := by have := (List.getElem?_eq_some_iff.mp hd).1; rwa [rangeD_len] at this
  rw [rangeD_get n lo i hi] at hd
  cases hd
  exact ⟨hs, .refl _ _, rep_int _⟩
theorem pair_rep {β H S T' x y} {d1 d2 : D} (hs : RepS fa K β H S) (hT : H T' = none) (r1 : RepD fa K β H d1 x) (r2 : RepD fa K β H d2 y) :
    RepS fa K β (upd H T' (.tup [x, y])) S ∧ Ext β H β (upd H T' (.tup [x, y])) ∧ RepD fa K β (upd H T' (.tup [x, y])) (.tup [d1, d2]) (.ref T') :=
  ⟨hs.new hT, Ext.new hT, rep_tup hs hT (.cons r1 (.cons r2 .nil))⟩
theorem enumD_get : ∀ (l : List D) (n i : Nat), (enumD n l)[i]? = (l[i]?).map fun d => .tup [.int ((n + i : Nat) : Int), d]
  | [], _, _ => by simp [enumD]
  | d :: l, n, 0 => by simp [enumD]
  | d :: l, n, i + 1 => by
    simp only [enumD, List.getElem?_cons_succ]
    rw [enumD_get l (n + 1) i]
    have : n + 1 + i = n + (i + 1) := by omega
    rw [this]
theorem enumD_len : ∀ (l : List D) (n : Nat), (enumD n l).length = l.length
  | [], _ => rfl
  | d :: l, n => by simp [enumD, enumD_len l]
theorem wd_enum_y (r : RepL fa K β0 H0 l xs) : ∀ i d x β H H' S, (enumD 0 l)[i]? = some d → RepS fa K β H S → Ext β0 H0 β H → YPair (fun i => some (.int (i : Nat))) (fun i => xs[i]?) i H x H' → RepS fa K β H' S ∧ Ext β H β H' ∧ RepD fa K β H' d x := by
  intro i d x β H H' S hd hs e ⟨T', a, b, e1, e2, e3, e4, e5⟩
  subst e1 e3
  rw [enumD_get] at hd
  obtain ⟨d0, h0, rfl⟩ := Option.map_eq_some_iff.mp hd
  cases e4
  obtain ⟨y, h1, h2⟩ := r.get h0
  have e5' : xs[i]? = some b := e5
  rw [e5'] at h1; cases h1
  rw [Nat.zero_add]
  exact pair_rep hs e2 (rep_int _) (h2.ext e)
theorem wd_enumL {p : Addr} (h : LstF K β0 H0 p xs) (r : RepL fa K β0 H0 l xs) : WD fa K (Ite K p) (enumD 0 l) β0 H0 :=
  .of walk_enum (by rw [enumD_len]; exact r.length.symm) (fun _ _ e => (h.ext e).sq) (wd_enum_y r)
theorem wd_enumT {p : Addr} (h : TupF K β0 H0 p xs) (r : RepL fa K β0 H0 l xs) : WD fa K (IteT K p) (enumD 0 l) β0 H0 :=
  .of walk_enumT (by rw [enumD_len]; exact r.length.symm) (fun _ _ e => (h.ext e).sq) (wd_enum_y r)
theorem wd_keys {p : Addr} {o : Obj} {t : Unit} {kk : List Key} {us : List V} (h : H0 p = some (.frz o (.dK (kk.zip us)))) (hl : kk.length = us.length) (hk : l.map keyD = kk.map some) : WD fa K (Itk p o (kk.zip us)) l β0 H0 := by
  have hkl : l.length = kk.length := by have := congrArg List.length hk; simpa using this
  refine .of walk_keys (by simp; omega) (fun _ _ e => e.frz _ _ _ h) fun i d x β H H' S hd hs e ⟨e1, key, v, e2, e3⟩ => ?_
  subst e1 e3
  refine ⟨hs, .refl _ _, rep_key ?_⟩
  have h1 : (l.map keyD)[i]? = some (keyD d) := by rw [List.getElem?_map, hd]; rfl
  have h2 : (kk.map some)[i]? = some (some key) := by
    have : (kk.zip us)[i]?.map (·.1) = some key := by rw [e2]; rfl
    rw [← List.getElem?_map, zip_fst hl] at this
    rw [List.getElem?_map, this]; rfl
  rw [hk, h2] at h1
  exact (Option.some.inj h1).symm
theorem wd_keysT {p : Addr} {o : Obj} {kk : List (List Key)} {us : List V} (h : H0 p = some (.frz o (.dT (kk.zip us)))) (hl : kk.length = us.length) (hk : l.map keyT = kk.map some) : WD fa K (Itkt p o (kk.zip us)) l β0 H0 := by
  have hkl : l.length = kk.length := by have := congrArg List.length hk; simpa using this
  refine .of walk_keysT (by simp; omega) (fun _ _ e => e.frz _ _ _ h) fun i d x β H H' S hd hs e ⟨e1, key, v, q, e2, e3, e4⟩ => ?_
  subst e1 e3
  refine ⟨hs, .refl _ _, rep_keyT hs ?_ e4⟩
  have h1 : (l.map keyT)[i]? = some (keyT d) := by rw [List.getElem?_map, hd]; rfl
  have h2 : (kk.map some)[i]? = some (some key) := by
    have : (kk.zip us)[i]?.map (·.1) = some key := by rw [e2]; rfl
    rw [← List.getElem?_map, zip_fst hl] at this
    rw [List.getElem?_map, this]; rfl
  rw [hk, h2] at h1
  exact (Option.some.inj h1).symm
end
end MP

set_option linter.all false
set_option Elab.async false
set_option maxRecDepth 100000
namespace MP
open PySem PySem.Spec PyProof.Rows L2
variable {T : Tab} {X : Cx} {c : Sc} {k : Nat} {W : WX}

/-- what a value gives to a walk -/
def iFlat (K : PySem.W.Frag) (te : TE) : TI := fun σ H R => te σ H fun x H1 => ∃ a, x = .ref a ∧ ((∃ xs, SqL K H1 a xs ∧ R (Itl K a) H1) ∨ (∃ xs, SqT K H1 a xs ∧ R (Itt K a) H1) ∨ (∃ o kvs, H1 a = some (.frz o (.dK kvs)) ∧ R (Itk a o kvs) H1) ∨ ∃ o kvs, H1 a = some (.frz o (.dT kvs)) ∧ R (Itkt a o kvs) H1)
theorem pi_flat {e tg : Expr} {te : TE} (he : PE X e te) : PI X tg e (iFlat X.K te) := by
  refine ⟨fun pins s σ H R I h => ?_⟩
  refine thn (he.run pins s σ H _ I h) fun v s1 ⟨x, H1, I1, r1, a, e, q⟩ => ?_
  subst e
  cases r1
  have fresh : ∀ b ∈ [s1.heap.objs.size], FpOk X pins H1 b := fun b hb => by
    have e : b = s1.heap.objs.size := by simpa using hb
    subst e
    exact I1.fpOk (Nat.le_refl _) (I1.hok.fresh (Nat.le_refl _))
  rcases q with ⟨xs, hq, q⟩ | ⟨xs, hq, q⟩ | ⟨o, kvs, hd, q⟩ | ⟨o, kvs, hd, q⟩
  · obtain ⟨its, rv, p, hz⟩ := I1.list hq
    refine wpAny_pyIter_list p.isList ?_
    exact ⟨s1.heap.objs.size, [s1.heap.objs.size], _, _, H1, rfl, I1.kept (t' := s1.toks) fun b o e => Heap.get?_push_of_some _ e, turn_list a _, ⟨_, Heap.get?_push_size _ rfl, rfl, rfl⟩, fresh, q⟩
  · obtain ⟨its, rv, p, hz⟩ := I1.tuple hq
    refine wpAny_pyIter_tuple (show s1.heap.IsTuple a its.toArray from p) ?_
    exact ⟨s1.heap.objs.size, [s1.heap.objs.size], _, _, H1, rfl, I1.kept (t' := s1.toks) fun b o e => Heap.get?_push_of_some _ e, turn_tuple a _, ⟨_, Heap.get?_push_size _ rfl, rfl, rfl⟩, fresh, q⟩
  · obtain ⟨hs, hgd, hx, es, ep, vs, hdt, hsz, kv, hm⟩ := I1.frzK hd
    refine iter_keys hs hgd hx hdt (pi_one (tk := s1.toks) I1 _ (turn_keys _ hdt) ⟨_, Heap.get?_push_size _ rfl, rfl, ?_⟩ q)
    rw [hsz] <;> rfl
  · obtain ⟨hs, hgd, hx, es, ep, hdt, hsz, ent⟩ := I1.frzT hd
    refine iter_keys hs hgd hx hdt (pi_one (tk := s1.toks) I1 _ (turn_keysT _ hdt) ⟨_, Heap.get?_push_size _ rfl, rfl, ?_⟩ q)
    rw [hsz] <;> rfl
def iEnm (K : PySem.W.Frag) (ta : TA) : TI := fun σ H R => ta σ H fun vs H1 => ∃ a xs, vs = [.ref a] ∧ ((SqL K H1 a xs ∧ R (Ite K a) H1) ∨ (SqT K H1 a xs ∧ R (IteT K a) H1))
theorem pi_enm {e : Expr} {ta : TA} {p pos tpos : Pos} {elts : List Expr} {kk : Nat} (hg : Gl X "enumerate") (hm : X.mg "enumerate" = none) (ha : PA X [e] ta) (hs : starEach [e] X.env = [(false, eval e X.env)]) :
    PI X (.Tuple elts kk tpos) (.Call (.Name "enumerate" p) [e] [] pos) (iEnm X.K ta) := by
  refine ⟨fun pins s σ H R I h => ?_⟩
  refine Call_ (ld_blt I hg hm boot_enumerate (PyProof.Rows.callWith_type1 (thn (ha.run pos pins s σ H _ I h) fun us s1 ⟨vs, H1, I1, r1, q1⟩ => ?_) hs rfl))
  obtain ⟨a, xs, ex, q1⟩ := q1
  subst ex
  have fr : ∀ b ∈ [s1.heap.objs.size + 1, s1.heap.objs.size], FpOk X pins H1 b := fun b hb => by
    have e' : b = s1.heap.objs.size + 1 ∨ b = s1.heap.objs.size := by simpa using hb
    have hle : s1.heap.objs.size ≤ b := by
      rcases e' with z | z
      · rw [z]; exact Nat.le_add_right _ _
      · rw [z]; exact Nat.le_refl _
    exact I1.fpOk hle (I1.hok.fresh hle)
  cases r1 with
  | cons r rr =>
    cases rr
    cases r
    rcases q1 with ⟨hq, q⟩ | ⟨hq, q⟩
    · obtain ⟨its, rv, p', hz⟩ := I1.list hq
      refine call_enumerate_list p'.isList fun h' he hit hsz hk => wpAny_pyIter_enum he ?_
      have I2 : Inv X pins σ H1 { s1 with heap := h' } := I1.kept (t' := s1.toks) hk
      exact ⟨s1.heap.objs.size + 1, [s1.heap.objs.size + 1, s1.heap.objs.size], _, _, H1, rfl, I2, turn_enum a (s1.heap.objs.size + 1) s1.heap.objs.size, ⟨⟨.none, he⟩, hit, Nat.succ_ne_self _⟩, fr, q⟩
    · obtain ⟨its, rv, p', hz⟩ := I1.tuple hq
      obtain ⟨o, ho, hp⟩ := id p'
      have hlt := Heap.lt_size ho
      refine call_enumerate_tuple (show s1.heap.IsTuple a its.toArray from p') fun h' he hit hsz hk => wpAny_pyIter_enum he ?_
      have I2 : Inv X pins σ H1 { s1 with heap := h' } := I1.kept (t' := s1.toks) hk
      exact ⟨s1.heap.objs.size + 1, [s1.heap.objs.size + 1, s1.heap.objs.size], _, _, H1, rfl, I2, turn_enumT a (s1.heap.objs.size + 1) s1.heap.objs.size, ⟨⟨.none, he⟩, hit, Nat.succ_ne_self _, Nat.ne_of_lt (Nat.lt_succ_of_lt hlt), Nat.ne_of_lt hlt⟩, fr, q⟩

/-! ### the reading of an iterator -/
def PI' (T : Tab) (K : PySem.W.Frag) (ms : List Nat) (β : List Addr) (H : Hp) (R : It → Hp → Prop) : List D × Option Nat → Sto → Prop := fun p S' =>
  p.2 = none ∧ ∀ β' H' J, Fin T K ms β H β' H' S' → WD T.fa K J p.1 β' H' → R J H'
abbrev rdI (T : Tab) (K : PySem.W.Frag) (W : WX) (F : List Nat → GE → Sto → R (List D × Option Nat)) : TI := rd T K W F (PI' T K)
theorem pit_imp {tg e : Expr} {t t' : TI} (h : PI X tg e t) (i : ∀ σ H R, t' σ H R → t σ H R) : PI X tg e t' := ⟨fun pins s σ H R I q => h.run pins s σ H R I (i σ H R q)⟩
/-- a value is walked as flatD tells -/
theorem flat_imp {K : PySem.W.Frag} {ms β0 H0 g σ β H S} {R : It → Hp → Prop} {d : D} {x : V} (n : Now T K ms β0 H0 g σ β H S) (r : RepD T.fa K β H d x) (h : GoodE (flatD d S) (PI' T K ms β0 H0 R) (PX T K ms β0 H0 fun c d H' => W c d σ H')) :
    ∃ a, x = .ref a ∧ ((∃ xs, SqL K H a xs ∧ R (Itl K a) H) ∨ (∃ xs, SqT K H a xs ∧ R (Itt K a) H) ∨ (∃ o kvs, H a = some (.frz o (.dK kvs)) ∧ R (Itk a o kvs) H) ∨ ∃ o kvs, H a = some (.frz o (.dT kvs)) ∧ R (Itkt a o kvs) H) := by
  unfold flatD at h
  split at h
  · obtain ⟨p, xs, rfl, h1, h2⟩ := r.tup_
    exact ⟨p, rfl, .inr (.inl ⟨xs, h1.sq, h.2 β H _ n.fin (wd_tup (.inl h1) h2)⟩)⟩
  · obtain ⟨p, xs, o, rfl, h1, _, _, h2⟩ := r.xtp_
    exact ⟨p, rfl, .inr (.inl ⟨xs, .inl (.inr ⟨o, h1⟩), h.2 β H _ n.fin (wd_tup (.inr ⟨o, h1⟩) h2)⟩)⟩
  · obtain ⟨p, xs, rfl, h1, h2⟩ := r.lst_
    exact ⟨p, rfl, .inl ⟨xs, h1.sq, h.2 β H _ n.fin (wd_list (.inl h1) h2)⟩⟩
  · obtain ⟨a, ha, rfl⟩ := r.ref_
    split at h
    · rename_i e
      obtain ⟨xs, ⟨o, h1⟩, h2⟩ := n.st.at_ _ a _ ha e
      exact ⟨a, rfl, .inl ⟨xs, .inl (.inr ⟨o, h1⟩), h.2 β H _ n.fin (wd_list (.inr ⟨o, h1⟩) h2)⟩⟩
    · rename_i t l e
      obtain ⟨us, h2, h3⟩ := n.st.at_ _ a _ ha e
      have hu := h2.length
      cases t
      · obtain ⟨kk, h4, ⟨o, h5⟩⟩ := h3
        have hl : kk.length = us.length := by have := congrArg List.length h4; simp at this hu; omega
        exact ⟨a, rfl, .inr (.inr (.inl ⟨o, _, h5, h.2 β H _ n.fin (wd_keys (t := ()) h5 hl h4)⟩))⟩
      · obtain ⟨kk, h4, ⟨o, h5⟩⟩ := h3
        have hl : kk.length = us.length := by have := congrArg List.length h4; simp at this hu; omega
        exact ⟨a, rfl, .inr (.inr (.inr ⟨o, _, h5, h.2 β H _ n.fin (wd_keysT h5 hl h4)⟩))⟩
    · exact False.elim h
  · exact False.elim h
theorem pi_flatC {e tg : Expr} {F : List Nat → GE → Sto → R D} (he : PE X e (rdE T X.K W F)) : PI X tg e (rdI T X.K W fun ms g S => (F ms g S).bind flatD) :=
  pit_imp (pi_flat he) fun σ H R h => by
    obtain ⟨β, ms, g, S, hs, hl, hE, h⟩ := h
    exact rd_into (γ := Unit) (.start hs hl hE) h fun d x β1 H1 S1 n1 f1 r1 h1 => flat_imp (W := W) n1 r1 h1
theorem ok62_of {a : Int} (h : ok62 a = true) : -(2 ^ 62) ≤ a ∧ a < 2 ^ 62 := by
  unfold ok62 at h
  simp at h
  omega
theorem pi_rng1C {a tg : Expr} {F : List Nat → GE → Sto → R D} {p pos : Pos} (C : Ctx T c k W X) (hg : Gl X "range") (ha : PE X a (rdE T X.K W F)) (hst : isStar a = false) :
    PI X tg (.Call (.Name "range" p) [a] [] pos) (rdI T X.K W fun ms g S => (F ms g S).bind rng1D) := by
  refine pit_imp (pi_range1 hg (C.link.bl "range" (by decide)) (pa_cons ha pa_nil (star_no hst _ _)) (star_no hst [] _)) fun σ H R h => ?_
  obtain ⟨β, ms, g, S, hs, hl, hE, h⟩ := h
  refine rd_into (γ := Unit) (.start hs hl hE) h fun d x β1 H1 S1 n1 f1 r1 h1 => ?_
  unfold rng1D at h1
  split at h1
  · rename_i i
    split at h1
    · rename_i ho
      rw [r1.int_]
      exact ⟨i, rfl, (ok62_of ho).1, (ok62_of ho).2, h1.2 β1 H1 _ n1.fin wd_range⟩
    · exact False.elim h1
  · exact False.elim h1
theorem pi_rng2C {a b tg : Expr} {Fa Fb : List Nat → GE → Sto → R D} {p pos : Pos} (C : Ctx T c k W X) (hg : Gl X "range") (ha : PE X a (rdE T X.K W Fa)) (hb : PE X b (rdE T X.K W Fb)) (hsa : isStar a = false) (hsb : isStar b = false) :
    PI X tg (.Call (.Name "range" p) [a, b] [] pos) (rdI T X.K W fun ms g S => (Fa ms g S).bind fun x S1 => (Fb ms g S1).bind fun y S2 => rng2D x y S2) := by
  have h2 : starEach [b] X.env = [(false, eval b X.env)] := star_no hsb [] _
  refine pit_imp (pi_range2 hg (C.link.bl "range" (by decide)) (pa_cons ha (pa_cons hb pa_nil (star_no hsb _ _)) (star_no hsa _ _)) (by rw [star_no hsa, h2]) h2) fun σ H R h => ?_
  obtain ⟨β, ms, g, S, hs, hl, hE, h⟩ := h
  refine rd_into (γ := Unit) (.start hs hl hE) h fun d x β1 H1 S1 n1 f1 r1 h1 => rd_into (γ := Unit) n1 h1 fun d2 y β2 H2 S2 n2 f2 r2 h2 => ?_
  unfold rng2D at h2
  split at h2
  · rename_i i
    split at h2
    · rename_i j
      split at h2
      · rename_i ho
        rw [Bool.and_eq_true] at ho
        rw [r1.int_, r2.int_]
        exact ⟨i, j, rfl, ⟨(ok62_of ho.1).1, (ok62_of ho.1).2, (ok62_of ho.2).1, (ok62_of ho.2).2⟩, h2.2 β2 H2 _ n2.fin wd_range⟩
      · exact False.elim h2
    · exact False.elim h2
  · exact False.elim h2
theorem pi_enmC {e : Expr} {F : List Nat → GE → Sto → R D} {p pos tpos : Pos} {elts : List Expr} {kk : Nat} (C : Ctx T c k W X) (hg : Gl X "enumerate") (he : PE X e (rdE T X.K W F)) (hst : isStar e = false) :
    PI X (.Tuple elts kk tpos) (.Call (.Name "enumerate" p) [e] [] pos) (rdI T X.K W fun ms g S => (F ms g S).bind enmD) := by
  refine pit_imp (pi_enm hg (C.link.bl "enumerate" (by decide)) (pa_cons he pa_nil (star_no hst _ _)) (star_no hst [] _)) fun σ H R h => ?_
  obtain ⟨β, ms, g, S, hs, hl, hE, h⟩ := h
  refine rd_into (γ := Unit) (.start hs hl hE) h fun d x β1 H1 S1 n1 f1 r1 h1 => ?_
  unfold enmD at h1
  split at h1
  · obtain ⟨p, xs, rfl, h3, h2⟩ := r1.tup_
    exact ⟨p, xs, rfl, .inr ⟨h3.sq, h1.2 β1 H1 _ n1.fin (wd_enumT (.inl h3) h2)⟩⟩
  · obtain ⟨p, xs, o, rfl, h3, _, _, h2⟩ := r1.xtp_
    exact ⟨p, xs, rfl, .inr ⟨.inl (.inr ⟨o, h3⟩), h1.2 β1 H1 _ n1.fin (wd_enumT (.inr ⟨o, h3⟩) h2)⟩⟩
  · obtain ⟨p, xs, rfl, h3, h2⟩ := r1.lst_
    exact ⟨p, xs, rfl, .inl ⟨h3.sq, h1.2 β1 H1 _ n1.fin (wd_enumL (.inl h3) h2)⟩⟩
  · exact False.elim h1
end MP

set_option linter.all false
set_option Elab.async false
set_option maxRecDepth 100000
namespace MP
open PySem PySem.Spec PyProof.Rows L2
variable {T : Tab} {X : Cx} {c : Sc} {k : Nat} {W : WX}

/-! ### targets -/
mutual
def gPat (K : PySem.W.Frag) : Pat → TG
  | .v i => gName i
  | .tup l => gTup K l.length (gPats K l)
def gPats (K : PySem.W.Frag) : List Pat → TGs
  | [] => gNil
  | p :: l => gCons (gPat K p) (gPats K l)
end
/-- names that may be stored to -/
def PatOk (X : Cx) (sc : Scope) : Prop := ∀ x, isLoc sc x = true → Loc X.env.scope x ∧ (X.fn x = true ∨ X.env.scope.names.lookup x = some .local)
theorem notStarA {es : List Expr} {env : PySem.Env} (h : ∀ e ∈ es, isStar e = false) : (assignEach es env).length = es.length ∧ (assignEach es env).findIdx? (·.1) = none ∧ (∀ e r, es = e :: r → (assignEach es env).map (·.2) = assign e env :: (assignEach r env).map (·.2)) := by
  induction es with
  | nil => exact ⟨rfl, rfl, fun e r h => by cases h⟩
  | cons e es ih =>
    obtain ⟨h1, h2, h3⟩ := ih fun x hx => h x (by simp [hx])
    have he := h e (by simp)
    have eq : assignEach (e :: es) env = (false, assign e env) :: assignEach es env := by
      cases e <;> first | rfl | (simp [isStar] at he)
    refine ⟨by rw [eq]; simp [h1], by rw [eq]; simp [List.findIdx?_cons, h2], fun e' r' h' => ?_⟩
    cases h'
    rw [eq]
    rfl
theorem pat_star {sc : Scope} : ∀ {fp : Nat} {p : Pat} {e : Expr}, mtPat c sc fp p e = true → isStar e = false
  | 0, _, _, h => by simp [mtPat] at h
  | f + 1, .v i, e, h => by cases e <;> simp [mtPat] at h; rfl
  | f + 1, .tup l, e, h => by cases e <;> simp [mtPat] at h; rfl
theorem pats_star {sc : Scope} {fp : Nat} : ∀ {l : List Pat} {es : List Expr}, mtPat.mtPats c sc fp l es = true → l.length = es.length ∧ ∀ e ∈ es, isStar e = false
  | [], [], _ => ⟨rfl, by simp⟩
  | [], _ :: _, h => by simp [mtPat.mtPats] at h
  | _ :: _, [], h => by simp [mtPat.mtPats] at h
  | p :: l, e :: es, h => by
    simp [mtPat.mtPats] at h
    obtain ⟨h1, h2⟩ := pats_star h.2
    refine ⟨by simp [h1], fun x hx => ?_⟩
    rcases List.mem_cons.mp hx with q | q
    · rw [q]; exact pat_star h.1
    · exact h2 x q
theorem pgs_of {sc : Scope} {fp : Nat} (ih : ∀ p e, mtPat c sc fp p e = true → PG X e (gPat X.K p)) : ∀ {l : List Pat} {es : List Expr}, mtPat.mtPats c sc fp l es = true → PGs X es (gPats X.K l)
  | [], [], _ => by unfold gPats; exact pgs_nil
  | [], _ :: _, h => by simp [mtPat.mtPats] at h
  | _ :: _, [], h => by simp [mtPat.mtPats] at h
  | p :: l, e :: es, h => by
    have hs := (pats_star h).2
    simp [mtPat.mtPats] at h
    unfold gPats
    exact pgs_cons (ih p e h.1) (pgs_of ih h.2) ((notStarA hs).2.2 e es rfl)
theorem pg_of {sc : Scope} (hc : X.calm = true) (hN : X.N.Nodup) (hn : X.N = c.N) (ok : PatOk X sc) : ∀ (fp : Nat) (p : Pat) (e : Expr), mtPat c sc fp p e = true → PG X e (gPat X.K p)
  | 0, _, _, h => by simp [mtPat] at h
  | f + 1, .v i, e, h => by
    cases e <;> simp [mtPat] at h
    rename_i x q
    obtain ⟨h1, h2⟩ := ok x h.2
    unfold gPat
    exact pg_name hN (by rw [hn]; simpa [nm] using h.1) h1 h2
  | f + 1, .tup l, e, h => by
    cases e <;> simp only [mtPat] at h <;> first | (cases h; done) | skip
    rename_i es kk q
    obtain ⟨h1, h2⟩ := pats_star h
    obtain ⟨h3, h4, _⟩ := notStarA (env := X.env) h2
    unfold gPat
    exact pg_tup hc (pgs_of (pg_of hc hN hn ok f) h) (by rw [h3, h1]) h4
theorem asgNs_len : ∀ {l : List Pat} {ds : List D} {g g1 : GE}, asgNs l ds g = some g1 → l.length = ds.length
  | [], ds, g, g1, h => by
    unfold asgNs at h
    cases ds <;> simp at h
    rfl
  | p :: l, ds, g, g1, h => by
    cases ds with
    | nil => unfold asgNs at h; simp at h
    | cons d ds =>
      unfold asgNs at h
      split at h
      · simp [asgNs_len h]
      · cases h
section
variable {fa : Nat → Addr} {K : PySem.W.Frag} {β : List Addr} {H : Hp}
/-- what the target's reading asks -/
theorem wipe_set (σ : L2.St) (i : Nat) (v : Option V) : ∀ (vs : List Nat), i ∈ vs → L2.wipe (σ.set i v) vs = L2.wipe σ vs
  | [], h => by simp at h
  | j :: vs, h => by
    unfold L2.wipe
    by_cases hij : i = j
    · subst hij
      by_cases hm : i ∈ vs
      · rw [wipe_set σ i v vs hm]
      · have comm : ∀ (vs : List Nat), i ∉ vs → L2.wipe (σ.set i v) vs = (L2.wipe σ vs).set i v := by
          intro vs
          induction vs with
          | nil => intro _; rfl
          | cons z zs ih =>
            intro hz
            unfold L2.wipe
            rw [ih (fun q => hz (by simp [q])), List.set_comm _ _ (fun q => hz (by simp [q]))]
        rw [comm vs hm, List.set_set]
    · have hm : i ∈ vs := by
        rcases List.mem_cons.mp h with q | q
        · exact absurd q hij
        · exact q
      rw [wipe_set σ i v vs hm]
mutual
theorem gPat_run (vs : List Nat) : ∀ (p : Pat) (d : D) (x : V) (g g1 : GE) (σ : L2.St) (Q : L2.St → Hp → Prop), RepE fa K β H g σ → RepD fa K β H d x → asgN p d g = some g1 → (∀ σ1, RepE fa K β H g1 σ1 → (patIn vs p = true → L2.wipe σ1 vs = L2.wipe σ vs) → Q σ1 H) → gPat K p x σ H Q
  | .v i, d, x, g, g1, σ, Q, he, r, h, q => by
    unfold asgN at h
    cases h
    unfold gPat
    refine q _ (he.set r) fun hp => ?_
    unfold patIn at hp
    exact wipe_set σ i _ vs (by simpa using hp)
  | .tup l, d, x, g, g1, σ, Q, he, r, h, q => by
    unfold asgN at h
    split at h
    · rename_i ds
      obtain ⟨p, xs, rfl, h1, h2⟩ := r.tup_
      unfold gPat
      have hl : l.length = ds.length := asgNs_len h
      refine ⟨p, xs, rfl, h1.sq, by rw [hl]; exact h2.length.symm, gPats_run vs l ds xs g g1 σ Q he h2 h fun σ1 e1 e2 => q σ1 e1 fun hp => ?_⟩
      unfold patIn at hp
      exact e2 hp
    · cases h
theorem gPats_run (vs : List Nat) : ∀ (l : List Pat) (ds : List D) (xs : List V) (g g1 : GE) (σ : L2.St) (Q : L2.St → Hp → Prop), RepE fa K β H g σ → RepL fa K β H ds xs → asgNs l ds g = some g1 → (∀ σ1, RepE fa K β H g1 σ1 → (patsIn vs l = true → L2.wipe σ1 vs = L2.wipe σ vs) → Q σ1 H) → gPats K l xs σ H Q
  | [], ds, xs, g, g1, σ, Q, he, r, h, q => by
    unfold asgNs at h
    cases ds <;> simp at h
    subst h
    unfold gPats
    exact ⟨r.unnil, q σ he fun _ => rfl⟩
  | p :: l, ds, xs, g, g1, σ, Q, he, r, h, q => by
    cases ds with
    | nil => unfold asgNs at h; simp at h
    | cons d ds =>
      unfold asgNs at h
      split at h
      · rename_i g2 e
        obtain ⟨x, xr, rfl, r1, r2⟩ := r.uncons
        unfold gPats
        refine ⟨x, xr, rfl, gPat_run vs p d x g g2 σ _ he r1 e fun σ2 he2 w2 => gPats_run vs l ds xr g2 g1 σ2 Q he2 r2 h fun σ3 he3 w3 => q σ3 he3 fun hp => ?_⟩
        unfold patsIn at hp
        rw [Bool.and_eq_true] at hp
        rw [w3 hp.2, w2 hp.1]
      · cases h
end
end
end MP

set_option linter.all false
set_option Elab.async false
set_option maxRecDepth 100000
namespace MP
open PySem PySem.Spec PyProof.Rows L2
variable {T : Tab} {X : Cx} {c : Sc} {k : Nat} {W : WX}

/-- lists and dicts may be locked -/
def LkU (u : HO) : Prop := (∃ xs, u = .lst xs) ∨ (∃ kvs, u = .dK kvs) ∨ ∃ kvs, u = .dT kvs
theorem LkU.mut {u : HO} (h : LkU u) : Mut (some u) := by
  rcases h with ⟨_, rfl⟩ | ⟨_, rfl⟩ | ⟨_, rfl⟩ <;> exact True.intro
theorem LkU.nofrz {u : HO} (h : LkU u) : ∀ ob u', u ≠ .frz ob u' := by
  rcases h with ⟨_, rfl⟩ | ⟨_, rfl⟩ | ⟨_, rfl⟩ <;> exact fun _ _ => nofun
theorem LkU.notup {u : HO} (h : LkU u) : ∀ xs, u ≠ .tup xs := by
  rcases h with ⟨_, rfl⟩ | ⟨_, rfl⟩ | ⟨_, rfl⟩ <;> exact fun _ => nofun
/-- what is read in H is read in H' -/
structure Sim (H H' : Hp) : Prop where
  rd : ∀ p u, LkU u → Rd H p u → Rd H' p u
  tup : ∀ p xs, H p = some (.tup xs) → H' p = some (.tup xs)
  ftup : ∀ p o xs, H p = some (.frz o (.tup xs)) → H' p = some (.frz o (.tup xs))
section
variable {fa : Nat → Addr} {K : PySem.W.Frag} {β : List Addr} {H H' : Hp}
mutual
theorem RepD.sim (e : Sim H H') : ∀ (d : D) (v : V), RepD fa K β H d v → RepD fa K β H' d v
  | .non, _, h => by unfold RepD at h ⊢; exact h
  | .bl _, _, h => by unfold RepD at h ⊢; exact h
  | .int _, _, h => by unfold RepD at h ⊢; exact h
  | .str _, _, h => by unfold RepD at h ⊢; exact h
  | .fn _, _, h => by unfold RepD at h ⊢; exact h
  | .ref n, _, h => by unfold RepD at h ⊢; exact h
  | .tup l, _, h => by
    unfold RepD at h ⊢
    obtain ⟨p, xs, rfl, h1, h2⟩ := h
    exact ⟨p, xs, rfl, ⟨e.tup _ _ h1.1, h1.2⟩, RepL.sim e l xs h2⟩
  | .xtp l, _, h => by
    unfold RepD at h ⊢
    obtain ⟨p, xs, o, rfl, h1, h2, h3, h4⟩ := h
    exact ⟨p, xs, o, rfl, e.ftup _ _ _ h1, h2, h3, RepL.sim e l xs h4⟩
  | .lst l, _, h => by
    unfold RepD at h ⊢
    obtain ⟨p, xs, rfl, h1, h2⟩ := h
    refine ⟨p, xs, rfl, ?_, RepL.sim e l xs h2⟩
    rcases h1 with ⟨h1, hb⟩ | h1
    · exact .inl ⟨e.rd _ _ (.inl ⟨_, rfl⟩) h1, hb⟩
    · exact .inr h1
  | .dct t ks vs, _, h => by
    unfold RepD at h ⊢
    obtain ⟨p, us, rfl, h1, h2⟩ := h
    refine ⟨p, us, rfl, RepL.sim e vs us h1, ?_⟩
    cases t
    · obtain ⟨kk, a, b, c⟩ := h2
      exact ⟨kk, a, ⟨e.rd _ _ (.inr (.inl ⟨_, rfl⟩)) b.1, b.2⟩, c⟩
    · obtain ⟨kk, a, b, c⟩ := h2
      exact ⟨kk, a, ⟨e.rd _ _ (.inr (.inr ⟨_, rfl⟩)) b.1, b.2⟩, c⟩
theorem RepL.sim (e : Sim H H') : ∀ (l : List D) (xs : List V), RepL fa K β H l xs → RepL fa K β H' l xs
  | [], _, h => by unfold RepL at h ⊢; exact h
  | d :: l, _, h => by
    unfold RepL at h ⊢
    obtain ⟨x, r, rfl, h1, h2⟩ := h
    exact ⟨x, r, rfl, RepD.sim e d x h1, RepL.sim e l r h2⟩
end
theorem RepE.sim (e : Sim H H') {g : GE} {σ : L2.St} (h : RepE fa K β H g σ) : RepE fa K β H' g σ := ⟨h.1, fun i d hi => let ⟨v, h1, h2⟩ := h.2 i d hi; ⟨v, h1, h2.sim e⟩⟩
theorem sim_lock {p : Addr} {od : Obj} {u : HO} (h : H p = some u) (hu : LkU u) : Sim H (upd H p (.frz od u)) := by
  refine ⟨fun q w hw hq => ?_, fun q xs hq => ?_, fun q o xs hq => ?_⟩
  · by_cases e : q = p
    · subst e
      rcases hq with hq | ⟨o, hq⟩
      · rw [h] at hq; cases hq; exact .inr ⟨od, upd_same⟩
      · rw [h] at hq; exact absurd (Option.some.inj hq) (hu.nofrz _ _)
    · rcases hq with hq | ⟨o, hq⟩
      · exact .inl (by rw [upd_ne e]; exact hq)
      · exact .inr ⟨o, by rw [upd_ne e]; exact hq⟩
  · by_cases e : q = p
    · subst e; rw [h] at hq; exact absurd (Option.some.inj hq) (hu.notup _)
    · rw [upd_ne e]; exact hq
  · by_cases e : q = p
    · subst e; rw [h] at hq; exact absurd (Option.some.inj hq) (hu.nofrz _ _)
    · rw [upd_ne e]; exact hq
theorem sim_unlock {p : Addr} {od : Obj} {u : HO} (h : H p = some (.frz od u)) (hu : LkU u) : Sim H (upd H p u) := by
  refine ⟨fun q w hw hq => ?_, fun q xs hq => ?_, fun q o xs hq => ?_⟩
  · by_cases e : q = p
    · subst e
      rcases hq with hq | ⟨o, hq⟩
      · rw [h] at hq; cases hq; exact absurd rfl (hw.nofrz _ _)
      · rw [h] at hq; cases hq; exact .inl upd_same
    · rcases hq with hq | ⟨o, hq⟩
      · exact .inl (by rw [upd_ne e]; exact hq)
      · exact .inr ⟨o, by rw [upd_ne e]; exact hq⟩
  · by_cases e : q = p
    · subst e; rw [h] at hq; cases hq
    · rw [upd_ne e]; exact hq
  · by_cases e : q = p
    · subst e; rw [h] at hq; cases hq; exact absurd rfl (hu.notup _)
    · rw [upd_ne e]; exact hq

theorem RepO.sim (e : Sim H H') {a : Addr} {ob : Ob} (hH : H' a = H a) (h : RepO fa K β H a ob) : RepO fa K β H' a ob := by
  have at' : ∀ {o : HO}, At ob.lk H a o → At ob.lk H' a o := fun {o} x => by
    unfold At at x ⊢
    rw [hH]; exact x
  obtain ⟨lk, bd⟩ := ob
  cases bd with
  | lst l => obtain ⟨xs, h1, h2⟩ := h; exact ⟨xs, at' h1, h2.sim e⟩
  | dct t l =>
    obtain ⟨us, h1, h2⟩ := h
    refine ⟨us, h1.sim e, ?_⟩
    cases t
    · obtain ⟨kk, h3, h4⟩ := h2; exact ⟨kk, h3, at' h4⟩
    · obtain ⟨kk, h3, h4⟩ := h2; exact ⟨kk, h3, at' h4⟩
  | ins c fs => exact h.elim
/-- an object not of the store is locked, unlocked -/
theorem RepS.side {S : Sto} {a : Addr} {u : HO} (hs : RepS fa K β H S) (e : Sim H (L2.upd H a u)) (ha : a ∉ β) : RepS fa K β (L2.upd H a u) S :=
  ⟨hs.len, hs.nd, fun n b ob e1 e2 => (hs.at_ n b ob e1 e2).sim e (upd_ne fun z => ha (by rw [← z]; exact List.mem_of_getElem? e1))⟩
/-- an object of the store -/
theorem RepS.swap {S : Sto} {n : Nat} {a : Addr} {o : HO} {ob : Ob} (hs : RepS fa K β H S) (e : Sim H (L2.upd H a o)) (hn : β[n]? = some a) (hnew : RepO fa K β (L2.upd H a o) a ob) : RepS fa K β (L2.upd H a o) (S.set n ob) := by
  refine ⟨by simp [hs.len], hs.nd, fun m b ob' e1 e2 => ?_⟩
  by_cases hm : m = n
  · subst hm
    rw [hn] at e1; cases e1
    have hl : m < S.length := by rw [← hs.len]; exact (List.getElem?_eq_some_iff.mp hn).1
    rw [List.getElem?_set_self hl] at e2
    cases e2
    exact hnew
  · rw [List.getElem?_set_ne (Ne.symm hm)] at e2
    exact (hs.at_ m b ob' e1 e2).sim e (upd_ne fun z => hm (nodup_get hs.nd e1 (z ▸ hn)))
/-- what may be locked now: the object o of the store, or a dict that is not of it, at a; u stands there -/
def Lockable (β : List Addr) (H : Hp) (S : Sto) (o : Option Nat) (a : Addr) (u : HO) : Prop := H a = some u ∧ LkU u ∧ match o with
  | some n => β[n]? = some a ∧ ∃ bd, S[n]? = some ⟨false, bd⟩
  | none => a ∉ β
theorem RepO.lk {a : Addr} {od : Obj} {u : HO} {bd : Bd} (h : H a = some u) (hu : LkU u) (r : RepO fa K β H a ⟨false, bd⟩) : RepO fa K β (L2.upd H a (.frz od u)) a ⟨true, bd⟩ := by
  have e := sim_lock (od := od) h hu
  have at' : ∀ {o : HO}, At false H a o → At true (L2.upd H a (.frz od u)) a o := fun {o} x => by
    have x' : H a = some o := x
    rw [h] at x'; cases x'
    exact ⟨od, upd_same⟩
  cases bd with
  | lst l => obtain ⟨xs, h1, h2⟩ := r; exact ⟨xs, at' h1, h2.sim e⟩
  | dct t l =>
    obtain ⟨us, h1, h2⟩ := r
    refine ⟨us, h1.sim e, ?_⟩
    cases t
    · obtain ⟨kk, h3, h4⟩ := h2; exact ⟨kk, h3, at' h4⟩
    · obtain ⟨kk, h3, h4⟩ := h2; exact ⟨kk, h3, at' h4⟩
  | ins c fs => exact r.elim
theorem RepO.unlk {a : Addr} {od : Obj} {u : HO} {ob : Ob} (h : H a = some (.frz od u)) (hu : LkU u) (r : RepO fa K β H a ob) : RepO fa K β (L2.upd H a u) a ⟨false, ob.bd⟩ := by
  have e := sim_unlock h hu
  obtain ⟨lk, bd⟩ := ob
  have at' : ∀ {o : HO}, LkU o → At lk H a o → At false (L2.upd H a u) a o := fun {o} ho x => by
    cases lk
    · have x' : H a = some o := x
      rw [h] at x'; exact absurd (Option.some.inj x').symm (ho.nofrz _ _)
    · obtain ⟨ob, x'⟩ := x
      rw [h] at x'; cases x'
      exact upd_same
  cases bd with
  | lst l => obtain ⟨xs, h1, h2⟩ := r; exact ⟨xs, at' (.inl ⟨_, rfl⟩) h1, h2.sim e⟩
  | dct t l =>
    obtain ⟨us, h1, h2⟩ := r
    refine ⟨us, h1.sim e, ?_⟩
    cases t
    · obtain ⟨kk, h3, h4⟩ := h2; exact ⟨kk, h3, at' (.inr (.inl ⟨_, rfl⟩)) h4⟩
    · obtain ⟨kk, h3, h4⟩ := h2; exact ⟨kk, h3, at' (.inr (.inr ⟨_, rfl⟩)) h4⟩
  | ins c fs => exact r.elim
theorem RepS.lock {S : Sto} {o : Option Nat} {a : Addr} {u : HO} {od : Obj} (hs : RepS fa K β H S) (h : Lockable β H S o a u) : RepS fa K β (L2.upd H a (.frz od u)) (lockAt true o S) := by
  obtain ⟨h1, h2, h3⟩ := h
  cases o with
  | none => exact hs.side (sim_lock h1 h2) h3
  | some n =>
    obtain ⟨h3, bd, h4⟩ := h3
    unfold MP.lockAt
    dsimp only
    rw [h4]
    exact hs.swap (sim_lock h1 h2) h3 (RepO.lk h1 h2 (hs.at_ n a _ h3 h4))
theorem lockAt_len (b : Bool) (o : Option Nat) (S : Sto) : (lockAt b o S).length = S.length := by
  cases o with
  | none => rfl
  | some n =>
    unfold lockAt
    dsimp only
    split <;> simp
theorem RepS.unlock {S : Sto} {o : Option Nat} {a : Addr} {u : HO} {od : Obj} (hs : RepS fa K β H S) (h : H a = some (.frz od u)) (hu : LkU u) (ho : match o with | some n => β[n]? = some a | none => a ∉ β) : RepS fa K β (L2.upd H a u) (lockAt false o S) := by
  cases o with
  | none => exact hs.side (sim_unlock h hu) ho
  | some n =>
    have hl : n < S.length := by rw [← hs.len]; exact (List.getElem?_eq_some_iff.mp ho).1
    have e : S[n]? = some S[n] := List.getElem?_eq_getElem hl
    unfold MP.lockAt
    dsimp only
    rw [e]
    exact hs.swap (sim_unlock h hu) ho (RepO.unlk h hu (hs.at_ n a _ ho e))
theorem LowS.lockAt {ms : List Nat} {S : Sto} (h : LowS ms S) (b : Bool) (o : Option Nat) : LowS ms (lockAt b o S) := by
  cases o with
  | none => exact h
  | some n =>
    unfold MP.lockAt
    dsimp only
    split
    · rename_i x e
      exact h.set fun m hm hn => (h m hm).2 n x hn e
    · exact h
/-- from before the lock to behind the unlock -/
theorem Ext.locked {β' : List Addr} {H' : Hp} {a : Addr} {u : HO} {od : Obj} (h : H a = some u) (hu : LkU u) (e : Ext β (L2.upd H a (.frz od u)) β' H') : Ext β H β' (L2.upd H' a u) := by
  obtain ⟨t, e1, e2⟩ := e.pre
  refine ⟨⟨t, e1, fun x hx => ?_⟩, fun b o hb hn => ?_, fun b ob w hb => ?_⟩
  · have := e2 x hx
    by_cases z : x = a
    · subst z; rw [upd_same] at this; cases this
    · rw [upd_ne z] at this; exact this
  · by_cases z : b = a
    · subst z; rw [h] at hb; cases hb; exact upd_same
    · rw [upd_ne z]; exact e.keep b o (by rw [upd_ne z]; exact hb) hn
  · by_cases z : b = a
    · subst z; rw [h] at hb; exact absurd (Option.some.inj hb) (hu.nofrz _ _)
    · rw [upd_ne z]; exact e.frz b ob w (by rw [upd_ne z]; exact hb)
/-- the end of a store -/
theorem RepS.take {S : Sto} {m : Nat} {ms : List Nat} (hs : RepS fa K β H S) (hl : LowS ms S) (hm : m ∈ ms) : RepS fa K (β.take m) H (S.take m) := by
  obtain ⟨h1, h2⟩ := hl m hm
  refine ⟨by simp [hs.len], hs.nd.sublist (List.take_sublist _ _), fun n a ob e1 e2 => ?_⟩
  have hn : n < m := by
    have := (List.getElem?_eq_some_iff.mp e1).1
    simp at this; omega
  rw [List.getElem?_take_of_lt hn] at e1 e2
  have r := hs.at_ n a ob e1 e2
  have b := h2 n ob hn e2
  obtain ⟨lk, bd⟩ := ob
  cases bd with
  | lst l => obtain ⟨xs, r1, r2⟩ := r; exact ⟨xs, r1, r2.shrink _ _ b⟩
  | dct t l => obtain ⟨us, r1, r2⟩ := r; exact ⟨us, r1.shrink _ _ b, r2⟩
  | ins c fs => exact r.elim
theorem LowS.take {S : Sto} {m : Nat} {ms : List Nat} (hl : LowS ms S) (hm : ∀ x ∈ ms, x ≤ m) (hmS : m ≤ S.length) : LowS ms (S.take m) := fun x hx => by
  obtain ⟨h1, h2⟩ := hl x hx
  have := hm x hx
  refine ⟨by simp; omega, fun n ob hn e => h2 n ob hn ?_⟩
  rw [List.getElem?_take_of_lt (by omega)] at e
  exact e
end
end MP

set_option linter.all false
set_option Elab.async false
set_option maxRecDepth 100000
namespace MP
open PySem PySem.Spec PyProof.Rows L2
variable {T : Tab} {X : Cx} {c : Sc} {k : Nat} {W : WX}

theorem WD.mono {fa : Nat → Addr} {K : PySem.W.Frag} {J : It} {l : List D} {β0 β1 : List Addr} {H0 H1 : Hp} {S1 : Sto} (w : WD fa K J l β0 H0) (e : Ext β0 H0 β1 H1) (hs : RepS fa K β1 H1 S1) : WD fa K J l β1 H1 :=
  ⟨fun i β H S hi h x => w.go i β H S hi h (e.trans hs x), fun β H S h x => w.stop β H S h (e.trans hs x), fun i d x β H H' S hd h y z => w.yld i d x β H H' S hd h (e.trans hs y) z⟩
theorem WD.walk {fa : Nat → Addr} {K : PySem.W.Frag} {J : It} {l : List D} {β0 : List Addr} {H0 : Hp} (w : WD fa K J l β0 H0) :
    Walk J l.length (fun H => ∃ β S, RepS fa K β H S ∧ Ext β0 H0 β H) (fun i H x H' => ∀ β S, RepS fa K β H S → Ext β0 H0 β H → RepS fa K β H' S ∧ Ext β H β H' ∧ ∀ d, l[i]? = some d → RepD fa K β H' d x) :=
  ⟨fun i H hi ⟨β, S, h, e⟩ => w.go i β H S hi h e, fun H ⟨β, S, h, e⟩ => w.stop β H S h e, fun i H x H' hi _ y β S h e => by
    have hd : l[i]? = some l[i] := List.getElem?_eq_getElem hi
    obtain ⟨a, b, c⟩ := w.yld i _ x β H H' S hd h e y
    exact ⟨a, b, fun d hd' => by rw [hd] at hd'; cases hd'; exact c⟩⟩
theorem noX_good {α γ : Type} {r : R α} {k : α → Sto → R γ} {P : γ → Sto → Prop} {E : Nat → D → Sto → Prop} (h : GoodE ((noX r).bind k) P E) : GoodE r (fun a s => GoodE (k a s) P E) (fun _ _ _ => False) := by
  cases r with
  | ok a s => exact h
  | exc c p s => exact False.elim h
  | bad => exact h
theorem wipe_twice (σ : L2.St) : ∀ vs : List Nat, L2.wipe (L2.wipe σ vs) vs = L2.wipe σ vs := by
  have key : ∀ (vs : List Nat) (σ : L2.St) (i : Nat), (L2.wipe σ vs)[i]? = if i ∈ vs then (if i < σ.length then some none else none) else σ[i]? := by
    intro vs
    induction vs with
    | nil => intro σ i; simp [L2.wipe]
    | cons v vs ih =>
      intro σ i
      unfold L2.wipe
      by_cases e : v = i
      · subst e
        simp [List.getElem?_set, L2.wipe_length]
      · rw [List.getElem?_set_ne e, ih σ i]
        have : (i ∈ v :: vs) ↔ i ∈ vs := by
          constructor
          · intro h
            rcases List.mem_cons.mp h with q | q
            · exact absurd q.symm e
            · exact q
          · intro h; simp [h]
        simp [this]
  intro vs
  apply List.ext_getElem?
  intro i
  rw [key vs (L2.wipe σ vs) i, key vs σ i, L2.wipe_length]
  split <;> rfl
theorem pts_imp {ifs : List Expr} {t t' : TT} (h : PTs X ifs t) (i : ∀ σ H Q, t' σ H Q → t σ H Q) : PTs X ifs t' := ⟨fun pins s σ H Q I q => h.run pins s σ H Q I (i σ H Q q)⟩
theorem pts_of {M : MtF} {E : List Nat → TtF} (hE : ST T c k M E) {sc : Scope} : ∀ {l : List Ex} {es : List Expr}, mtL M sc l es = true → l.length ≤ 1 → Ctx T c k W X → X.env.scope = sc → PTs X es (rdT T X.K W fun ms g S => ttAnd (E ms) l g S)
  | [], [], _, _, _, _ => pts_imp pts_nil fun σ H Q h => by
    obtain ⟨β, ms, g, S, hs, hl, he, h⟩ := h
    exact h β H (.refl hs hl)
  | [], _ :: _, h, _, _, _ => by simp [mtL] at h
  | _ :: _, [], h, _, _, _ => by simp [mtL] at h
  | [x], [e], h, _, C, hsc => by
    simp [mtL] at h
    refine pts_imp (pts_one (hE sc x e W X h C hsc)) fun σ H Q q => ?_
    obtain ⟨β, ms, g, S, hs, hl, he, h⟩ := q
    simp only [ttAnd] at h
    refine rd_intoT (.start hs hl he) h fun d β1 H1 S1 n1 f1 h1 => ?_
    cases d
    · exact h1 β1 H1 n1.fin
    · exact h1 β1 H1 n1.fin
  | [x], e :: e' :: es, h, _, _, _ => by simp [mtL] at h
  | x :: y :: l, _, _, h, _, _ => by simp at h
abbrev W0 : WX := fun _ _ _ _ => False
theorem px_false {K : PySem.W.Frag} {ms : List Nat} {β : List Addr} {H : Hp} {E : Value → Option Addr → Hp → Prop} : ∀ c p s, False → PX T K ms β H E c p s := fun _ _ _ h => h.elim

/-- the loop of a comprehension, and its end -/
theorem comp_core {K : PySem.W.Frag} {E : List Nat → EvF} {TT' : List Nat → TtF} {elt : Ex} {tg : Pat} {ifs : List Ex} {own : List Nat} {bx : Bool} {o : Option Nat} {J : It} {l : List D} {ms β0 H0 g σ β1 H1 S1} {P : D → Sto → Prop} {Ex' : Nat → D → Sto → Prop} {Q : VK}
    (n1 : Now T K ms β0 H0 g σ β1 H1 S1) (wd : WD T.fa K J l β1 H1) (hp : patIn own tg = true)
    (h : GoodE (compD bx o S1 fun n0 S2 => compL (E (n0 :: ms)) (TT' (n0 :: ms)) elt tg ifs (wipeE g own) n0 l S2) P Ex')
    (hq : ∀ d S' β' H' x, P d (lockAt false o S') → Fin T K ms β1 H1 β' H' S' → RepD T.fa K β' H' d x → Q x H') :
    ∀ D, H1 D = none → ∃ W : Nat → Nat → Hp → Prop, (∃ m, W 0 m (upd H1 D (.lst []))) ∧ ∀ i m H, W i m H →
      (J.stop i H ∧ Q (.ref D) H) ∨ (J.go i H ∧ ∃ Nx : Hp → Prop, (∀ H', Nx H' → ∃ m', m' < m ∧ W (i + 1) m' H') ∧ ∀ x H', J.yld i H x H' → gPat K tg x (L2.wipe σ own) H' fun σ2 H2 => L2.wipe σ2 own = L2.wipe σ own ∧ rdT T K W0 (fun ms g S => ttAnd (TT' ms) ifs g S) σ2 H2 fun b H3 =>
        if b = true then rdE T K W0 (fun ms g S => E ms elt g S) σ2 H3 fun y H4 => ∃ acc, H4 D = some (.lst acc) ∧ acc.length < sizeLine ∧ Nx (upd H4 D (.lst (acc ++ [y]))) else Nx H3) := by
  intro D hD
  have h := h.bind
  have ex2 : Ext β1 H1 (β1 ++ [D]) (upd H1 D (.lst [])) := Ext.push hD
  have st2 : RepS T.fa K (β1 ++ [D]) (upd H1 D (.lst [])) (S1 ++ [⟨false, .lst []⟩]) := n1.st.push hD ⟨[], upd_same, .nil⟩
  have wd2 := wd.mono ex2 st2
  have hlen : β1.length = S1.length := n1.st.len
  have hms : ∀ m ∈ ms, m ≤ S1.length := fun m hm => (n1.low m hm).1
  have low2 : LowS (S1.length :: ms) (S1 ++ [⟨false, .lst []⟩]) := (n1.st.low n1.low).push _
  have atD : ∀ {β H}, Ext (β1 ++ [D]) (upd H1 D (.lst [])) β H → β[S1.length]? = some D := fun {β H} e => by
    obtain ⟨t, e1, _⟩ := e.pre
    rw [e1, List.getElem?_append_left (by simp [hlen]), List.getElem?_append_right (by omega)]
    simp [hlen]
  refine lc_it wd2.walk (fun i H => ∃ β S, RepS T.fa K β H S ∧ LowS (S1.length :: ms) S ∧ Ext (β1 ++ [D]) (upd H1 D (.lst [])) β H ∧
    GoodE (compL (E (S1.length :: ms)) (TT' (S1.length :: ms)) elt tg ifs (wipeE g own) S1.length (l.drop i) S) (fun _ S' => GoodE (compEnd bx S1.length o S') P Ex') Ex') ?_ ?_ ?_ ?_
  · exact ⟨_, _, st2, low2, .refl _ _, by rw [List.drop_zero]; exact h⟩
  · rintro i H hi ⟨β, S, a, b, e, _⟩
    exact ⟨β, S, a, e⟩
  · rintro i x H H' hi ⟨β, S, hs, hl, e, hg⟩ y
    obtain ⟨hs', e', hr⟩ := y β S hs e
    have hd : l[i]? = some l[i] := List.getElem?_eq_getElem hi
    rw [List.drop_eq_getElem_cons hi] at hg
    simp only [compL] at hg
    split at hg
    · exact False.elim hg
    · rename_i g1 hgs
      have env' : RepE T.fa K β H' (wipeE g own) (L2.wipe σ own) := (((n1.env.ext ex2).ext e).ext e').wipe own
      refine gPat_run own tg _ x _ g1 _ _ env' (hr _ hd) hgs fun σ1 env1 hw => ⟨by rw [hw hp, wipe_twice], ?_⟩
      have hT := noX_good hg
      refine ⟨β, S1.length :: ms, g1, S, hs', hl, env1, hT.mono (fun b S2 hb β3 H3 f3 => ?_) px_false⟩
      have e3 : Ext (β1 ++ [D]) (upd H1 D (.lst [])) β3 H3 := (e.trans hs e').trans hs' f3.ext
      cases b with
      | false =>
        simp only [Bool.false_eq_true, if_false] at hb ⊢
        exact ⟨β3, S2, f3.st, f3.low, e3, hb⟩
      | true =>
        simp only [if_true] at hb ⊢
        have hE := noX_good hb
        refine ⟨β3, S1.length :: ms, g1, S2, f3.st, f3.low, env1.ext f3.ext, hE.mono (fun d S3 hd3 β4 H4 y4 f4 r4 => ?_) px_false⟩
        have e4 := e3.trans f3.st f4.ext
        split at hd3
        · rename_i lD hS
          split at hd3
          · rename_i hz
            obtain ⟨acc, h1, h2⟩ := f4.st.at_ _ D _ (atD e4) hS
            have h1' : H4 D = some (.lst acc) := h1
            have nf : NoFrz H4 D := nofrz_of h1' (by simp)
            have hz' := lineOk_le hz
            refine ⟨acc, h1', by rw [← h2.length]; omega, ?_⟩
            have e5 : Ext β4 H4 β4 (upd H4 D (.lst (acc ++ [y4]))) := Ext.upd (atD e4) nf
            refine ⟨β4, _, f4.st.upd (ob := ⟨false, .lst (lD ++ [d])⟩) (atD e4) nf ⟨_, upd_same, (h2.append (.cons r4 .nil)).ext e5⟩, f4.low.set fun m hm hn => ?_, e4.trans f4.st e5, hd3⟩
            rcases List.mem_cons.mp hm with q | q
            · rw [q] at hn; exact absurd hn (Nat.lt_irrefl _)
            · exact absurd (hms m q) (by omega)
          · exact False.elim hd3
        · exact False.elim hd3
  · rintro H ⟨β, S, hs, hl, e, hg⟩
    rw [List.drop_eq_nil_of_le (Nat.le_refl _)] at hg
    simp only [compL] at hg
    have hg' : GoodE (compEnd bx S1.length o S) P Ex' := hg
    unfold compEnd at hg'
    split at hg'
    · rename_i lD hS
      obtain ⟨acc, h1, h2⟩ := hs.at_ _ D _ (atD e) hS
      have h1' : H D = some (.lst acc) := h1
      have e1 : Ext β1 H1 β H := ex2.trans st2 e
      split at hg'
      · refine hq _ S β H _ hg' ⟨e1, hs, fun m hm => hl m (by simp [hm])⟩ ?_
        unfold RepD
        exact ⟨D, atD e, rfl⟩
      · split at hg'
        · rename_i hc
          rw [Bool.and_eq_true] at hc
          have hlenS : S.length = S1.length + 1 := of_decide_eq_true hc.1
          have hb : BlL S1.length lD := .all fun d hd => below_bl (List.all_eq_true.mp hc.2 d hd)
          have hβ : β.take S1.length = β1 := by
            obtain ⟨t, e2, _⟩ := e.pre
            rw [e2, List.append_assoc, ← hlen, List.take_left']
            rfl
          have tk := hs.take hl (m := S1.length) (by simp)
          have h2' := h2.shrink _ _ hb
          rw [hβ] at tk h2'
          have nD : D ∉ β1 := n1.st.fresh hD
          refine hq _ (S.take S1.length) β1 H _ hg' ⟨⟨⟨[], by simp, by simp⟩, fun a w ha hn => e1.keep a w ha hn, e1.frz⟩, tk, fun m hm => (hl.take (ms := S1.length :: ms) (m := S1.length) (fun x hx => ?_) (by omega)) m (by simp [hm])⟩ ?_
          · rcases List.mem_cons.mp hx with q | q
            · omega
            · exact hms x q
          · unfold RepD
            exact ⟨D, acc, rfl, .inl ⟨.inl h1', nD⟩, h2'⟩
        · exact False.elim hg'
    · exact False.elim hg'

/-! ### the comprehension as a value -/
theorem lockAt_none (b : Bool) (S : Sto) : lockAt b none S = S := rfl
/-- nothing is locked by it -/
theorem comp_plain {K : PySem.W.Frag} {E : List Nat → EvF} {TT' : List Nat → TtF} {Fit : List Nat → GE → Sto → R (List D × Option Nat)} {elt : Ex} {tg : Pat} {ifs : List Ex} {own : List Nat} {bx : Bool} {β ms g S} {σ : L2.St} {H : Hp} {Q : VK}
    (hs : RepS T.fa K β H S) (hl : LowS ms S) (he : RepE T.fa K β H g σ) (hp : patIn own tg = true) (hn : ∀ p S', Fit ms g S = .ok p S' → p.2 = none)
    (h : GoodE ((Fit ms g S).bind fun p S1 => compD bx p.2 (lockAt true p.2 S1) fun n0 S2 => compL (E (n0 :: ms)) (TT' (n0 :: ms)) elt tg ifs (wipeE g own) n0 p.1 S2) (PV T K ms β H Q) (PX T K ms β H fun c d H' => W c d σ H')) :
    tLc (rdI T K W Fit) (gPat K tg) (rdT T K W0 fun ms g S => ttAnd (TT' ms) ifs g S) (rdE T K W0 fun ms g S => E ms elt g S) own σ H Q := by
  refine ⟨β, ms, g, S, hs, hl, he, ?_⟩
  have n0 : Now T K ms β H g σ β H S := .start hs hl he
  revert h hn
  cases Fit ms g S with
  | bad => intro _ h; exact h
  | exc c p s => intro _ h; exact h
  | ok p S1 =>
    intro hn h
    have e := hn p S1 rfl
    obtain ⟨l, o⟩ := p
    cases e
    refine ⟨rfl, fun β1 H1 J f1 wd => ?_⟩
    exact comp_core (n0.next f1) wd hp h fun d S' β' H' x q f r => q β' H' x (f1.trans f) r
theorem fit_none {E : EvF} {it : Ex} {g : GE} {S : Sto} {p : List D × Option Nat} {S' : Sto} (h : itE E it g S = .ok p S') (hv : ∀ i, it ≠ .var i) : p.2 = none := by
  have fl : ∀ {d : D} {S : Sto}, flatD d S = .ok p S' → p.2 = none := fun {d S} h => by
    unfold flatD at h
    split at h
    · cases h; rfl
    · cases h; rfl
    · cases h; rfl
    · split at h
      · cases h; rfl
      · cases h; rfl
      · cases h
    · cases h
  have bind_ok : ∀ {α β : Type} {r : R α} {k : α → Sto → R β} {b : β} {s : Sto}, r.bind k = .ok b s → ∃ a s1, r = .ok a s1 ∧ k a s1 = .ok b s := fun {α β r k b s} h => by
    cases r with
    | ok a s1 => exact ⟨a, s1, rfl, h⟩
    | exc c p s => cases h
    | bad => cases h
  cases it with
  | var i => exact absurd rfl (hv i)
  | rng es =>
    simp only [itE] at h
    split at h
    · obtain ⟨a, s1, _, h2⟩ := bind_ok h
      unfold rng1D at h2
      split at h2
      · split at h2 <;> cases h2; rfl
      · cases h2
    · obtain ⟨a, s1, _, h2⟩ := bind_ok h
      obtain ⟨b, s2, _, h3⟩ := bind_ok h2
      unfold rng2D at h3
      split at h3
      · split at h3
        · split at h3 <;> cases h3; rfl
        · cases h3
      · cases h3
    · cases h
  | enum e =>
    simp only [itE] at h
    obtain ⟨a, s1, _, h2⟩ := bind_ok h
    unfold enmD at h2
    split at h2 <;> cases h2 <;> rfl
  | zip a b =>
    simp only [itE] at h
    obtain ⟨a, s1, _, h2⟩ := bind_ok h
    obtain ⟨b, s2, _, h3⟩ := bind_ok h2
    split at h3 <;> cases h3; rfl
  | _ =>
    simp only [itE] at h
    obtain ⟨a, s1, _, h2⟩ := bind_ok h
    exact fl h2
/-- an iterator over the value x -/
def GoIt (K : PySem.W.Frag) (H : Hp) (x : V) (J : It) : Prop := ∃ a, x = .ref a ∧ ((∃ xs, SqL K H a xs ∧ J = Itl K a) ∨ (∃ xs, SqT K H a xs ∧ J = Itt K a) ∨ (∃ o kvs, H a = some (.frz o (.dK kvs)) ∧ J = Itk a o kvs) ∨ ∃ o kvs, H a = some (.frz o (.dT kvs)) ∧ J = Itkt a o kvs)
theorem go_flat {K : PySem.W.Frag} {H : Hp} {x : V} {J : It} (h : GoIt K H x J) {R : It → Hp → Prop} (q : R J H) :
    ∃ a, x = .ref a ∧ ((∃ xs, SqL K H a xs ∧ R (Itl K a) H) ∨ (∃ xs, SqT K H a xs ∧ R (Itt K a) H) ∨ (∃ o kvs, H a = some (.frz o (.dK kvs)) ∧ R (Itk a o kvs) H) ∨ ∃ o kvs, H a = some (.frz o (.dT kvs)) ∧ R (Itkt a o kvs) H) := by
  obtain ⟨a, e, h⟩ := h
  refine ⟨a, e, ?_⟩
  rcases h with ⟨xs, h, rfl⟩ | ⟨xs, h, rfl⟩ | ⟨o, kvs, h, rfl⟩ | ⟨o, kvs, h, rfl⟩
  · exact .inl ⟨xs, h, q⟩
  · exact .inr (.inl ⟨xs, h, q⟩)
  · exact .inr (.inr (.inl ⟨o, kvs, h, q⟩))
  · exact .inr (.inr (.inr ⟨o, kvs, h, q⟩))
section
variable {fa : Nat → Addr} {K : PySem.W.Frag} {β : List Addr} {H : Hp} {S S' : Sto} {d : D} {x : V} {l : List D} {o : Option Nat}
theorem flat_go (hs : RepS fa K β H S) (r : RepD fa K β H d x) (h : flatD d S = .ok (l, o) S') : S' = S ∧ o = none ∧ ∃ J, GoIt K H x J ∧ WD fa K J l β H := by
  unfold flatD at h
  split at h
  · cases h
    obtain ⟨p, xs, rfl, h1, h2⟩ := r.tup_
    exact ⟨rfl, rfl, _, ⟨p, rfl, .inr (.inl ⟨xs, h1.sq, rfl⟩)⟩, wd_tup (.inl h1) h2⟩
  · cases h
    obtain ⟨p, xs, o, rfl, h1, _, _, h2⟩ := r.xtp_
    exact ⟨rfl, rfl, _, ⟨p, rfl, .inr (.inl ⟨xs, .inl (.inr ⟨o, h1⟩), rfl⟩)⟩, wd_tup (.inr ⟨o, h1⟩) h2⟩
  · cases h
    obtain ⟨p, xs, rfl, h1, h2⟩ := r.lst_
    exact ⟨rfl, rfl, _, ⟨p, rfl, .inl ⟨xs, h1.sq, rfl⟩⟩, wd_list (.inl h1) h2⟩
  · obtain ⟨a, ha, rfl⟩ := r.ref_
    split at h
    · rename_i e
      cases h
      obtain ⟨xs, ⟨o, h1⟩, h2⟩ := hs.at_ _ a _ ha e
      exact ⟨rfl, rfl, _, ⟨a, rfl, .inl ⟨xs, .inl (.inr ⟨o, h1⟩), rfl⟩⟩, wd_list (.inr ⟨o, h1⟩) h2⟩
    · rename_i t l e
      cases h
      obtain ⟨us, h2, h3⟩ := hs.at_ _ a _ ha e
      have hu := h2.length
      cases t
      · obtain ⟨kk, h4, ⟨o, h5⟩⟩ := h3
        have hl : kk.length = us.length := by have := congrArg List.length h4; simp at this hu; omega
        exact ⟨rfl, rfl, _, ⟨a, rfl, .inr (.inr (.inl ⟨o, _, h5, rfl⟩))⟩, wd_keys (t := ()) h5 hl h4⟩
      · obtain ⟨kk, h4, ⟨o, h5⟩⟩ := h3
        have hl : kk.length = us.length := by have := congrArg List.length h4; simp at this hu; omega
        exact ⟨rfl, rfl, _, ⟨a, rfl, .inr (.inr (.inr ⟨o, _, h5, rfl⟩))⟩, wd_keysT h5 hl h4⟩
    · cases h
  · cases h
/-- a name's value: it may be that something is locked first -/
theorem var_go (hs : RepS fa K β H S) (r : RepD fa K β H d x) (h : flatV d S = .ok (l, o) S') :
    S' = S ∧ ((o = none ∧ ∃ J, GoIt K H x J ∧ WD fa K J l β H) ∨ ∃ a u, Lockable β H S o a u ∧ (o = none → ∃ t ks vs, d = .dct t ks vs) ∧ ∀ od, ∃ J, GoIt K (upd H a (.frz od u)) x J ∧ WD fa K J l β (upd H a (.frz od u))) := by
  unfold flatV at h
  split at h
  · rename_i t ks vs
    cases h
    refine ⟨rfl, ?_⟩
    unfold RepD at r
    obtain ⟨p, us, rfl, h1, h2⟩ := r
    cases t
    · obtain ⟨kk, a1, ⟨a2, a4⟩, a3⟩ := h2
      rcases a2 with a2 | ⟨ob, a2⟩
      · right
        refine ⟨p, _, ⟨a2, .inr (.inl ⟨_, rfl⟩), a4⟩, fun _ => ⟨_, _, _, rfl⟩, fun od => ⟨_, ⟨p, rfl, .inr (.inr (.inl ⟨od, _, upd_same, rfl⟩))⟩, wd_keys (t := ()) upd_same a3 a1⟩⟩
      · exact .inl ⟨rfl, _, ⟨p, rfl, .inr (.inr (.inl ⟨ob, _, a2, rfl⟩))⟩, wd_keys (t := ()) a2 a3 a1⟩
    · obtain ⟨kk, a1, ⟨a2, a4⟩, a3⟩ := h2
      rcases a2 with a2 | ⟨ob, a2⟩
      · right
        refine ⟨p, _, ⟨a2, .inr (.inr ⟨_, rfl⟩), a4⟩, fun _ => ⟨_, _, _, rfl⟩, fun od => ⟨_, ⟨p, rfl, .inr (.inr (.inr ⟨od, _, upd_same, rfl⟩))⟩, wd_keysT upd_same a3 a1⟩⟩
      · exact .inl ⟨rfl, _, ⟨p, rfl, .inr (.inr (.inr ⟨ob, _, a2, rfl⟩))⟩, wd_keysT a2 a3 a1⟩
  · rename_i n
    obtain ⟨a, ha, rfl⟩ := r.ref_
    split at h
    · rename_i e
      cases h
      refine ⟨rfl, .inr ?_⟩
      obtain ⟨xs, h1, h2⟩ := hs.at_ _ a _ ha e
      have h1' : H a = some (.lst xs) := h1
      have hu : LkU (.lst xs) := .inl ⟨_, rfl⟩
      exact ⟨a, _, ⟨h1', hu, ha, _, e⟩, nofun, fun od => ⟨_, ⟨a, rfl, .inl ⟨xs, .inl (.inr ⟨od, upd_same⟩), rfl⟩⟩, wd_list (.inr ⟨od, upd_same⟩) (h2.sim (sim_lock h1' hu))⟩⟩
    · rename_i t l e
      cases h
      refine ⟨rfl, .inr ?_⟩
      obtain ⟨us, h2, h3⟩ := hs.at_ _ a _ ha e
      have hu := h2.length
      cases t
      · obtain ⟨kk, h4, h5⟩ := h3
        have h5' : H a = some (.dK (kk.zip us)) := h5
        have hl : kk.length = us.length := by have := congrArg List.length h4; simp at this hu; omega
        exact ⟨a, _, ⟨h5', .inr (.inl ⟨_, rfl⟩), ha, _, e⟩, nofun, fun od => ⟨_, ⟨a, rfl, .inr (.inr (.inl ⟨od, _, upd_same, rfl⟩))⟩, wd_keys (t := ()) upd_same hl h4⟩⟩
      · obtain ⟨kk, h4, h5⟩ := h3
        have h5' : H a = some (.dT (kk.zip us)) := h5
        have hl : kk.length = us.length := by have := congrArg List.length h4; simp at this hu; omega
        exact ⟨a, _, ⟨h5', .inr (.inr ⟨_, rfl⟩), ha, _, e⟩, nofun, fun od => ⟨_, ⟨a, rfl, .inr (.inr (.inr ⟨od, _, upd_same, rfl⟩))⟩, wd_keysT upd_same hl h4⟩⟩
    · obtain ⟨e1, e2, e3⟩ := flat_go hs r h
      exact ⟨e1, .inl ⟨e2, e3⟩⟩
  · obtain ⟨e1, e2, e3⟩ := flat_go hs r h
    exact ⟨e1, .inl ⟨e2, e3⟩⟩
end
/-- behind the lock: back -/
theorem lock_back {K : PySem.W.Frag} {β β' : List Addr} {H H' : Hp} {S S' : Sto} {ms : List Nat} {o : Option Nat} {a : Addr} {u : HO} {od : Obj} (hL : Lockable β H S o a u) (f : Fin T K ms β (upd H a (.frz od u)) β' H' S') :
    H' a = some (.frz od u) ∧ Fin T K ms β H β' (upd H' a u) (lockAt false o S') := by
  obtain ⟨h1, h2, h3⟩ := hL
  have e : H' a = some (.frz od u) := f.ext.frz _ _ _ upd_same
  refine ⟨e, f.ext.locked h1 h2, f.st.unlock e h2 ?_, f.low.lockAt _ _⟩
  cases o with
  | none =>
    exact f.ext.nmem (o := .frz od u) upd_same h3
  | some n =>
    obtain ⟨t, e1, _⟩ := f.ext.pre
    show β'[n]? = some a
    rw [e1, List.getElem?_append_left (List.getElem?_eq_some_iff.mp h3.1).1]
    exact h3.1
end MP

set_option linter.all false
set_option Elab.async false
set_option maxRecDepth 100000
namespace MP
open PySem PySem.Spec PyProof.Rows L2
variable {T : Tab} {X : Cx} {c : Sc} {k : Nat} {W : WX}

def isSetE (e : Expr) : Bool := match e with | .Set _ _ _ => true | _ => false
abbrev NoSet (M : MtF) : Prop := ∀ sc x e, M sc x e = true → isSetE e = false
set_option maxHeartbeats 4000000 in
theorem noset (c : Sc) : ∀ n, NoSet (mtE c n)
  | 0 => fun _ _ _ h => by simp [mtE] at h
  | n + 1 => fun sc x e h => by
    cases e with
    | Set v kz p => cases x <;> first | exact Bool.noConfusion h | (simp [mtE, mtStep] at h; done)
    | _ => rfl
theorem folded_of {e : Expr} {env : PySem.Env} (h : isSetE e = false) (x : Value) : foldedSetIterable e env x = pure x := by
  cases e <;> first | rfl | (simp [isSetE] at h)
theorem mtIt_set {M : MtF} (hM : NoSet M) {sc : Scope} {it : Ex} {tg e : Expr} (h : mtIt M sc it tg e = true) : isSetE e = false := by
  unfold mtIt at h
  split at h
  · cases e <;> first | rfl | simp at h
  · cases e <;> first | rfl | simp at h
  · cases e <;> first | rfl | simp at h
  · exact hM _ _ _ h
theorem Ctx.scopeB {s : Shared} {H : Hp} {scope : Scope} {cl : List (Str × Addr)} {C0 : Addr} {fp : List Addr} : (X.blk s H scope (compEnvC scope cl C0 X.env) fp).env.scope = relS scope X.env.scope := rfl
theorem patOk_blk {s : Shared} {H : Hp} {scope : Scope} {cl : List (Str × Addr)} {C0 : Addr} {fp : List Addr} : PatOk (X.blk s H scope (compEnvC scope cl C0 X.env) fp) scope := by
  intro x hx
  unfold isLoc at hx
  have key : ∀ k, k ≠ NameKind.free → scope.names.lookup x = some k → (X.blk s H scope (compEnvC scope cl C0 X.env) fp).env.scope.names.lookup x = some k := fun k hk h => lookup_relS_keep hk h
  split at hx
  · rename_i e
    have := key _ (by simp) e
    exact ⟨.inl this, .inr this⟩
  · rename_i e
    have := key _ (by simp) e
    refine ⟨.inr this, .inl ?_⟩
    show (scope.names.lookup x == some NameKind.cell) = true
    rw [e]; rfl
  · cases hx
theorem isGlE {sc : Scope} {y : Str} {e : Expr} (h : gname sc y e = true) : ∃ p, e = .Name y p ∧ isGl sc y = true := by
  unfold gname at h
  split at h
  · rename_i z p
    simp at h
    exact ⟨p, by rw [h.1], by first | exact h.2 | (rw [← h.1]; exact h.2) | (rw [h.1]; exact h.2)⟩
  · cases h
theorem one_list {α : Type} {l : List α} (h : l.length = 1) : ∃ a, l = [a] := by
  match l, h with | [a], _ => exact ⟨a, rfl⟩
/-- what is walked: any text but a name -/
theorem pi_of {M : MtF} {E : List Nat → EvF} (hE : SE T c k M E) (hM : NoStar M) {sc : Scope} {it : Ex} {tg e : Expr} (h : mtIt M sc it tg e = true) (hv : ∀ i, it ≠ .var i) (C : Ctx T c k W X) (hsc : X.env.scope = sc) :
    PI X tg e (rdI T X.K W fun ms g S => itE (E ms) it g S) := by
  unfold mtIt at h
  split at h
  · rename_i es
    split at h
    · rename_i f as q
      simp only [Bool.and_eq_true] at h
      obtain ⟨⟨h1, h2⟩, h3⟩ := h
      obtain ⟨p, rfl, hg⟩ := isGlE h1
      have hl := mtL_len h2
      have hG : Gl X "range" := isGl_gl hsc hg
      match es, as, h2, hl, h3 with
      | [x], [a], h2, _, _ =>
        simp [mtL] at h2
        exact pi_rng1C C hG (hE sc x a W X h2 C hsc) (hM _ _ _ h2)
      | [x, y], [a, b], h2, _, _ =>
        have h2' : M sc x a = true ∧ M sc y b = true := by simpa [mtL] using h2
        exact pi_rng2C C hG (hE sc x a W X h2'.1 C hsc) (hE sc y b W X h2'.2 C hsc) (hM _ _ _ h2'.1) (hM _ _ _ h2'.2)
      | [], [], _, _, h3 => simp at h3
      | _ :: _ :: _ :: _, [], _, hl, _ => simp at hl
      | _ :: _ :: _ :: _, [_], _, hl, _ => simp at hl
      | _ :: _ :: _ :: _, [_, _], _, hl, _ => simp at hl
      | _, _ :: _ :: _ :: _, _, _, h3 => simp at h3
    · cases h
  · rename_i a
    split at h
    · rename_i f b q
      simp only [Bool.and_eq_true] at h
      obtain ⟨⟨h1, h2⟩, h3⟩ := h
      obtain ⟨p, rfl, hg⟩ := isGlE h1
      cases tg <;> simp [isTup] at h3
      exact pi_enmC C (isGl_gl hsc hg) (hE sc a b W X h2 C hsc) (hM _ _ _ h2)
    · cases h
  · cases h
  · rename_i h0 h1 h2
    have he := hE sc it e W X h C hsc
    have := pi_flatC (tg := tg) he
    refine pit_imp this fun σ H R q => ?_
    obtain ⟨β, ms, g, S, a, b, d, q⟩ := q
    refine ⟨β, ms, g, S, a, b, d, ?_⟩
    cases it <;> first | exact q | exact absurd rfl (hv _) | exact absurd rfl (h0 _) | exact absurd rfl (h1 _) | exact absurd rfl (h2 _ _)

/-- a name is told by its slot -/
abbrev VarOk (c : Sc) (M : MtF) : Prop := ∀ sc i e, M sc (.var i) e = true → ∃ y p, e = .Name y p ∧ nm c i y = true ∧ isVis sc y = true ∧ okN y = true
set_option maxHeartbeats 4000000 in
theorem varok (c : Sc) : ∀ n, VarOk c (mtE c n)
  | 0 => fun _ _ _ h => by simp [mtE] at h
  | n + 1 => fun sc i e h => by
    cases e <;> simp [mtE, mtStep] at h
    exact ⟨_, _, rfl, h.1.1, h.1.2, h.2⟩
theorem pe_nameR {i : Nat} {y : Str} {p : Pos} {sc : Scope} (C : Ctx T c k W X) (hsc : X.env.scope = sc) (h1 : nm c i y = true) (h2 : isVis sc y = true) (h3 : okN y = true) : PE X (.Name y p) (fun σ H Q => ∃ v, σ[i]? = some (some v) ∧ Q v H) := by
  have hv : Vis X.env.scope y := by
    rw [hsc]
    unfold isVis at h2
    unfold Vis
    split at h2 <;> simp_all
  simp [okN] at h3
  exact pe_var (i := i) (by rw [C.names]; simpa [nm] using h1) hv (by simpa using h3.1) (by simpa using h3.2)
/-- the block's parts -/
theorem blk_ctx (C : Ctx T c k W X) {s : Shared} {H : Hp} {scope : Scope} {cl : List (Str × Addr)} {C0 : Addr} {fp : List Addr} : Ctx T c k W0 (X.blk s H scope (compEnvC scope cl C0 X.env) fp) := C.blk s H scope _ fp
/-- a comprehension's loop, wanted of an iterator -/
def LcB (g : TG) (tt : TT) (te : TE) (vs : List Nat) (σ : L2.St) (Q : VK) (J : It) (H1 : Hp) : Prop := ∀ D, H1 D = none → ∃ W : Nat → Nat → Hp → Prop, (∃ m, W 0 m (upd H1 D (.lst []))) ∧ ∀ i m H, W i m H →
  (J.stop i H ∧ Q (.ref D) H) ∨ (J.go i H ∧ ∃ Nx : Hp → Prop, (∀ H', Nx H' → ∃ m', m' < m ∧ W (i + 1) m' H') ∧ ∀ x H', J.yld i H x H' → g x (L2.wipe σ vs) H' fun σ2 H2 => L2.wipe σ2 vs = L2.wipe σ vs ∧ tt σ2 H2 fun b H3 =>
    if b = true then te σ2 H3 fun y H4 => ∃ acc, H4 D = some (.lst acc) ∧ acc.length < sizeLine ∧ Nx (upd H4 D (.lst (acc ++ [y]))) else Nx H3)
theorem tLc_flat {K : PySem.W.Frag} {i : Nat} {g : TG} {tt : TT} {te : TE} {vs : List Nat} {σ : L2.St} {H : Hp} {Q : VK} {v : V} {J : It} (e : σ[i]? = some (some v)) (hgo : GoIt K H v J) (h : LcB g tt te vs σ Q J H) :
    tLc (iFlat K fun σ H Q => ∃ v, σ[i]? = some (some v) ∧ Q v H) g tt te vs σ H Q :=
  ⟨v, e, go_flat (R := LcB g tt te vs σ Q) hgo h⟩
theorem comp_red {M : MtF} {E : List Nat → EvF} {TT' : List Nat → TtF} (hE : SE T c k M E) (hT : ST T c k M TT') (hM : NoStar M) (hS : NoSet M) (hV : VarOk c M) {sc : Scope} {elt it : Ex} {tg : Pat} {ifs : List Ex} {own : List Nat} {bx : Bool} {fp : Nat} {elt' tg' it' : Expr} {ifs' : List Expr} {scope : Scope} {pos : Pos}
    (C : Ctx T c k W X) (hsc : X.env.scope = sc) (h1 : blkC c.N sc scope (ownOf c own) = true) (h2 : (ownOf c own).map (·.2) = own) (h3 : mtIt M sc it tg' it' = true) (h4 : mtPat c scope fp tg tg' = true) (h5 : patIn own tg = true)
    (h6 : mtL M (relS scope sc) ifs ifs' = true) (h7 : ifs.length ≤ 1) (h8 : M (relS scope sc) elt elt' = true) :
    ∃ wi : TI, PI X tg' it' wi ∧ ∀ σ H Q, (rdE T X.K W fun ms g S => (itE (E ms) it g S).bind fun p S1 => compD bx p.2 (lockAt true p.2 S1) fun n0 S2 => compL (E (n0 :: ms)) (TT' (n0 :: ms)) elt tg ifs (wipeE g own) n0 p.1 S2) σ H Q → (tLc wi (gPat X.K tg) (rdT T X.K W0 fun ms g S => ttAnd (TT' ms) ifs g S) (rdE T X.K W0 fun ms g S => E ms elt g S) own) σ H Q ∨ tLockE (tLc wi (gPat X.K tg) (rdT T X.K W0 fun ms g S => ttAnd (TT' ms) ifs g S) (rdE T X.K W0 fun ms g S => E ms elt g S) own) σ H Q := by
  by_cases hv : ∃ i, it = .var i
  · obtain ⟨i, rfl⟩ := hv
    have h3' : M sc (.var i) it' = true := h3
    obtain ⟨y, p, rfl, v1, v2, v3⟩ := hV _ _ _ h3'
    have hpe := pe_nameR (p := p) C hsc v1 v2 v3
    refine ⟨_, pi_flat hpe, fun σ H Q h => ?_⟩
    obtain ⟨β, ms, g, S, hs, hl, he, h⟩ := h
    simp only [itE] at h
    split at h
    · rename_i d eg
      obtain ⟨v, e1, r⟩ := he.2 i d eg
      cases hf : flatV d S with
      | bad => rw [hf] at h; exact False.elim h
      | exc c' p' s' =>
        exfalso
        revert hf
        unfold flatV flatD
        split
        · simp
        · split <;> (try simp) <;> split <;> simp
        · split <;> (try simp) <;> split <;> simp
      | ok lo S1 =>
        obtain ⟨l, o⟩ := lo
        rw [hf] at h
        obtain ⟨rfl, hc⟩ := var_go hs r hf
        rcases hc with ⟨rfl, J, hgo, wd⟩ | ⟨a, u, hL, _, hJ⟩
        · refine .inl (tLc_flat e1 hgo ?_)
          exact comp_core (Now.start hs hl he) wd h5 h fun d S' β' H' x q f r => q β' H' x f r
        · refine .inr ⟨a, u, hL.1, hL.2.1.mut, fun od => ?_⟩
          obtain ⟨J, hgo, wd⟩ := hJ od
          refine tLc_flat e1 hgo ?_
          have he' : RepE T.fa X.K β (upd H a (.frz od u)) g σ := he.sim (sim_lock hL.1 hL.2.1)
          refine comp_core (Q := fun v H' => H' a = some (.frz od u) ∧ Q v (upd H' a u)) (o := o) (Now.start (hs.lock hL) (hl.lockAt true o) he') wd h5 h fun d S' β' H' x q f r => ?_
          obtain ⟨b1, b2⟩ := lock_back hL f
          exact ⟨b1, q β' _ x b2 (r.sim (sim_unlock b1 hL.2.1))⟩
    · exact False.elim h
  · have hv' : ∀ i, it ≠ .var i := fun i e => hv ⟨i, e⟩
    refine ⟨_, pi_of hE hM h3 hv' C hsc, fun σ H Q h => .inl ?_⟩
    obtain ⟨β, ms, g, S, hs, hl, he, h⟩ := h
    exact comp_plain hs hl he h5 (fun p S' e => fit_none e hv') h
theorem pe_compC {M : MtF} {E : List Nat → EvF} {TT' : List Nat → TtF} (hE : SE T c k M E) (hT : ST T c k M TT') (hM : NoStar M) (hS : NoSet M) (hV : VarOk c M) {sc : Scope} {elt it : Ex} {tg : Pat} {ifs : List Ex} {own : List Nat} {bx : Bool} {fp : Nat} {elt' tg' it' : Expr} {ifs' : List Expr} {scope : Scope} {pos : Pos}
    (C : Ctx T c k W X) (hsc : X.env.scope = sc) (h1 : blkC c.N sc scope (ownOf c own) = true) (h2 : (ownOf c own).map (·.2) = own) (h3 : mtIt M sc it tg' it' = true) (h4 : mtPat c scope fp tg tg' = true) (h5 : patIn own tg = true)
    (h6 : mtL M (relS scope sc) ifs ifs' = true) (h7 : ifs.length ≤ 1) (h8 : M (relS scope sc) elt elt' = true) :
    PE X (.ListComp elt' [⟨tg', it', ifs', 0⟩] scope pos) (rdE T X.K W fun ms g S => (itE (E ms) it g S).bind fun p S1 => compD bx p.2 (lockAt true p.2 S1) fun n0 S2 => compL (E (n0 :: ms)) (TT' (n0 :: ms)) elt tg ifs (wipeE g own) n0 p.1 S2) := by
  have hblk : BlkOk X.N X.env.scope scope (ownOf c own) := by
    rw [C.names, hsc]
    exact blkOk_by h1
  obtain ⟨wi, hi, red⟩ := comp_red (pos := pos) (bx := bx) (M := M) (E := E) (TT' := TT') hE hT hM hS hV C hsc h1 h2 h3 h4 h5 h6 h7 h8
  have lc := pe_lc (pos := pos) (g := gPat X.K tg) (tt := rdT T X.K W0 fun ms g S => ttAnd (TT' ms) ifs g S) (te := rdE T X.K W0 fun ms g S => E ms elt g S) C.calm C.nd hi hblk (fun s H C0 cl fp' => pg_of (c := c) (X := X.blk s H scope (compEnvC scope cl C0 X.env) fp') C.calm C.nd C.names patOk_blk fp tg tg' h4)
      (fun s H C0 cl fp' => pts_of (X := X.blk s H scope (compEnvC scope cl C0 X.env) fp') hT h6 h7 (blk_ctx C) (by rw [Ctx.scopeB, hsc]))
      (fun s H C0 cl fp' => hE _ elt elt' W0 (X.blk s H scope (compEnvC scope cl C0 X.env) fp') h8 (blk_ctx C) (by rw [Ctx.scopeB, hsc])) (fun x => folded_of (mtIt_set hS h3) x)
  rw [h2] at lc
  refine ⟨fun pins s σ H Q I h => ?_⟩
  rcases red σ H Q h with q | q
  · exact lc.run pins s σ H Q I q
  · exact (pe_lock lc).run pins s σ H Q I q
/-- name = [..], on one line -/
theorem ps_compC {M : MtF} {E : List Nat → EvF} {TT' : List Nat → TtF} (hE : SE T c k M E) (hT : ST T c k M TT') (hM : NoStar M) (hS : NoSet M) (hV : VarOk c M) {sc : Scope} {elt it : Ex} {tg : Pat} {ifs : List Ex} {own : List Nat} {bx : Bool} {fp : Nat} {elt' tg' it' : Expr} {ifs' : List Expr} {scope : Scope} {pos py spos : Pos} {i : Nat} {y : Str}
    (C : Ctx T c k W X) (hsc : X.env.scope = sc) (h1 : blkC c.N sc scope (ownOf c own) = true) (h2 : (ownOf c own).map (·.2) = own) (h3 : mtIt M sc it tg' it' = true) (h4 : mtPat c scope fp tg tg' = true) (h5 : patIn own tg = true)
    (h6 : mtL M (relS scope sc) ifs ifs' = true) (h7 : ifs.length ≤ 1) (h8 : M (relS scope sc) elt elt' = true)  (hy : X.N[i]? = some y) (hyl : X.env.scope.names.lookup y = some .local) (hsw : swapsWith (.ListComp elt' [⟨tg', it', ifs', 0⟩] scope pos) (some (.Name y py)) spos.line X.env = pure true) :
    PS X (.Assign [.Name y py] (.ListComp elt' [⟨tg', it', ifs', 0⟩] scope pos) spos) (tAsg (rdE T X.K W fun ms g S => (itE (E ms) it g S).bind fun p S1 => compD bx p.2 (lockAt true p.2 S1) fun n0 S2 => compL (E (n0 :: ms)) (TT' (n0 :: ms)) elt tg ifs (wipeE g own) n0 p.1 S2) (gName i)) := by
  have hblk : BlkOk X.N X.env.scope scope (ownOf c own) := by
    rw [C.names, hsc]
    exact blkOk_by h1
  obtain ⟨wi, hi, red⟩ := comp_red (pos := pos) (bx := bx) (M := M) (E := E) (TT' := TT') hE hT hM hS hV C hsc h1 h2 h3 h4 h5 h6 h7 h8
  have lc := ps_setLc (pos := pos) (g := gPat X.K tg) (tt := rdT T X.K W0 fun ms g S => ttAnd (TT' ms) ifs g S) (te := rdE T X.K W0 fun ms g S => E ms elt g S) C.calm C.nd hy hyl hsw hi hblk (fun s H C0 cl fp' => pg_of (c := c) (X := X.blk s H scope (compEnvC scope cl C0 X.env) fp') C.calm C.nd C.names patOk_blk fp tg tg' h4)
      (fun s H C0 cl fp' => pts_of (X := X.blk s H scope (compEnvC scope cl C0 X.env) fp') hT h6 h7 (blk_ctx C) (by rw [Ctx.scopeB, hsc]))
      (fun s H C0 cl fp' => hE _ elt elt' W0 (X.blk s H scope (compEnvC scope cl C0 X.env) fp') h8 (blk_ctx C) (by rw [Ctx.scopeB, hsc])) (fun x => folded_of (mtIt_set hS h3) x)
  rw [h2] at lc
  refine ⟨fun pins s σ H D I h => ?_⟩
  rcases red σ H _ h with q | q
  · exact lc.run pins s σ H D I q
  · exact (ps_lock lc).run pins s σ H D I q
end MP

set_option linter.all false
set_option Elab.async false
set_option maxRecDepth 100000
namespace MP
open PySem PySem.Spec PyProof.Rows L2
variable {T : Tab} {X : Cx} {c : Sc} {k : Nat} {W : WX}
theorem walk_gen {J : It} {n : Nat} {G : Hp → Prop} {Y : Nat → Hp → V → Hp → Prop} (w : Walk J n G Y) {B : (Hp → Prop) → V → Hp → Prop} {H1 : Hp} {Qd : Hp → Prop} (Pv : Nat → Hp → Prop)
    (h0 : Pv 0 H1) (hg : ∀ i H, i ≤ n → Pv i H → G H) (hs : ∀ i x H H', i < n → Pv i H → Y i H x H' → B (Pv (i + 1)) x H') (hq : ∀ H, Pv n H → Qd H) :
    ∃ W : Nat → Nat → Hp → Prop, (∃ m, W 0 m H1) ∧ ∀ i m H, W i m H → (J.stop i H ∧ Qd H) ∨ (J.go i H ∧ ∃ Nx : Hp → Prop, (∀ H', Nx H' → ∃ m', m' < m ∧ W (i + 1) m' H') ∧ ∀ x H', J.yld i H x H' → B Nx x H') := by
  refine ⟨fun i m H => i ≤ n ∧ m = n - i ∧ Pv i H, ⟨n, Nat.zero_le _, rfl, h0⟩, ?_⟩
  rintro i m H ⟨hi, rfl, hp⟩
  by_cases e : i = n
  · subst e
    exact .inl ⟨w.stops _ (hg _ _ (Nat.le_refl _) hp), hq _ hp⟩
  · have hlt : i < n := by omega
    exact .inr ⟨w.goes _ _ hlt (hg _ _ hi hp), Pv (i + 1), fun H' q => ⟨n - (i + 1), by omega, by omega, rfl, q⟩, fun x H' y => hs i x H H' hlt hp (w.yields _ _ _ _ hlt (hg _ _ hi hp) y)⟩
/-- the two loops of a comprehension, and their end -/
theorem comp_core2 {K : PySem.W.Frag} {E : List Nat → EvF} {TT' : List Nat → TtF} {elt it1 : Ex} {tg tg1 : Pat} {ifs ifs1 : List Ex} {own own1 : List Nat} {bx : Bool} {J : It} {l : List D} {ms β0 H0 g σ β1 H1 S1} {P : D → Sto → Prop} {Ex' : Nat → D → Sto → Prop} {Q : VK}
    (n1 : Now T K ms β0 H0 g σ β1 H1 S1) (wd : WD T.fa K J l β1 H1) (hp : patIn own tg = true) (hp1 : patIn own1 tg1 = true)
    (h : GoodE (compD bx none S1 fun n0 S2 => compL2 (E (n0 :: ms)) (TT' (n0 :: ms)) elt tg ifs tg1 it1 ifs1 own1 (wipeE g own) n0 l S2) P Ex')
    (hq : ∀ d S' β' H' x, P d S' → Fin T K ms β1 H1 β' H' S' → RepD T.fa K β' H' d x → Q x H') :
    ∀ D, H1 D = none → ∃ W : Nat → Nat → Hp → Prop, (∃ m, W 0 m (upd H1 D (.lst []))) ∧ ∀ i m H, W i m H →
      (J.stop i H ∧ Q (.ref D) H) ∨ (J.go i H ∧ ∃ Nx : Hp → Prop, (∀ H', Nx H' → ∃ m', m' < m ∧ W (i + 1) m' H') ∧ ∀ x H', J.yld i H x H' → gPat K tg x (L2.wipe σ own) H' fun σ2 H2 => L2.wipe σ2 own = L2.wipe σ own ∧ rdT T K W0 (fun ms g S => ttAnd (TT' ms) ifs g S) σ2 H2 fun b H3 =>
        if b = true then rdI T K W0 (fun ms g S => itE (E ms) it1 g S) σ2 H3 fun J1 H4 => ∃ W1 : Nat → Nat → Hp → Prop, (∃ m, W1 0 m H4) ∧ ∀ j k H, W1 j k H →
          (J1.stop j H ∧ Nx H) ∨ (J1.go j H ∧ ∃ Nx1 : Hp → Prop, (∀ H', Nx1 H' → ∃ k', k' < k ∧ W1 (j + 1) k' H') ∧ ∀ x H', J1.yld j H x H' → gPat K tg1 x (L2.wipe σ2 own1) H' fun σ3 H5 => L2.wipe σ3 own1 = L2.wipe σ2 own1 ∧ rdT T K W0 (fun ms g S => ttAnd (TT' ms) ifs1 g S) σ3 H5 fun b H6 =>
            if b = true then rdE T K W0 (fun ms g S => E ms elt g S) σ3 H6 fun y H7 => ∃ acc, H7 D = some (.lst acc) ∧ acc.length < sizeLine ∧ Nx1 (upd H7 D (.lst (acc ++ [y]))) else Nx1 H6)
        else Nx H3) := by
  intro D hD
  have h := h.bind
  have ex2 : Ext β1 H1 (β1 ++ [D]) (upd H1 D (.lst [])) := Ext.push hD
  have st2 : RepS T.fa K (β1 ++ [D]) (upd H1 D (.lst [])) (S1 ++ [⟨false, .lst []⟩]) := n1.st.push hD ⟨[], upd_same, .nil⟩
  have wd2 := wd.mono ex2 st2
  have hlen : β1.length = S1.length := n1.st.len
  have hms : ∀ m ∈ ms, m ≤ S1.length := fun m hm => (n1.low m hm).1
  have low2 : LowS (S1.length :: ms) (S1 ++ [⟨false, .lst []⟩]) := (n1.st.low n1.low).push _
  have atD : ∀ {β H}, Ext (β1 ++ [D]) (upd H1 D (.lst [])) β H → β[S1.length]? = some D := fun {β H} e => by
    obtain ⟨t, e1, _⟩ := e.pre
    rw [e1, List.getElem?_append_left (by simp [hlen]), List.getElem?_append_right (by omega)]
    simp [hlen]
  refine walk_gen wd2.walk (fun i H => ∃ β S, RepS T.fa K β H S ∧ LowS (S1.length :: ms) S ∧ Ext (β1 ++ [D]) (upd H1 D (.lst [])) β H ∧
    GoodE (compL2 (E (S1.length :: ms)) (TT' (S1.length :: ms)) elt tg ifs tg1 it1 ifs1 own1 (wipeE g own) S1.length (l.drop i) S) (fun _ S' => GoodE (compEnd bx S1.length none S') P Ex') Ex') ?_ ?_ ?_ ?_
  · exact ⟨_, _, st2, low2, .refl _ _, by rw [List.drop_zero]; exact h⟩
  · rintro i H hi ⟨β, S, a, b, e, _⟩
    exact ⟨β, S, a, e⟩
  · rintro i x H H' hi ⟨β, S, hs, hl, e, hg⟩ y
    obtain ⟨hs', e', hr⟩ := y β S hs e
    have hd : l[i]? = some l[i] := List.getElem?_eq_getElem hi
    rw [List.drop_eq_getElem_cons hi] at hg
    simp only [compL2] at hg
    split at hg
    · exact False.elim hg
    · rename_i g1 hgs
      have env' : RepE T.fa K β H' (wipeE g own) (L2.wipe σ own) := (((n1.env.ext ex2).ext e).ext e').wipe own
      refine gPat_run own tg _ x _ g1 _ _ env' (hr _ hd) hgs fun σ1 env1 hw => ⟨by rw [hw hp, wipe_twice], ?_⟩
      have hT := noX_good hg
      refine ⟨β, S1.length :: ms, g1, S, hs', hl, env1, hT.mono (fun b S2 hb β3 H3 f3 => ?_) px_false⟩
      have e3 : Ext (β1 ++ [D]) (upd H1 D (.lst [])) β3 H3 := (e.trans hs e').trans hs' f3.ext
      cases b with
      | false =>
        simp only [Bool.false_eq_true, if_false] at hb ⊢
        exact ⟨β3, S2, f3.st, f3.low, e3, hb⟩
      | true =>
        simp only [if_true] at hb ⊢
        have hE := noX_good hb
        refine ⟨β3, S1.length :: ms, g1, S2, f3.st, f3.low, env1.ext f3.ext, hE.mono (fun p S3 hd3 => ?_) px_false⟩
        split at hd3
        · exact False.elim hd3
        · rename_i hp2
          refine ⟨hp2, fun β4 H4 J1 f4 wd4 => ?_⟩
          have hin := hd3.bind
          have e4 := e3.trans f3.st f4.ext
          refine walk_gen wd4.walk (fun j H => ∃ β S, RepS T.fa K β H S ∧ LowS (S1.length :: ms) S ∧ Ext β4 H4 β H ∧
            GoodE (compL (E (S1.length :: ms)) (TT' (S1.length :: ms)) elt tg1 ifs1 (wipeE g1 own1) S1.length (p.1.drop j) S) (fun _ S' => GoodE (compL2 (E (S1.length :: ms)) (TT' (S1.length :: ms)) elt tg ifs tg1 it1 ifs1 own1 (wipeE g own) S1.length (l.drop (i + 1)) S') (fun _ S' => GoodE (compEnd bx S1.length none S') P Ex') Ex') Ex') ?_ ?_ ?_ ?_
          · exact ⟨_, _, f4.st, f4.low, .refl _ _, by rw [List.drop_zero]; exact hin⟩
          · rintro j Hj hj ⟨βj, Sj, a, b, ej, _⟩
            exact ⟨βj, Sj, a, ej⟩
          · rintro j xj Hj Hj' hj ⟨βj, Sj, hsj, hlj, ej, hgj⟩ yj
            obtain ⟨hsj', ej', hrj⟩ := yj βj Sj hsj ej
            have hdj : p.1[j]? = some p.1[j] := List.getElem?_eq_getElem hj
            rw [List.drop_eq_getElem_cons hj] at hgj
            simp only [compL] at hgj
            split at hgj
            · exact False.elim hgj
            · rename_i g5 hgs5
              have envj : RepE T.fa K βj Hj' (wipeE g1 own1) (L2.wipe σ1 own1) := ((((env1.ext f3.ext).ext f4.ext).ext ej).ext ej').wipe own1
              refine gPat_run own1 tg1 _ xj _ g5 _ _ envj (hrj _ hdj) hgs5 fun σ5 env5 hw5 => ⟨by rw [hw5 hp1, wipe_twice], ?_⟩
              have hTj := noX_good hgj
              refine ⟨βj, S1.length :: ms, g5, Sj, hsj', hlj, env5, hTj.mono (fun b S6 hb6 β6 H6 f6 => ?_) px_false⟩
              have e6 : Ext β4 H4 β6 H6 := (ej.trans hsj ej').trans hsj' f6.ext
              cases b with
              | false =>
                simp only [Bool.false_eq_true, if_false] at hb6 ⊢
                exact ⟨β6, S6, f6.st, f6.low, e6, hb6⟩
              | true =>
                simp only [if_true] at hb6 ⊢
                have hE6 := noX_good hb6
                refine ⟨β6, S1.length :: ms, g5, S6, f6.st, f6.low, env5.ext f6.ext, hE6.mono (fun d S7 hd7 β7 H7 y7 f7 r7 => ?_) px_false⟩
                have e7 := e6.trans f6.st f7.ext
                have eD := atD (e4.trans f4.st e7)
                split at hd7
                · rename_i lD hS
                  split at hd7
                  · rename_i hz
                    obtain ⟨acc, h1, h2⟩ := f7.st.at_ _ D _ eD hS
                    have h1' : H7 D = some (.lst acc) := h1
                    have nf : NoFrz H7 D := nofrz_of h1' (by simp)
                    have hz' := lineOk_le hz
                    refine ⟨acc, h1', by rw [← h2.length]; omega, ?_⟩
                    have e8 : Ext β7 H7 β7 (upd H7 D (.lst (acc ++ [y7]))) := Ext.upd eD nf
                    refine ⟨β7, _, f7.st.upd (ob := ⟨false, .lst (lD ++ [d])⟩) eD nf ⟨_, upd_same, (h2.append (.cons r7 .nil)).ext e8⟩, f7.low.set fun m hm hn => ?_, e7.trans f7.st e8, hd7⟩
                    rcases List.mem_cons.mp hm with q | q
                    · rw [q] at hn; exact absurd hn (Nat.lt_irrefl _)
                    · exact absurd (hms m q) (by omega)
                  · exact False.elim hd7
                · exact False.elim hd7
          · rintro Hj ⟨βj, Sj, hsj, hlj, ej, hgj⟩
            rw [List.drop_eq_nil_of_le (Nat.le_refl _)] at hgj
            simp only [compL] at hgj
            exact ⟨βj, Sj, hsj, hlj, e4.trans f4.st ej, hgj⟩
  · rintro H ⟨β, S, hs, hl, e, hg⟩
    rw [List.drop_eq_nil_of_le (Nat.le_refl _)] at hg
    simp only [compL2] at hg
    have hg' : GoodE (compEnd bx S1.length none S) P Ex' := hg
    unfold compEnd at hg'
    split at hg'
    · rename_i lD hS
      obtain ⟨acc, h1, h2⟩ := hs.at_ _ D _ (atD e) hS
      have h1' : H D = some (.lst acc) := h1
      have e1 : Ext β1 H1 β H := ex2.trans st2 e
      split at hg'
      · refine hq _ S β H _ hg' ⟨e1, hs, fun m hm => hl m (by simp [hm])⟩ ?_
        unfold RepD
        exact ⟨D, atD e, rfl⟩
      · split at hg'
        · rename_i hc
          rw [Bool.and_eq_true] at hc
          have hlenS : S.length = S1.length + 1 := of_decide_eq_true hc.1
          have hb : BlL S1.length lD := .all fun d hd => below_bl (List.all_eq_true.mp hc.2 d hd)
          have hβ : β.take S1.length = β1 := by
            obtain ⟨t, e2, _⟩ := e.pre
            rw [e2, List.append_assoc, ← hlen, List.take_left']
            rfl
          have tk := hs.take hl (m := S1.length) (by simp)
          have h2' := h2.shrink _ _ hb
          rw [hβ] at tk h2'
          have nD : D ∉ β1 := n1.st.fresh hD
          refine hq _ (S.take S1.length) β1 H _ hg' ⟨⟨⟨[], by simp, by simp⟩, fun a w ha hn => e1.keep a w ha hn, e1.frz⟩, tk, fun m hm => (hl.take (ms := S1.length :: ms) (m := S1.length) (fun x hx => ?_) (by omega)) m (by simp [hm])⟩ ?_
          · rcases List.mem_cons.mp hx with q | q
            · omega
            · exact hms x q
          · unfold RepD
            exact ⟨D, acc, rfl, .inl ⟨.inl h1', nD⟩, h2'⟩
        · exact False.elim hg'
    · exact False.elim hg'

def LcB2 (K : PySem.W.Frag) (tg tg1 : Pat) (tt : TT) (wi1 : TI) (tt1 : TT) (te : TE) (own own1 : List Nat) (σ : L2.St) (Q : VK) (J : It) (H1 : Hp) : Prop :=
    ∀ D, H1 D = none → ∃ W : Nat → Nat → Hp → Prop, (∃ m, W 0 m (upd H1 D (.lst []))) ∧ ∀ i m H, W i m H →
      (J.stop i H ∧ Q (.ref D) H) ∨ (J.go i H ∧ ∃ Nx : Hp → Prop, (∀ H', Nx H' → ∃ m', m' < m ∧ W (i + 1) m' H') ∧ ∀ x H', J.yld i H x H' → gPat K tg x (L2.wipe σ own) H' fun σ2 H2 => L2.wipe σ2 own = L2.wipe σ own ∧ tt σ2 H2 fun b H3 =>
        if b = true then wi1 σ2 H3 fun J1 H4 => ∃ W1 : Nat → Nat → Hp → Prop, (∃ m, W1 0 m H4) ∧ ∀ j k H, W1 j k H →
          (J1.stop j H ∧ Nx H) ∨ (J1.go j H ∧ ∃ Nx1 : Hp → Prop, (∀ H', Nx1 H' → ∃ k', k' < k ∧ W1 (j + 1) k' H') ∧ ∀ x H', J1.yld j H x H' → gPat K tg1 x (L2.wipe σ2 own1) H' fun σ3 H5 => L2.wipe σ3 own1 = L2.wipe σ2 own1 ∧ tt1 σ3 H5 fun b H6 =>
            if b = true then te σ3 H6 fun y H7 => ∃ acc, H7 D = some (.lst acc) ∧ acc.length < sizeLine ∧ Nx1 (upd H7 D (.lst (acc ++ [y]))) else Nx1 H6)
        else Nx H3)
theorem pe_comp2C {M : MtF} {E : List Nat → EvF} {TT' : List Nat → TtF} (hE : SE T c k M E) (hT : ST T c k M TT') (hM : NoStar M) (hS : NoSet M) (hV : VarOk c M) {sc : Scope} {elt it1 : Ex} {i : Nat} {tg tg1 : Pat} {ifs ifs1 : List Ex} {own own1 : List Nat} {bx : Bool} {fp : Nat} {elt' tg' it' tg1' it1' : Expr} {ifs' ifs1' : List Expr} {scope : Scope} {pos : Pos}
    (C : Ctx T c k W X) (hsc : X.env.scope = sc) (h1 : blkC c.N sc scope (ownOf c own) = true) (h2 : (ownOf c own).map (·.2) = own) (h3 : mtIt M sc (.var i) tg' it' = true) (h4 : mtPat c scope fp tg tg' = true) (h5 : patIn own tg = true)
    (h6 : mtL M (relS scope sc) ifs ifs' = true) (h7 : ifs.length ≤ 1) (h8 : M (relS scope sc) elt elt' = true)
    (g0 : own1.all own.contains = true) (g3 : mtIt M (relS scope sc) it1 tg1' it1' = true) (gv : ∀ j, it1 ≠ .var j) (g4 : mtPat c scope fp tg1 tg1' = true) (g5 : patIn own1 tg1 = true) (g6 : mtL M (relS scope sc) ifs1 ifs1' = true) (g7 : ifs1.length ≤ 1) :
    PE X (.ListComp elt' [⟨tg', it', ifs', 0⟩, ⟨tg1', it1', ifs1', 0⟩] scope pos) (rdE T X.K W fun ms g S => (itE (E ms) (.var i) g S).bind fun p S1 => (match p.2 with | some _ => .bad | none => compD bx none S1 fun n0 S2 => compL2 (E (n0 :: ms)) (TT' (n0 :: ms)) elt tg ifs tg1 it1 ifs1 own1 (wipeE g own) n0 p.1 S2)) := by
  have hblk : BlkOk X.N X.env.scope scope (ownOf c own) := by
    rw [C.names, hsc]
    exact blkOk_by h1
  have h3' : M sc (.var i) it' = true := h3
  obtain ⟨y, p, rfl, v1, v2, v3⟩ := hV _ _ _ h3'
  have hpe := pe_nameR (p := p) C hsc v1 v2 v3
  have lc := pe_lc2 (pos := pos) (vs1 := own1) (g := gPat X.K tg) (g1 := gPat X.K tg1) (tt := rdT T X.K W0 fun ms g S => ttAnd (TT' ms) ifs g S) (tt1 := rdT T X.K W0 fun ms g S => ttAnd (TT' ms) ifs1 g S) (te := rdE T X.K W0 fun ms g S => E ms elt g S) (wi1 := rdI T X.K W0 fun ms g S => itE (E ms) it1 g S) C.calm C.nd (pi_flat (tg := tg') hpe) hblk
      (fun j hj => by rw [h2]; simpa using List.all_eq_true.mp g0 j hj)
      (fun s H C0 cl fp' => pg_of (c := c) (X := X.blk s H scope (compEnvC scope cl C0 X.env) fp') C.calm C.nd C.names patOk_blk fp tg tg' h4)
      (fun s H C0 cl fp' => pts_of (X := X.blk s H scope (compEnvC scope cl C0 X.env) fp') hT h6 h7 (blk_ctx C) (by rw [Ctx.scopeB, hsc]))
      (fun s H C0 cl fp' => pi_of (X := X.blk s H scope (compEnvC scope cl C0 X.env) fp') hE hM g3 gv (blk_ctx C) (by rw [Ctx.scopeB, hsc]))
      (fun s H C0 cl fp' => pg_of (c := c) (X := X.blk s H scope (compEnvC scope cl C0 X.env) fp') C.calm C.nd C.names patOk_blk fp tg1 tg1' g4)
      (fun s H C0 cl fp' => pts_of (X := X.blk s H scope (compEnvC scope cl C0 X.env) fp') hT g6 g7 (blk_ctx C) (by rw [Ctx.scopeB, hsc]))
      (fun s H C0 cl fp' => hE _ elt elt' W0 (X.blk s H scope (compEnvC scope cl C0 X.env) fp') h8 (blk_ctx C) (by rw [Ctx.scopeB, hsc])) (fun x => folded_of (mtIt_set hS h3) x) (fun env x => folded_of (mtIt_set hS g3) x)
  rw [h2] at lc
  refine ⟨fun pins s σ H Q I h => ?_⟩
  obtain ⟨β, ms, g, S, hs, hl, he, h⟩ := h
  simp only [itE] at h
  split at h
  · rename_i d eg
    obtain ⟨v, e1, r⟩ := he.2 i d eg
    cases hf : flatV d S with
    | bad => rw [hf] at h; exact False.elim h
    | exc c' p' s' =>
      exfalso
      revert hf
      unfold flatV flatD
      split
      · simp
      · split <;> (try simp) <;> split <;> simp
      · split <;> (try simp) <;> split <;> simp
    | ok lo S1 =>
      obtain ⟨l, o⟩ := lo
      rw [hf] at h
      obtain ⟨rfl, hc⟩ := var_go hs r hf
      rcases hc with ⟨rfl, J, hgo, wd⟩ | ⟨a, u, hL, _, hJ⟩
      · refine lc.run pins s σ H Q I ?_
        exact ⟨v, e1, go_flat (R := LcB2 X.K tg tg1 (rdT T X.K W0 fun ms g S => ttAnd (TT' ms) ifs g S) (rdI T X.K W0 fun ms g S => itE (E ms) it1 g S) (rdT T X.K W0 fun ms g S => ttAnd (TT' ms) ifs1 g S) (rdE T X.K W0 fun ms g S => E ms elt g S) own own1 σ Q) hgo (comp_core2 (Now.start hs hl he) wd h5 g5 h fun d S' β' H' x q f r => q β' H' x f r)⟩
      · refine (pe_lock lc).run pins s σ H Q I ⟨a, u, hL.1, hL.2.1.mut, fun od => ?_⟩
        cases o with
        | some o' => exact h.elim
        | none =>
          obtain ⟨J, hgo, wd⟩ := hJ od
          have he' : RepE T.fa X.K β (upd H a (.frz od u)) g σ := he.sim (sim_lock hL.1 hL.2.1)
          refine ⟨v, e1, go_flat (R := LcB2 X.K tg tg1 (rdT T X.K W0 fun ms g S => ttAnd (TT' ms) ifs g S) (rdI T X.K W0 fun ms g S => itE (E ms) it1 g S) (rdT T X.K W0 fun ms g S => ttAnd (TT' ms) ifs1 g S) (rdE T X.K W0 fun ms g S => E ms elt g S) own own1 σ (fun v H' => H' a = some (.frz od u) ∧ Q v (upd H' a u))) hgo (comp_core2 (Q := fun v H' => H' a = some (.frz od u) ∧ Q v (upd H' a u)) (Now.start (hs.lock hL) (hl.lockAt true none) he') wd h5 g5 h fun d S' β' H' x q f r => ?_)⟩
          obtain ⟨b1, b2⟩ := lock_back hL f
          exact ⟨b1, q β' _ x b2 (r.sim (sim_unlock b1 hL.2.1))⟩
  · exact False.elim h
end MP

set_option linter.all false
set_option Elab.async false
set_option maxRecDepth 100000
namespace MP
open PySem PySem.Spec PyProof.Rows L2
variable {T : Tab} {X : Cx} {c : Sc} {k : Nat} {W : WX}

/-! ### tuple(range(n)) -/
theorem rgV_rep {fa : Nat → Addr} {K : PySem.W.Frag} {β : List Addr} {H : Hp} : ∀ (n : Nat) (lo : Int), RepL fa K β H (rangeD lo 1 n) ((List.range n).map fun i => V.int (lo + (i : Nat)))
  | 0, lo => .nil
  | n + 1, lo => by
    rw [List.range_succ_eq_map, List.map_cons, List.map_map]
    refine .cons (by rw [show lo + ((0 : Nat) : Int) = lo by omega]; exact rep_int _) ?_
    have := rgV_rep (fa := fa) (K := K) (β := β) (H := H) n (lo + 1)
    have e : ((List.range n).map ((fun i => V.int (lo + (i : Nat))) ∘ Nat.succ)) = (List.range n).map fun i => V.int (lo + 1 + (i : Nat)) := by
      apply List.map_congr_left
      intro i _
      show V.int (lo + ((i + 1 : Nat) : Int)) = V.int (lo + 1 + (i : Nat))
      congr 1
      omega
    rw [e]
    exact this
theorem pe_rngvC {a : Expr} {F : List Nat → GE → Sto → R D} {p p2 pos pos2 : Pos} (C : Ctx T c k W X) (hg : Gl X "tuple") (hg2 : Gl X "range") (ha : PE X a (rdE T X.K W F)) (hst : isStar a = false) :
    PE X (.Call (.Name "tuple" p) [.Call (.Name "range" p2) [a] [] pos2] [] pos) (rdE T X.K W fun ms g S => ((F ms g S).bind rng1D).bind fun q S1 => if lineOk q.1.length then .ok (.tup q.1) S1 else .bad) := by
  refine (pe_tupRg C.calm hg (C.link.bl "tuple" (by decide)) (prg_1 hg2 (C.link.bl "range" (by decide)) ha (star_no hst _ _)) rfl).imp fun σ H Q h => ?_
  obtain ⟨β, ms, g, S, hs, hl, he, h⟩ := h
  have as : ∀ {α β γ : Type} (r : R α) (f : α → Sto → R β) (k : β → Sto → R γ), (r.bind f).bind k = r.bind fun a s => (f a s).bind k := fun r f k => by cases r <;> rfl
  dsimp only at h
  rw [as] at h
  refine rd_into (γ := Unit) (.start hs hl he) h fun d x β1 H1 S1 n1 f1 r1 h1 => ?_
  unfold rng1D at h1
  split at h1
  · rename_i i
    split at h1
    · rename_i ho
      have h2 : GoodE (if lineOk (rangeD 0 1 i.toNat).length then R.ok (D.tup (rangeD 0 1 i.toNat)) S1 else .bad) (PV T X.K ms β H Q) (PX T X.K ms β H fun c d H' => W c d σ H') := h1
      split at h2
      · rename_i hz
        rw [rangeD_len] at hz
        have hz' : i.toNat ≤ 16777216 := by simpa [lineOk] using hz
        obtain ⟨o1, o2⟩ := ok62_of ho
        refine ⟨i, r1.int_, ⟨by omega, by omega, o1, o2, by rw [Int.sub_zero]; omega⟩, fun q hq => ?_⟩
        refine h2 β1 _ _ (n1.fin.trans (.new n1.st n1.low hq)) (rep_tup n1.st hq ?_)
        unfold rgV
        rw [Int.sub_zero]
        exact rgV_rep _ _
      · exact False.elim h2
    · exact False.elim h1
  · exact False.elim h1

/-! ### dict displays -/
theorem pe_dnewC {t : Bool} {pos : Pos} : PE X (.Dict [] [] pos) (rdE T X.K W fun _ _ S => .ok (.ref S.length) (S ++ [⟨false, .dct t []⟩])) := by
  cases t
  · refine pe_dnewK.imp fun σ H Q h => ?_
    obtain ⟨β, ms, g, S, hs, hl, he, h⟩ := h
    intro p hp
    refine h (β ++ [p]) _ _ ⟨Ext.push hp, hs.push hp ⟨[], .nil, [], rfl, upd_same⟩, hl.push _⟩ ?_
    unfold RepD
    exact ⟨p, by rw [← hs.len]; simp, rfl⟩
  · refine pe_dnewT.imp fun σ H Q h => ?_
    obtain ⟨β, ms, g, S, hs, hl, he, h⟩ := h
    intro p hp
    refine h (β ++ [p]) _ _ ⟨Ext.push hp, hs.push hp ⟨[], .nil, [], rfl, upd_same⟩, hl.push _⟩ ?_
    unfold RepD
    exact ⟨p, by rw [← hs.len]; simp, rfl⟩
theorem rep_keyS {fa : Nat → Addr} {K : PySem.W.Frag} {β β' : List Addr} {H H' : Hp} {d : D} {x : V} (h : isKey false d = true) (r : RepD fa K β H d x) : RepD fa K β' H' d x := by
  cases d <;> simp [isKey] at h <;> unfold RepD at r ⊢ <;> exact r
theorem pe_dispC {y : Str} {i : Nat} {b : Bool} {p0 pos p1 : Pos} {nn : _} {t : Bool} {sc : Scope} (C : Ctx T c k W X) (hsc : X.env.scope = sc) (h1 : nm c i y = true) (h2 : isVis sc y = true) (h3 : okN y = true) :
    PE X (.Dict [some (.Name y p0)] [.Constant (.bool b) nn p1] pos) (rdE T X.K W fun ms g S => (match g[i]? with
      | some (some a) => if isKey false a && !t then .ok (.ref S.length) (S ++ [⟨false, .dct false [(a, .bl b)]⟩]) else .bad
      | _ => .bad)) := by
  refine (pe_disp (pps_cons (pe_nameR C hsc h1 h2 h3) (pe_bl (b := b)) pps_nil) rfl rfl (by simp) (by simp)).imp fun σ H Q h => ?_
  obtain ⟨β, ms, g, S, hs, hl, he, h⟩ := h
  intro p hp
  dsimp only at h
  split at h
  · rename_i d eg
    split at h
    · rename_i hc
      rw [Bool.and_eq_true] at hc
      obtain ⟨x, e1, r⟩ := he.2 i d eg
      obtain ⟨key, ek⟩ := isKey_false hc.1
      have ex := keyD_kV r ek
      refine ⟨x, e1, ?_⟩
      show _ ∧ _
      refine ⟨upd_same, [(key, .bl b)], by rw [ex]; rfl, by simp, ?_⟩
      have e2 : upd (upd H p (.dK [])) p (.dK (mergeK [] [(key, V.bl b)])) = upd H p (.dK [(key, .bl b)]) := by
        funext a
        by_cases z : a = p
        · subst z; rw [upd_same, upd_same]; rfl
        · rw [upd_ne z, upd_ne z, upd_ne z]
      rw [e2]
      refine h (β ++ [p]) _ _ ⟨Ext.push hp, hs.push hp ⟨[.bl b], .cons (rep_bl _) .nil, [key], by simp [ek], upd_same⟩, hl.push _⟩ ?_
      unfold RepD
      exact ⟨p, by rw [← hs.len]; simp, rfl⟩
    · exact False.elim h
  · exact False.elim h
end MP

set_option linter.all false
set_option Elab.async false
set_option maxRecDepth 100000
namespace MP
open PySem PySem.Spec PyProof.Rows L2
variable {T : Tab} {c : Sc} {k : Nat}

theorem noMark {o : CmpOp} {e : Expr} (h : isSetE e = false) : behindInMarks o e = false := by
  cases e <;> first | rfl | (simp [isSetE] at h)
theorem beqO {a b : Operator} (h : (a == b) = true) : a = b := by cases a <;> cases b <;> first | rfl | (exact absurd h (by decide))
theorem beqC {a b : CmpOp} (h : (a == b) = true) : a = b := by cases a <;> cases b <;> first | rfl | (exact absurd h (by decide))
set_option maxHeartbeats 4000000 in
theorem pe_comp2M {W : WX} {X : Cx} {M : MtF} {E : List Nat → EvF} {TT' : List Nat → TtF} (hE : SE T c k M E) (hT : ST T c k M TT') (hM : NoStar M) (hS : NoSet M) (hV : VarOk c M) {sc : Scope} {elt it it1 : Ex} {tg tg1 : Pat} {ifs ifs1 : List Ex} {own own1 : List Nat} {bx : Bool} {fp : Nat} {e : Expr}
    (C : Ctx T c k W X) (hsc : X.env.scope = sc) (h : mtC2 c fp M sc elt tg it ifs tg1 it1 ifs1 own own1 e = true) :
    PE X e (rdE T X.K W fun ms g S => (itE (E ms) it g S).bind fun p S1 => (match p.2 with | some _ => .bad | none => compD bx none S1 fun n0 S2 => compL2 (E (n0 :: ms)) (TT' (n0 :: ms)) elt tg ifs tg1 it1 ifs1 own1 (wipeE g own) n0 p.1 S2)) := by
  unfold mtC2 at h
  split at h
  · rw [Bool.and_eq_true] at h
    have g7 := h.2; replace h := h.1
    rw [Bool.and_eq_true] at h
    have g6 := h.2; replace h := h.1
    rw [Bool.and_eq_true] at h
    have g5 := h.2; replace h := h.1
    rw [Bool.and_eq_true] at h
    have g4 := h.2; replace h := h.1
    rw [Bool.and_eq_true] at h
    have gv := h.2; replace h := h.1
    rw [Bool.and_eq_true] at h
    have g3 := h.2; replace h := h.1
    rw [Bool.and_eq_true] at h
    have g0 := h.2; replace h := h.1
    rw [Bool.and_eq_true] at h
    have h8 := h.2; replace h := h.1
    rw [Bool.and_eq_true] at h
    have h7 := h.2; replace h := h.1
    rw [Bool.and_eq_true] at h
    have h6 := h.2; replace h := h.1
    rw [Bool.and_eq_true] at h
    have h5 := h.2; replace h := h.1
    rw [Bool.and_eq_true] at h
    have h4 := h.2; replace h := h.1
    rw [Bool.and_eq_true] at h
    have h3 := h.2; replace h := h.1
    rw [Bool.and_eq_true] at h
    have hv := h.2; replace h := h.1
    rw [Bool.and_eq_true] at h
    have h2 := h.2; replace h := h.1
    rw [Bool.and_eq_true] at h
    have h1 := h.2; replace h := h.1
    rw [Bool.and_eq_true] at h
    have z1 := of_decide_eq_true h.2
    have z0 := of_decide_eq_true h.1
    subst z0 z1
    match it, hv with
    | .var i, _ => exact pe_comp2C hE hT hM hS hV C hsc h1 (of_decide_eq_true h2) h3 h4 h5 h6 (of_decide_eq_true h7) h8 g0 g3 (fun j e => by subst e; cases gv) g4 g5 g6 (of_decide_eq_true g7)
  · cases h
theorem mtC2_lc {M : MtF} {sc : Scope} {elt it it1 : Ex} {tg tg1 : Pat} {ifs ifs1 : List Ex} {own own1 : List Nat} {fp : Nat} {e : Expr} (h : mtC2 c fp M sc elt tg it ifs tg1 it1 ifs1 own own1 e = true) : ∃ a g1 g2 d f, e = .ListComp a [g1, g2] d f := by
  unfold mtC2 at h
  cases e with
  | ListComp a gs d f =>
    rcases gs with _ | ⟨⟨_, _, _, _⟩, _ | ⟨⟨_, _, _, _⟩, _ | ⟨_, _⟩⟩⟩
    · exact Bool.noConfusion h
    · exact Bool.noConfusion h
    · exact ⟨_, _, _, _, _, rfl⟩
    · exact Bool.noConfusion h
  | _ => exact Bool.noConfusion h
set_option maxHeartbeats 4000000 in
theorem se_step {n : Nat} (ihE : SE T c k (mtE c n) (evP T.prg.fns.length (callK T.prg k) n).1) (ihT : ST T c k (mtE c n) (evP T.prg.fns.length (callK T.prg k) n).2) :
    SE T c k (mtE c (n + 1)) (evP T.prg.fns.length (callK T.prg k) (n + 1)).1 := by
  intro sc x e W X h C hsc
  have hM := nostar c n
  have hS := noset c n
  have hV := varok c n
  have h' : mtStep c n (mtE c n) sc x e = true := h
  show PE X e (rdE T X.K W fun ms g S => evStep T.prg.fns.length (callK T.prg k) ms (evP T.prg.fns.length (callK T.prg k) n).1 (evP T.prg.fns.length (callK T.prg k) n).2 x g S)
  generalize evP T.prg.fns.length (callK T.prg k) n = EV at ihE ihT
  generalize hMM : mtE c n = M at ihE ihT hM hS hV h'
  cases x with
  | var i =>
    simp only [mtStep] at h'
    split at h'
    · simp only [Bool.and_eq_true] at h'
      exact pe_varC C hsc h'.1.1 h'.1.2 h'.2
    · cases h'
  | con d => exact pe_conC C hsc h'
  | tup es =>
    simp only [mtStep] at h'
    split at h'
    · exact pe_tupC (pa_of ihE hM es _ h' C hsc)
    · cases h'
  | lst bx es =>
    simp only [mtStep] at h'
    split at h'
    · exact pe_lstC (pa_of ihE hM es _ h' C hsc)
    · cases h'
  | dct t ks vs =>
    simp only [mtStep] at h'
    split at h'
    · split at h'
      · exact pe_dnewC
      · rename_i i b k' v'
        rw [Bool.and_eq_true] at h'
        obtain ⟨y, p, rfl, v1, v2, v3⟩ := hV _ _ _ h'.1
        have h2 := h'.2
        split at h2
        · rename_i b' nn p1
          have : b' = b := by first | (simpa using h2) | exact (show b = b' by simpa using h2).symm
          subst this
          exact pe_dispC C hsc v1 v2 v3
        · cases h2
      · cases h'
    · cases h'
  | bin op a b =>
    simp only [mtStep] at h'
    split at h'
    · simp only [Bool.and_eq_true] at h'
      obtain ⟨⟨h1, h2⟩, h3⟩ := h'
      rw [beqO h1]
      exact pe_binC (ihE sc a _ W X h2 C hsc) (ihE sc b _ W X h3 C hsc)
    · cases h'
  | neg a =>
    simp only [mtStep] at h'
    split at h'
    · exact pe_negC (ihE sc a _ W X h' C hsc)
    · cases h'
  | not a =>
    simp only [mtStep] at h'
    split at h'
    · exact pe_notC (ihE sc a _ W X h' C hsc)
    · cases h'
  | and es =>
    simp only [mtStep] at h'
    split at h'
    · simp only [Bool.and_eq_true, decide_eq_true_eq] at h'
      exact pe_andC ihE C hsc es _ h'.2 (by omega)
    · cases h'
  | or es =>
    simp only [mtStep] at h'
    split at h'
    · simp only [Bool.and_eq_true, decide_eq_true_eq] at h'
      exact pe_orC ihE C hsc es _ h'.2 (by omega)
    · cases h'
  | cmp op a b =>
    simp only [mtStep] at h'
    split at h'
    · simp only [Bool.and_eq_true] at h'
      obtain ⟨⟨⟨h1, h2⟩, h3⟩, h4⟩ := h'
      rw [beqC h1]
      exact pe_cmpC C.hu (ihE sc a _ W X h3 C hsc) (ihE sc b _ W X h4 C hsc) (noMark (hS _ _ _ h4))
    · cases h'
  | cmp2 op1 op2 a b d =>
    simp only [mtStep] at h'
    split at h'
    · simp only [Bool.and_eq_true] at h'
      obtain ⟨⟨⟨⟨h1, h2⟩, h3⟩, h4⟩, h5⟩ := h'
      rw [beqC h1, beqC h2]
      exact pe_cmp2C C.hu (ihE sc a _ W X h3 C hsc) (ihE sc b _ W X h4 C hsc) (ihE sc d _ W X h5 C hsc) (noMark (hS _ _ _ h5))
    · cases h'
  | reprEq a b =>
    simp only [mtStep] at h'
    split at h'
    · simp only [Bool.and_eq_true] at h'
      obtain ⟨⟨⟨h1, h2⟩, h3⟩, h4⟩ := h'
      obtain ⟨p1, rfl, g1⟩ := isGlE h1
      obtain ⟨p2, rfl, g2⟩ := isGlE h2
      exact pe_reprEqC C (isGl_gl hsc g1) (ihE sc a _ W X h3 C hsc) (ihE sc b _ W X h4 C hsc) (hM _ _ _ h3) (hM _ _ _ h4)
    · cases h'
  | ite t a b =>
    simp only [mtStep] at h'
    split at h'
    · simp only [Bool.and_eq_true] at h'
      exact pe_iteC (ihT sc t _ W X h'.1.1 C hsc) (ihE sc a _ W X h'.1.2 C hsc) (ihE sc b _ W X h'.2 C hsc)
    · cases h'
  | call f es =>
    simp only [mtStep] at h'
    split at h'
    · simp only [Bool.and_eq_true, decide_eq_true_eq] at h'
      obtain ⟨⟨⟨⟨h1, h2⟩, h3⟩, h4⟩, h5⟩ := h'
      simp [okN] at h2
      have hf := C.link.gfl _ _ h3
      exact pe_callC C (isGl_gl hsc h1) h3 (by simpa using h2.1) ⟨_, List.getElem?_eq_getElem hf⟩ (pa_of ihE hM es _ h4 C hsc) (by rw [← mtL_len h4]; exact h5) (mtL_star hM h4)
    · cases h'
  | callv i es =>
    simp only [mtStep] at h'
    split at h'
    · simp only [Bool.and_eq_true, decide_eq_true_eq] at h'
      obtain ⟨⟨⟨⟨h1, h2⟩, h3⟩, h4⟩, h5⟩ := h'
      simp [okN] at h3
      rename_i y p as q
      have hv : Vis X.env.scope y := by
        rw [hsc]
        unfold isVis at h2
        unfold Vis
        split at h2 <;> simp_all
      exact pe_callvC C (by rw [C.names]; simpa [nm] using h1) hv (by simpa using h3.1) (by simpa using h3.2) (pa_of ihE hM es _ h4 C hsc) (by rw [← mtL_len h4]; exact h5) (mtL_star hM h4)
    · cases h'
  | bi bx b es =>
    simp only [mtStep] at h'
    split at h'
    · simp only [Bool.and_eq_true, decide_eq_true_eq] at h'
      obtain ⟨⟨h1, h2⟩, h3⟩ := h'
      obtain ⟨p1, rfl, g1⟩ := isGlE h1
      exact pe_biC C (isGl_gl hsc g1) (pa_of ihE hM es _ h2 C hsc) (by rw [← mtL_len h2]; exact h3) (mtL_star hM h2)
    · cases h'
  | bm kb o es =>
    simp only [mtStep] at h'
    split at h'
    · simp only [Bool.and_eq_true, decide_eq_true_eq] at h'
      obtain ⟨⟨⟨⟨⟨⟨h1, h2⟩, h3⟩, h4⟩, h5⟩, h6⟩, h7⟩ := h'
      have e1 := eq_of_beq h1
      subst e1
      exact pe_bmC C (ihE sc o _ W X h3 C hsc) (pa_of ihE hM es _ h4 C hsc) h2 h5 (by rw [← mtL_len h4]; exact h6) (by rw [← mtL_len h4]; exact h7) (mtL_star hM h4)
    · cases h'
  | isin a t =>
    simp only [mtStep] at h'
    split at h'
    · simp only [Bool.and_eq_true] at h'
      obtain ⟨⟨h1, h2⟩, h3⟩ := h'
      obtain ⟨p1, rfl, g1⟩ := isGlE h1
      obtain ⟨p2, rfl, g2⟩ := isGlE h3
      exact pe_isinC C (isGl_gl hsc g1) (ihE sc a _ W X h2 C hsc) (hM _ _ _ h2) rfl (isGl_gl hsc g2)
    · cases h'
  | ix o i =>
    simp only [mtStep] at h'
    split at h'
    · simp only [Bool.and_eq_true] at h'
      exact pe_ixC C.hu (ihE sc o _ W X h'.1.1 C hsc) (ihE sc i _ W X h'.1.2 C hsc) h'.2
    · cases h'
  | sl o lo hi =>
    simp only [mtStep] at h'
    split at h'
    · simp only [Bool.and_eq_true] at h'
      exact pe_slC (ihE sc o _ W X h'.1.1 C hsc) (po_of ihE h'.1.2 C hsc) (po_of ihE h'.2 C hsc)
    · cases h'
  | comp bx elt tg it ifs own =>
    simp only [mtStep] at h'
    split at h'
    · simp only [Bool.and_eq_true, decide_eq_true_eq] at h'
      obtain ⟨⟨⟨⟨⟨⟨⟨⟨h0, h1⟩, h2⟩, h3⟩, h4⟩, h5⟩, h6⟩, h7⟩, h8⟩ := h'
      subst h0
      exact pe_compC ihE ihT hM hS hV C hsc h1 h2 h3 h4 h5 h6 h7 h8
    · cases h'
  | comp2 bx elt tg it ifs tg1 it1 ifs1 own own1 => exact pe_comp2M ihE ihT hM hS hV C hsc h'
  | rngv bx b es =>
    simp only [mtStep] at h'
    split at h'
    · simp only [Bool.and_eq_true] at h'
      obtain ⟨⟨⟨h1, h2⟩, h3⟩, h4⟩ := h'
      obtain ⟨p1, rfl, g1⟩ := isGlE h1
      obtain ⟨p2, rfl, g2⟩ := isGlE h2
      split at h3
      · split at h4
        · exact pe_rngvC C (isGl_gl hsc g1) (isGl_gl hsc g2) (ihE sc _ _ W X h4 C hsc) (hM _ _ _ h4)
        · cases h4
      · cases h3
    · cases h'
  | rng es => simp [mtStep] at h'
  | enum e => simp [mtStep] at h'
  | zip a b => simp [mtStep] at h'

theorem pw_notC {X : Cx} {W : WX} {a : Expr} {F : List Nat → GE → Sto → R Bool} {p : Pos} (ha : PT X a (rdT T X.K W F)) : PT X (.UnaryOp .Not a p) (rdT T X.K W fun ms g S => (F ms g S).bind fun b S1 => .ok (!b) S1) := by
  refine (pt_not ha).imp fun σ H Q h => ?_
  obtain ⟨β, ms, g, S, hs, hl, he, h⟩ := h
  exact rd_intoT (.start hs hl he) h fun d β1 H1 S1 n1 f1 h1 => h1 β1 H1 n1.fin
set_option maxHeartbeats 4000000 in
theorem st_step {n : Nat} (ihE : SE T c k (mtE c n) (evP T.prg.fns.length (callK T.prg k) n).1) (ihT : ST T c k (mtE c n) (evP T.prg.fns.length (callK T.prg k) n).2)
    (ihE1 : SE T c k (mtE c (n + 1)) (evP T.prg.fns.length (callK T.prg k) (n + 1)).1) : ST T c k (mtE c (n + 1)) (evP T.prg.fns.length (callK T.prg k) (n + 1)).2 := by
  intro sc x e W X h C hsc
  have hS := noset c n
  have h1 := ihE1 sc x e W X h C hsc
  have h' : mtStep c n (mtE c n) sc x e = true := h
  have bad : PT X e (rdT T X.K W fun _ _ _ => .bad) := ⟨fun pins s σ H Q I h => by
    obtain ⟨β, ms, g, S, hs, hl, he, h⟩ := h
    exact False.elim h⟩
  show PT X e (rdT T X.K W fun ms g S => ttStep ((evP T.prg.fns.length (callK T.prg k) (n + 1)).1 ms) ((evP T.prg.fns.length (callK T.prg k) n).1 ms) ((evP T.prg.fns.length (callK T.prg k) n).2 ms) x g S)
  generalize (evP T.prg.fns.length (callK T.prg k) (n + 1)).1 = E1 at h1
  generalize evP T.prg.fns.length (callK T.prg k) n = EV at ihE ihT
  generalize mtE c n = M at ihE ihT hS h'
  cases x with
  | and es =>
    simp only [mtStep] at h'
    split at h'
    · simp only [Bool.and_eq_true, decide_eq_true_eq] at h'
      exact (pw_andC ihT C hsc es _ h'.2 (by omega)).pt
    · cases h'
  | or es =>
    simp only [mtStep] at h'
    split at h'
    · simp only [Bool.and_eq_true, decide_eq_true_eq] at h'
      exact (pw_orC ihT C hsc es _ h'.2 (by omega)).pt
    · cases h'
  | not a =>
    simp only [mtStep] at h'
    split at h'
    · exact pw_notC (ihT sc a _ W X h' C hsc)
    · cases h'
  | cmp op a b =>
    simp only [mtStep] at h'
    split at h'
    · simp only [Bool.and_eq_true] at h'
      obtain ⟨⟨⟨h1, h2⟩, h3⟩, h4⟩ := h'
      rw [beqC h1]
      exact pt_cmpC C.hu (ihE sc a _ W X h3 C hsc) (ihE sc b _ W X h4 C hsc) (noMark (hS _ _ _ h4))
    · cases h'
  | cmp2 op1 op2 a b d =>
    simp only [mtStep] at h'
    split at h'
    · simp only [Bool.and_eq_true] at h'
      obtain ⟨⟨⟨⟨h1, h2⟩, h3⟩, h4⟩, h5⟩ := h'
      rw [beqC h1, beqC h2]
      exact pt_cmp2C C.hu (ihE sc a _ W X h3 C hsc) (ihE sc b _ W X h4 C hsc) (ihE sc d _ W X h5 C hsc) (noMark (hS _ _ _ h5))
    · cases h'
  | ite t a b => exact bad
  | reprEq a b => exact bad
  | var i =>
    refine pt_plainC h1 ?_
    simp only [mtStep] at h'
    split at h'
    · intro _; rfl
    · cases h'
  | con d =>
    refine pt_plainC h1 ?_
    cases e <;> first | (intro _; rfl) | (simp [mtStep] at h')
  | tup es =>
    refine pt_plainC h1 ?_
    simp only [mtStep] at h'
    split at h'
    · intro _; rfl
    · cases h'
  | lst bx es =>
    refine pt_plainC h1 ?_
    simp only [mtStep] at h'
    split at h'
    · intro _; rfl
    · cases h'
  | dct t ks vs =>
    refine pt_plainC h1 ?_
    simp only [mtStep] at h'
    split at h'
    · intro _; rfl
    · cases h'
  | bin op a b =>
    refine pt_plainC h1 ?_
    simp only [mtStep] at h'
    split at h'
    · intro _; rfl
    · cases h'
  | neg a =>
    refine pt_plainC h1 ?_
    simp only [mtStep] at h'
    split at h'
    · intro _; rfl
    · cases h'
  | call f es =>
    refine pt_plainC h1 ?_
    simp only [mtStep] at h'
    split at h'
    · intro _; rfl
    · cases h'
  | callv f es =>
    refine pt_plainC h1 ?_
    simp only [mtStep] at h'
    split at h'
    · intro _; rfl
    · cases h'
  | bi bx b es =>
    refine pt_plainC h1 ?_
    simp only [mtStep] at h'
    split at h'
    · intro _; rfl
    · cases h'
  | bm b o es =>
    refine pt_plainC h1 ?_
    simp only [mtStep] at h'
    split at h'
    · intro _; rfl
    · cases h'
  | isin a t =>
    refine pt_plainC h1 ?_
    simp only [mtStep] at h'
    split at h'
    · intro _; rfl
    · cases h'
  | ix o i =>
    refine pt_plainC h1 ?_
    simp only [mtStep] at h'
    split at h'
    · intro _; rfl
    · cases h'
  | sl o lo hi =>
    refine pt_plainC h1 ?_
    simp only [mtStep] at h'
    split at h'
    · intro _; rfl
    · cases h'
  | comp bx elt tg it ifs own =>
    refine pt_plainC h1 ?_
    simp only [mtStep] at h'
    split at h'
    · intro _; rfl
    · cases h'
  | comp2 bx elt tg it ifs tg1 it1 ifs1 own own1 =>
    refine pt_plainC h1 ?_
    have h'' : mtC2 c n M sc elt tg it ifs tg1 it1 ifs1 own own1 e = true := h'
    obtain ⟨z1, z2, z3, z4, z5, rfl⟩ := mtC2_lc h''
    intro _; rfl
  | rngv bx b es =>
    refine pt_plainC h1 ?_
    simp only [mtStep] at h'
    split at h'
    · intro _; rfl
    · cases h'
  | rng es => simp [mtStep] at h'
  | enum e => simp [mtStep] at h'
  | zip a b => simp [mtStep] at h'
theorem se_all : ∀ n, SE T c k (mtE c n) (evP T.prg.fns.length (callK T.prg k) n).1 ∧ ST T c k (mtE c n) (evP T.prg.fns.length (callK T.prg k) n).2
  | 0 => ⟨fun _ _ _ _ _ h => by simp [mtE] at h, fun _ _ _ _ _ h => by simp [mtE] at h⟩
  | n + 1 =>
    have ih := se_all n
    have h1 := se_step ih.1 ih.2
    ⟨h1, st_step ih.1 ih.2 h1⟩
end MP

set_option linter.all false
set_option Elab.async false
set_option maxRecDepth 100000
namespace MP
open PySem PySem.Spec PyProof.Rows L2
variable {T : Tab} {X : Cx} {c : Sc} {k : Nat} {W : WX}

def GoodS (r : RS) (N : Fl → GE → Sto → Prop) (E : Nat → D → GE → Sto → Prop) : Prop := match r with
  | .ok f g s => N f g s
  | .exc c p g s => E c p g s
  | .bad => False
/-- an end of a suite -/
def FlD (fa : Nat → Addr) (K : PySem.W.Frag) (β : List Addr) (H : Hp) (σ : L2.St) (D : Ends) : Fl → Prop
  | .next => D.nx σ H
  | .ret d => ∀ x, RepD fa K β H d x → D.rt x H
  | .brk => D.bk σ H
  | .cnt => D.ct σ H
def PN (T : Tab) (K : PySem.W.Frag) (ms : List Nat) (β : List Addr) (H : Hp) (D : Ends) : Fl → GE → Sto → Prop := fun f g' S' =>
  ∀ β' H' σ', Fin T K ms β H β' H' S' → RepE T.fa K β' H' g' σ' → FlD T.fa K β' H' σ' D f
def PXS (T : Tab) (K : PySem.W.Frag) (ms : List Nat) (β : List Addr) (H : Hp) (W : WX) : Nat → D → GE → Sto → Prop := fun c p g' S' =>
  ∀ β' H' σ' dx v, Fin T K ms β H β' H' S' → RepE T.fa K β' H' g' σ' → RepD T.fa K β' H' p v → H' dx = some (.xd [(T.fld c, v)]) → W (.ref (T.ca c)) (some dx) σ' H'
def rdS (T : Tab) (K : PySem.W.Frag) (W : WX) (F : List Nat → GE → Sto → RS) : TS := fun D σ H =>
  ∃ β ms g S, RepS T.fa K β H S ∧ LowS ms S ∧ RepE T.fa K β H g σ ∧ GoodS (F ms g S) (PN T K ms β H D) (PXS T K ms β H W)
theorem PN.trans {K : PySem.W.Frag} {ms β H β1 H1 S1} {D : Ends} {f : Fl} {g : GE} {S : Sto} (a : Fin T K ms β H β1 H1 S1) (h : PN T K ms β H D f g S) : PN T K ms β1 H1 D f g S := fun β' H' σ' f' e => h β' H' σ' (a.trans f') e
theorem PXS.trans {K : PySem.W.Frag} {ms β H β1 H1 S1} {W : WX} {c : Nat} {p : D} {g : GE} {S : Sto} (a : Fin T K ms β H β1 H1 S1) (h : PXS T K ms β H W c p g S) : PXS T K ms β1 H1 W c p g S := fun β' H' σ' dx v f' e r x => h β' H' σ' dx v (a.trans f') e r x
theorem GoodS.mono {r : RS} {N N' : Fl → GE → Sto → Prop} {E E' : Nat → D → GE → Sto → Prop} (h : GoodS r N E) (hn : ∀ f g s, N f g s → N' f g s) (he : ∀ c p g s, E c p g s → E' c p g s) : GoodS r N' E' := by
  cases r with
  | ok f g s => exact hn _ _ _ h
  | exc c p g s => exact he _ _ _ _ h
  | bad => exact h
theorem GoodS.st {α : Type} {r : R α} {g : GE} {kk : α → Sto → RS} {N : Fl → GE → Sto → Prop} {E : Nat → D → GE → Sto → Prop} (h : GoodS (r.st g kk) N E) : GoodE r (fun a s => GoodS (kk a s) N E) (fun c p s => E c p g s) := by
  cases r <;> exact h
theorem px_of {K : PySem.W.Frag} {ms β0 H0 g σ β H S} (n : Now T K ms β0 H0 g σ β H S) {c : Nat} {p : D} {S' : Sto} (h : PXS T K ms β0 H0 W c p g S') : PX T K ms β H (fun c d H' => W c d σ H') c p S' :=
  fun β' H' dx v f r e => h β' H' σ dx v (n.fin.trans f) (n.env.ext f.ext) r e
theorem rs_into {K : PySem.W.Frag} {F : List Nat → GE → Sto → R D} {kk : D → Sto → RS} {N : Fl → GE → Sto → Prop} {ms β0 H0 g σ β H S}
    (n : Now T K ms β0 H0 g σ β H S) (h : GoodS ((F ms g S).st g kk) N (PXS T K ms β0 H0 W)) {Q : VK}
    (hq : ∀ d x β' H' S', Now T K ms β0 H0 g σ β' H' S' → Fin T K ms β H β' H' S' → RepD T.fa K β' H' d x → GoodS (kk d S') N (PXS T K ms β0 H0 W) → Q x H') : rdE T K W F σ H Q :=
  ⟨β, ms, g, S, n.st, n.low, n.env, h.st.mono (fun d S' q β' H' x f r => hq d x β' H' S' (n.next f) f r q) fun c p S' q => px_of n q⟩
theorem rs_intoA {K : PySem.W.Frag} {F : List Nat → GE → Sto → R (List D)} {kk : List D → Sto → RS} {N : Fl → GE → Sto → Prop} {ms β0 H0 g σ β H S}
    (n : Now T K ms β0 H0 g σ β H S) (h : GoodS ((F ms g S).st g kk) N (PXS T K ms β0 H0 W)) {Q : List V → Hp → Prop}
    (hq : ∀ d x β' H' S', Now T K ms β0 H0 g σ β' H' S' → Fin T K ms β H β' H' S' → RepL T.fa K β' H' d x → GoodS (kk d S') N (PXS T K ms β0 H0 W) → Q x H') : rdA T K W F σ H Q :=
  ⟨β, ms, g, S, n.st, n.low, n.env, h.st.mono (fun d S' q β' H' x f r => hq d x β' H' S' (n.next f) f r q) fun c p S' q => px_of n q⟩
theorem rs_intoT {K : PySem.W.Frag} {F : List Nat → GE → Sto → R Bool} {kk : Bool → Sto → RS} {N : Fl → GE → Sto → Prop} {ms β0 H0 g σ β H S}
    (n : Now T K ms β0 H0 g σ β H S) (h : GoodS ((F ms g S).st g kk) N (PXS T K ms β0 H0 W)) {Q : Bool → Hp → Prop}
    (hq : ∀ d β' H' S', Now T K ms β0 H0 g σ β' H' S' → Fin T K ms β H β' H' S' → GoodS (kk d S') N (PXS T K ms β0 H0 W) → Q d H') : rdT T K W F σ H Q :=
  ⟨β, ms, g, S, n.st, n.low, n.env, h.st.mono (fun d S' q β' H' f => hq d β' H' S' (n.next f) f q) fun c p S' q => px_of n q⟩
/-- a suite from a state behind -/
theorem rs_last {K : PySem.W.Frag} {F : List Nat → GE → Sto → RS} {ms β0 H0 g σ β H S} {D : Ends} (n : Now T K ms β0 H0 g σ β H S) (h : GoodS (F ms g S) (PN T K ms β0 H0 D) (PXS T K ms β0 H0 W)) : rdS T K W F D σ H :=
  ⟨β, ms, g, S, n.st, n.low, n.env, h.mono (fun _ _ _ q => q.trans n.fin) fun _ _ _ _ q => q.trans n.fin⟩
/-- .. with ends of its own -/
theorem rs_lastD {K : PySem.W.Frag} {F : List Nat → GE → Sto → RS} {N : Fl → GE → Sto → Prop} {ms β0 H0 g σ β H S} {D : Ends} (n : Now T K ms β0 H0 g σ β H S) (h : GoodS (F ms g S) N (PXS T K ms β0 H0 W)) (hd : ∀ f g' S', N f g' S' → PN T K ms β H D f g' S') : rdS T K W F D σ H :=
  ⟨β, ms, g, S, n.st, n.low, n.env, h.mono hd fun _ _ _ _ q => q.trans n.fin⟩
theorem _root_.L2.PSs.imp {X : Cx} {e : List Stmt} {t t' : TS} (h : PSs X e t) (i : ∀ D σ H, t' D σ H → t D σ H) : PSs X e t' := ⟨fun pins s σ H D I q => h.run pins s σ H D I (i D σ H q)⟩

/-- what a def's suite knows besides -/
structure StOk (X : Cx) : Prop where
  passes : PassesOwn (model X.prog X.w) X.A X.env X.xe
  pat : PatOk X X.env.scope
  loc : ∀ x, X.env.scope.names.lookup x = some .local → X.env.kindOf x = some .local
  kind : X.env.scope.kind = .function
  stk : X.stack = X.env :: X.outer
  frm : X.env.frame = some X.env.locals
abbrev SS1 (T : Tab) (c : Sc) (k : Nat) (sc : Scope) (M : St → Stmt → Bool) (F : List Nat → St → GE → Sto → RS) : Prop := ∀ (st : St) (e : Stmt) (W : WX) (X : Cx), M st e = true → Ctx T c k W X → StOk X → X.env.scope = sc → PS X e (rdS T X.K W fun ms g S => F ms st g S)
abbrev SS (T : Tab) (c : Sc) (k : Nat) (sc : Scope) (M : MtS) (F : List Nat → StF) : Prop := ∀ (l : List St) (es : List Stmt) (W : WX) (X : Cx), M l es = true → Ctx T c k W X → StOk X → X.env.scope = sc → PSs X es (rdS T X.K W fun ms g S => F ms l g S)
/-- a suite by its statements -/
theorem ss_of {sc : Scope} {M : St → Stmt → Bool} {F : List Nat → St → GE → Sto → RS} (h1 : SS1 T c k sc M F) : SS T c k sc (mtSL M) (fun ms => exL (F ms)) := by
  intro l
  induction l with
  | nil =>
    intro es W X h C ok hsc
    cases es with
    | nil =>
      refine pss_nil.imp fun D σ H q => ?_
      obtain ⟨β, ms, g, S, hs, hl, he, h⟩ := q
      exact h β H σ (.refl hs hl) he
    | cons e es => simp [mtSL] at h
  | cons st l ih =>
    intro es W X h C ok hsc
    cases es with
    | nil => simp [mtSL] at h
    | cons e es =>
      simp [mtSL] at h
      refine (pss_cons (h1 st e W X h.1 C ok hsc) (ih es W X h.2 C ok hsc)).imp fun D σ H q => ?_
      obtain ⟨β, ms, g, S, hs, hl, he, h⟩ := q
      refine ⟨β, ms, g, S, hs, hl, he, ?_⟩
      simp only [exL] at h
      show GoodS (F ms st g S) _ _
      revert h
      cases hF : F ms st g S with
      | bad => intro h; exact h
      | exc c p g1 s1 => intro h; exact h
      | ok f g1 S1 =>
        cases f with
        | next =>
          intro h β1 H1 σ1 f1 e1
          exact rs_last (⟨f1, e1⟩ : Now T X.K ms β H g1 σ1 β1 H1 S1) h
        | ret d => intro h; exact h
        | brk => intro h; exact h
        | cnt => intro h; exact h

/-! ### the plain statements -/
theorem swaps_none {e : Expr} {t : Option Expr} {l : Nat} {env : PySem.Env} (h : isComp e = false) : swapsWith e t l env = pure false := by
  cases e <;> first | rfl | (simp [isComp] at h)
theorem ps_exC {e : Expr} {F : List Nat → GE → Sto → R D} {pos : Pos} (he : PE X e (rdE T X.K W F)) (hn : isComp e = false) : PS X (.Expr e pos) (rdS T X.K W fun ms g S => (F ms g S).st g fun _ S1 => .ok .next g S1) := by
  refine (ps_expr he (swaps_none hn)).imp fun D σ H q => ?_
  obtain ⟨β, ms, g, S, hs, hl, hE, h⟩ := q
  exact rs_into (.start hs hl hE) h fun d x β1 H1 S1 n1 f1 r1 h1 => h1 β1 H1 σ n1.fin n1.env
theorem ps_retC {e : Expr} {F : List Nat → GE → Sto → R D} {pos : Pos} (he : PE X e (rdE T X.K W F)) : PS X (.Return (some e) pos) (rdS T X.K W fun ms g S => (F ms g S).st g fun d S1 => .ok (.ret d) g S1) := by
  refine (ps_ret he).imp fun D σ H q => ?_
  obtain ⟨β, ms, g, S, hs, hl, hE, h⟩ := q
  exact rs_into (.start hs hl hE) h fun d x β1 H1 S1 n1 f1 r1 h1 => h1 β1 H1 σ n1.fin n1.env x r1
theorem ps_retNC {pos : Pos} : PS X (.Return none pos) (rdS T X.K W fun _ g S => .ok (.ret .non) g S) := by
  refine ps_retN.imp fun D σ H q => ?_
  obtain ⟨β, ms, g, S, hs, hl, hE, h⟩ := q
  exact h β H σ (.refl hs hl) hE .non rep_non
theorem ps_flC {st : Stmt} {f : Fl} {t : TS} (h : PS X st t) (ht : ∀ D σ H, (match f with | .next => D.nx σ H | .brk => D.bk σ H | .cnt => D.ct σ H | .ret _ => False) → t D σ H) (hf : ∀ d, f ≠ .ret d) : PS X st (rdS T X.K W fun _ g S => .ok f g S) := by
  refine h.imp fun D σ H q => ?_
  obtain ⟨β, ms, g, S, hs, hl, hE, h⟩ := q
  refine ht D σ H ?_
  have := h β H σ (.refl hs hl) hE
  cases f with
  | ret d => exact absurd rfl (hf d)
  | _ => exact this
theorem ps_ifC {t : Expr} {a b : List Stmt} {Ft : List Nat → GE → Sto → R Bool} {Fa Fb : List Nat → GE → Sto → RS} {pos : Pos} (ht : PT X t (rdT T X.K W Ft)) (ha : PSs X a (rdS T X.K W Fa)) (hb : PSs X b (rdS T X.K W Fb)) :
    PS X (.If t a b pos) (rdS T X.K W fun ms g S => (Ft ms g S).st g fun t S1 => if t then Fa ms g S1 else Fb ms g S1) := by
  refine (ps_if ht ha hb).imp fun D σ H q => ?_
  obtain ⟨β, ms, g, S, hs, hl, hE, h⟩ := q
  refine rs_intoT (.start hs hl hE) h fun d β1 H1 S1 n1 f1 h1 => ?_
  cases d
  · exact rs_last n1 h1
  · exact rs_last n1 h1
/-- name, pattern = value -/
theorem ps_asgC {tg e : Expr} {p : Pat} {F : List Nat → GE → Sto → R D} {pos : Pos} (he : PE X e (rdE T X.K W F)) (hg : PG X tg (gPat X.K p)) (hs : swapsWithSole [tg] e pos.line X.env = pure false) (hw : swappedStores [tg] e X.env = pure none) (hst : isStar tg = false) :
    PS X (.Assign [tg] e pos) (rdS T X.K W fun ms g S => (F ms g S).st g fun d S1 => match asgN p d g with | some g1 => .ok .next g1 S1 | none => .bad) := by
  have h1 : (assignEach [tg] X.env).map (·.2) = [PySem.assign tg X.env] := by
    rw [(notStarA (es := [tg]) (env := X.env) (by simpa using hst)).2.2 tg [] rfl]; rfl
  refine (ps_asg he hg hs hw h1).imp fun D σ H q => ?_
  obtain ⟨β, ms, g, S, hs, hl, hE, h⟩ := q
  refine rs_into (.start hs hl hE) h fun d x β1 H1 S1 n1 f1 r1 h1 => ?_
  split at h1
  · rename_i g1 e1
    exact gPat_run [] p d x g g1 σ _ n1.env r1 e1 fun σ1 env1 _ => h1 β1 H1 σ1 n1.fin env1
  · exact False.elim h1
theorem sole_of {tg e : Expr} {l : Nat} {env : PySem.Env} (h : swapsWith e (some tg) l env = pure false) : swapsWithSole [tg] e l env = pure false := h
theorem stores_none {tg e : Expr} {env : PySem.Env} (h : isTup e = false) : swappedStores [tg] e env = pure none := by
  unfold swappedStores
  cases tg <;> cases e <;> first | rfl | (simp [isTup] at h)
theorem filterMap_lt {α β : Type} {f : α → Option β} : ∀ {l : List α}, (∃ a ∈ l, f a = none) → (l.filterMap f).length < l.length
  | [], ⟨a, h, _⟩ => by cases h
  | x :: l, ⟨a, h, e⟩ => by
    have hle : (l.filterMap f).length ≤ l.length := List.length_filterMap_le _ _
    rcases List.mem_cons.mp h with rfl | h
    · rw [List.filterMap_cons, e]
      simp only [List.length_cons]
      omega
    · have ih := filterMap_lt (l := l) ⟨a, h, e⟩
      rw [List.filterMap_cons]
      cases f x with
      | none => simp only [List.length_cons]; omega
      | some b => simp only [List.length_cons]; omega
theorem noSwap_none {sc : Scope} {g v : Expr} {env : PySem.Env} (hsc : env.scope = sc) (h : noSwap sc g v = true) : swappedStores [g] v env = pure none := by
  unfold noSwap at h
  rw [Bool.or_eq_true] at h
  rcases h with h | h
  · exact stores_none (by simpa using h)
  · cases g with
    | Tuple ts kt pt =>
      cases v with
      | Tuple vs kv pv =>
        simp only [someCell] at h
        obtain ⟨t, ht, hq⟩ := List.any_eq_true.mp h
        unfold swappedStores
        dsimp only
        split
        · rfl
        · split
          · rfl
          · split
            · rfl
            · rename_i hn
              exfalso
              apply hn
              rw [Bool.or_eq_true]
              left
              simp only [bne_iff_ne, ne_eq]
              refine Nat.ne_of_lt (filterMap_lt ⟨t, ht, ?_⟩)
              cases t with
              | Name y p =>
                have : env.kindOf y ≠ some .local := by
                  intro e
                  have e' : env.scope.names.lookup y = some .local := e
                  rw [hsc] at e'
                  simp [lkLoc, e'] at hq
                have e2 : (env.kindOf y == some NameKind.local) = false := by
                  cases hk : env.kindOf y with
                  | none => rfl
                  | some z => cases z <;> first | rfl | exact absurd hk this
                simp [e2]
              | _ => rfl
      | _ => exact stores_none rfl
    | List ts pt => cases h
    | _ => cases v <;> rfl
end MP

set_option linter.all false
set_option Elab.async false
set_option maxRecDepth 100000
namespace MP
open PySem PySem.Spec PyProof.Rows L2
variable {T : Tab} {X : Cx} {c : Sc} {k : Nat} {W : WX}

/-! ### x[k] = d -/
def rSet (T : Tab) (K : PySem.W.Frag) : TSet := fun o i v H Q => ∃ β ms S od id vd S', RepS T.fa K β H S ∧ LowS ms S ∧ RepD T.fa K β H od o ∧ RepD T.fa K β H id i ∧ RepD T.fa K β H vd v ∧ setop ms S od id vd = some S' ∧ ∀ β' H', Fin T K ms β H β' H' S' → Q H'
theorem low_vals {m : Nat} {k d : D} {l : List (D × D)} (hl : BlL m (l.map (·.2))) (hd : Bl m d) : BlL m ((MP.putK k d l).map (·.2)) := by
  refine .all fun x hx => ?_
  obtain ⟨p, hp, rfl⟩ := List.mem_map.mp hx
  unfold MP.putK at hp
  split at hp
  · obtain ⟨q, hq, rfl⟩ := List.mem_map.mp hp
    split
    · exact hd
    · exact BlL.mem hl _ (List.mem_map_of_mem hq)
  · rcases List.mem_append.mp hp with g | g
    · exact BlL.mem hl _ (List.mem_map_of_mem g)
    · simp at g; subst g; exact hd
theorem set_d (hu : X.A.units + 64 < cLine) : PSet X (rSet T X.K) := by
  intro pins s σ H o i v ov iv u Q I ro ri rv ⟨β, ms, S, od, id, vd, S', hs, hl, r1, r2, r3, e, q⟩
  unfold setop at e
  split at e
  · rename_i n
    obtain ⟨a, ha, rfl⟩ := r1.ref_
    split at e
    · rename_i l hS
      split at e
      · rename_i z
        split at e
        · rename_i j hj
          split at e
          · rename_i hw
            cases e
            obtain ⟨xs, h1, h2⟩ := hs.at_ n a _ ha hS
            have h1' : H a = some (.lst xs) := h1
            have nf : NoFrz H a := nofrz_of h1' (by simp)
            have hj' : L2.ixN xs.length z = some j := by rw [← h2.length]; exact hj
            refine set_list pins s σ H _ _ v ov iv u Q I ro ri rv ⟨a, xs, z, j, rfl, r2.int_, h1', hj', ?_⟩
            have ex : Ext β H β (upd H a (.lst (xs.set j v))) := Ext.upd ha nf
            refine q β _ ⟨ex, hs.upd (ob := ⟨false, .lst (l.set j vd)⟩) ha nf ⟨_, upd_same, (h2.set r3).ext ex⟩, hl.set fun m hm hn => ?_⟩
            have hb := (hl m hm).2 n _ hn hS
            show BlL m (l.set j vd)
            refine BlL.all fun d hd => ?_
            rcases List.mem_or_eq_of_mem_set hd with g | g
            · exact BlL.mem hb d g
            · rw [g]; exact writable_bl hw m hm hn
          · cases e
        · cases e
      · cases e
    · rename_i t l hS
      split at e
      · rename_i hc
        cases e
        simp only [Bool.and_eq_true] at hc
        obtain ⟨⟨hk, hw⟩, hz⟩ := hc
        have hz' := lineOk_le hz
        obtain ⟨us, h2, h3⟩ := hs.at_ n a _ ha hS
        cases ro
        cases t
        · obtain ⟨kk, b1, b2⟩ := h3
          have b2' : H a = some (.dK (kk.zip us)) := b2
          have nf : NoFrz H a := nofrz_of b2' (by simp)
          obtain ⟨key, ek⟩ := isKey_false hk
          have ey := keyD_kV r2 ek
          have rp := RepP.of b1 h2
          have rp2 := RepP.put (k := id) (v := vd) (key := key) (fun a ka ha => sameD_key ha ek) ek r3 rp
          have hlen := rp.length
          refine d_setItem (by omega) I (.inl ⟨_, key, b2', ey, by omega, rfl⟩) ri rv fun s' I' => ⟨_, I', ?_⟩
          have ex : Ext β H β (upd H a (.dK (L2.putK (kk.zip us) key v))) := Ext.upd ha nf
          obtain ⟨k3, u3, e3, f1, f2, f3⟩ := rp2.to
          refine q β _ ⟨ex, hs.upd (ob := ⟨false, .dct false (MP.putK id vd l)⟩) ha nf ⟨u3, f2.ext ex, k3, f1, ?_⟩, hl.set fun m hm hn => ?_⟩
          · rw [← e3]; exact upd_same
          · exact low_vals ((hl m hm).2 n _ hn hS) (writable_bl hw m hm hn)
        · obtain ⟨kk, b1, b2⟩ := h3
          have b2' : H a = some (.dT (kk.zip us)) := b2
          have nf : NoFrz H a := nofrz_of b2' (by simp)
          obtain ⟨l', ks, rfl, ek⟩ := isKey_true hk
          have ek' : keyT (.tup l') = some ks := ek
          obtain ⟨b, ey, hb⟩ := keyT_rep r2 ek'
          have rp := RepP.of b1 h2
          have rp2 := RepP.put (k := .tup l') (v := vd) (key := ks) (fun a ka ha => sameD_keyT ha ek') ek' r3 rp
          have hlen := rp.length
          refine d_setItem (by omega) I (.inr ⟨_, ks, b, b2', ey, hb, by omega, rfl⟩) ri rv fun s' I' => ⟨_, I', ?_⟩
          have ex : Ext β H β (upd H a (.dT (L2.putK (kk.zip us) ks v))) := Ext.upd ha nf
          obtain ⟨k3, u3, e3, f1, f2, f3⟩ := rp2.to
          refine q β _ ⟨ex, hs.upd (ob := ⟨false, .dct true (MP.putK (.tup l') vd l)⟩) ha nf ⟨u3, f2.ext ex, k3, f1, ?_⟩, hl.set fun m hm hn => ?_⟩
          · rw [← e3]; exact upd_same
          · exact low_vals ((hl m hm).2 n _ hn hS) (writable_bl hw m hm hn)
      · cases e
    · cases e
  · cases e
theorem ps_subC {o i e : Expr} {Fo Fi F : List Nat → GE → Sto → R D} {p pos : Pos} (hu : X.A.units + 64 < cLine) (ho : PE X o (rdE T X.K W Fo)) (hi : PE X i (rdE T X.K W Fi)) (he : PE X e (rdE T X.K W F)) (hn : noSl i = true) (hc : isComp e = false) :
    PS X (.Assign [.Subscript o i p] e pos) (rdS T X.K W fun ms g S => (F ms g S).st g fun d S1 => (Fo ms g S1).st g fun x S2 => (Fi ms g S2).st g fun y S3 => (match setop ms S3 x y d with | some S4 => .ok .next g S4 | none => .bad)) := by
  have hg := pg_sub (pos := p) ho hi (set_d (T := T) hu) (fun v => by cases i <;> first | (simp [noSl] at hn; done) | rfl)
  refine (ps_asg he hg (sole_of (swaps_none hc)) (by cases e <;> rfl) rfl).imp fun D σ H q => ?_
  obtain ⟨β, ms, g, S, hs, hl, hE, h⟩ := q
  refine rs_into (.start hs hl hE) h fun d x β1 H1 S1 n1 f1 r1 h1 => rs_into n1 h1 fun od ov β2 H2 S2 n2 f2 r2 h2 => rs_into n2 h2 fun id iv β3 H3 S3 n3 f3 r3 h3 => ?_
  split at h3
  · rename_i S4 e4
    refine ⟨β3, ms, S3, od, id, d, S4, n3.st, n3.low, r2.ext f3.ext, r3, (r1.ext f2.ext).ext f3.ext, e4, fun β' H' f => ?_⟩
    exact h3 β' H' σ (n3.fin.trans f) (n3.env.ext f.ext)
  · exact False.elim h3
/-- name op= value, ints -/
theorem ps_augC {i : Nat} {y : Str} {e : Expr} {F : List Nat → GE → Sto → R D} {p pos : Pos} (C : Ctx T c k W X) (hy : X.N[i]? = some y) (hloc : Loc X.env.scope y) (hf : X.fn y = true ∨ X.env.scope.names.lookup y = some .local) (he : PE X e (rdE T X.K W F)) :
    PS X (.AugAssign (.Name y p) .Add e pos) (rdS T X.K W fun ms g S => (match g[i]? with
      | some (some (.int a)) => (F ms g S).st g fun b S1 => (match b with | .int z => .ok .next (setEnv g i (.int (a + z))) S1 | _ => .bad)
      | _ => .bad)) := by
  refine (ps_aug C.nd hy hloc he ip_add hf).imp fun D σ H q => ?_
  obtain ⟨β, ms, g, S, hs, hl, hE, h⟩ := q
  dsimp only at h
  split at h
  · rename_i a eg
    obtain ⟨v, e1, r⟩ := hE.2 i _ eg
    refine ⟨v, e1, rs_into (.start hs hl hE) h fun d x β1 H1 S1 n1 f1 r1 h1 => ?_⟩
    split at h1
    · rename_i z
      refine ⟨a, z, r.int_, r1.int_, ?_⟩
      exact h1 β1 H1 _ n1.fin (n1.env.set (rep_int _))
    · exact False.elim h1
  · exact False.elim h
/-! ### while -/
theorem ps_whileC {t : Expr} {b : List Stmt} {tx : Ex} {bx : List St} {Tt : List Nat → TtF} {XX : List Nat → StF} {pos : Pos} (ok : StOk X) (ht : PT X t (rdT T X.K W fun ms g S => Tt ms tx g S)) (hb : PSs X b (rdS T X.K W fun ms g S => XX ms bx g S)) (n : Nat) :
    PS X (.While t b [] pos) (rdS T X.K W fun ms g S => whlL (Tt ms) (XX ms) tx bx n g S) := by
  refine (ps_while ok.passes ht hb).imp fun D σ H q => ?_
  refine ⟨fun m σ H => rdS T X.K W (fun ms g S => whlL (Tt ms) (XX ms) tx bx m g S) D σ H, ⟨n, q⟩, fun m σ H h => ?_⟩
  obtain ⟨β, ms, g, S, hs, hl, hE, h⟩ := h
  cases m with
  | zero => exact False.elim h
  | succ m =>
    simp only [whlL] at h
    refine rs_intoT (.start hs hl hE) h fun d β1 H1 S1 n1 f1 h1 => ?_
    cases d with
    | false => exact h1 β1 H1 σ n1.fin n1.env
    | true =>
      simp only [if_true] at h1 ⊢
      refine ⟨rdS T X.K W (fun ms g S => whlL (Tt ms) (XX ms) tx bx m g S) D, fun σ' H' q => ⟨m, Nat.lt_succ_self m, q⟩, ?_⟩
      refine ⟨β1, ms, g, S1, n1.st, n1.low, n1.env, ?_⟩
      show GoodS (XX ms bx g S1) _ _
      revert h1
      cases hX : XX ms bx g S1 with
      | bad => intro h1; exact h1
      | exc cc p g2 s2 => intro h1; exact PXS.trans n1.fin h1
      | ok f g2 S2 =>
        intro h1 β2 H2 σ2 f2 e2
        have n2 : Now T X.K ms β H g2 σ2 β2 H2 S2 := ⟨n1.fin.trans f2, e2⟩
        cases f with
        | next => exact rs_last n2 h1
        | cnt => exact rs_last n2 h1
        | brk => exact h1 β2 H2 σ2 n2.fin e2
        | ret d => exact fun x r => h1 β2 H2 σ2 n2.fin e2 x r
end MP

set_option linter.all false
set_option Elab.async false
set_option maxRecDepth 100000
namespace MP
open PySem PySem.Spec PyProof.Rows L2
variable {T : Tab} {X : Cx} {c : Sc} {k : Nat} {W : WX}

/-- a loop, wanted of an iterator -/
def ForB (g : TG) (tb : TS) (D : Ends) (σ : L2.St) (J : It) (H1 : Hp) : Prop := ∃ W : Nat → Nat → L2.St → Hp → Prop, (∃ m, W 0 m σ H1) ∧ ∀ i m σ H, W i m σ H →
  (J.stop i H ∧ D.nx σ H) ∨ (J.go i H ∧ ∃ N : L2.St → Hp → Prop, (∀ σ' H', N σ' H' → ∃ m', m' < m ∧ W (i + 1) m' σ' H') ∧ ∀ x H', J.yld i H x H' → g x σ H' fun σ2 H2 => tb { D with nx := N, ct := N, bk := D.nx } σ2 H2)
theorem for_core {K : PySem.W.Frag} {XX : List Nat → StF} {tg : Pat} {b : List St} {J : It} {l : List D} {ms β0 H0 g σ β1 H1 S1} {P : Fl → GE → Sto → Prop} {E' : Nat → D → GE → Sto → Prop} {D0 : Ends}
    (n1 : Now T K ms β0 H0 g σ β1 H1 S1) (wd : WD T.fa K J l β1 H1) (h : GoodS (forL (XX ms) tg b l g S1) P E')
    (hq : ∀ f g' S' β' H' σ', P f g' S' → Fin T K ms β1 H1 β' H' S' → RepE T.fa K β' H' g' σ' → FlD T.fa K β' H' σ' D0 f)
    (hE : ∀ c p g' S', E' c p g' S' → PXS T K ms β1 H1 W c p g' S') : ForB (gPat K tg) (rdS T K W fun ms g S => XX ms b g S) D0 σ J H1 := by
  refine for_it wd.walk (fun i σ H => ∃ β S g', RepS T.fa K β H S ∧ LowS ms S ∧ Ext β1 H1 β H ∧ RepE T.fa K β H g' σ ∧ GoodS (forL (XX ms) tg b (l.drop i) g' S) P E') ?_ ?_ ?_ ?_
  · exact ⟨β1, S1, g, n1.st, n1.low, .refl _ _, n1.env, by rw [List.drop_zero]; exact h⟩
  · rintro i σ H hi ⟨β, S, g', a, b, e, _⟩
    exact ⟨β, S, a, e⟩
  · rintro i x σ H H' hi ⟨β, S, g', hs, hl, e, env, hg⟩ y
    obtain ⟨hs', e', hr⟩ := y β S hs e
    have hd : l[i]? = some l[i] := List.getElem?_eq_getElem hi
    rw [List.drop_eq_getElem_cons hi] at hg
    simp only [forL] at hg
    split at hg
    · exact False.elim hg
    · rename_i g1 hgs
      refine gPat_run [] tg _ x _ g1 _ _ (env.ext e') (hr _ hd) hgs fun σ1 env1 _ => ?_
      have fin0 : Fin T K ms β1 H1 β H' S := ⟨e.trans hs e', hs', hl⟩
      refine ⟨β, ms, g1, S, hs', hl, env1, ?_⟩
      show GoodS (XX ms b g1 S) _ _
      revert hg
      cases hX : XX ms b g1 S with
      | bad => intro hg; exact hg
      | exc cc p g2 s2 => intro hg; exact PXS.trans fin0 (hE _ _ _ _ hg)
      | ok f g2 S2 =>
        intro hg β2 H2 σ2 f2 e2
        have e3 : Ext β1 H1 β2 H2 := (e.trans hs e').trans hs' f2.ext
        have fin2 : Fin T K ms β1 H1 β2 H2 S2 := fin0.trans f2
        cases f with
        | next => exact ⟨β2, S2, g2, f2.st, f2.low, e3, e2, hg⟩
        | cnt => exact ⟨β2, S2, g2, f2.st, f2.low, e3, e2, hg⟩
        | brk => exact hq .next g2 S2 β2 H2 σ2 hg fin2 e2
        | ret d => exact fun x r => hq (.ret d) g2 S2 β2 H2 σ2 hg fin2 e2 x r
  · rintro σ H ⟨β, S, g', hs, hl, e, env, hg⟩
    rw [List.drop_eq_nil_of_le (Nat.le_refl _)] at hg
    simp only [forL] at hg
    exact hq .next g' S β H σ hg ⟨e, hs, hl⟩ env
theorem tFor_flat {K : PySem.W.Frag} {i : Nat} {g : TG} {tb : TS} {D : Ends} {σ : L2.St} {H : Hp} {v : V} {J : It} (e : σ[i]? = some (some v)) (hgo : GoIt K H v J) (h : ForB g tb D σ J H) :
    tFor (iFlat K fun σ H Q => ∃ v, σ[i]? = some (some v) ∧ Q v H) g tb D σ H := ⟨v, e, go_flat (R := ForB g tb D σ) hgo h⟩
theorem unlock_ok {o : Option Nat} {dk : Bool} {r : RS} {N : Fl → GE → Sto → Prop} {E : Nat → D → GE → Sto → Prop} (h : GoodS (unlockRS o dk r) N E) : GoodS r (fun f g s => N f g (lockAt false o s)) (fun c p g s => (o.isSome || dk) = false ∧ E c p g s) := by
  cases r with
  | ok f g s => exact h
  | exc c p g s =>
    unfold unlockRS at h
    cases ho : (o.isSome || dk) with
    | true => simp only [ho, if_true] at h; exact False.elim h
    | false => simp only [ho] at h; exact ⟨rfl, h⟩
  | bad => exact h
theorem ps_forC {M : MtF} {E : List Nat → EvF} {XX : List Nat → StF} (hE : SE T c k M E) (hM : NoStar M) (hS : NoSet M) (hV : VarOk c M) {sc : Scope} {it : Ex} {tg : Pat} {b : List St} {fp : Nat} {tg' it' : Expr} {b' : List Stmt} {pos : Pos}
    (C : Ctx T c k W X) (ok : StOk X) (hsc : X.env.scope = sc) (h3 : mtIt M sc it tg' it' = true) (h4 : mtPat c sc fp tg tg' = true) (hb : PSs X b' (rdS T X.K W fun ms g S => XX ms b g S)) :
    PS X (.For tg' it' b' [] pos) (rdS T X.K W fun ms g S => (itE (E ms) it g S).st g fun p S1 => unlockRS p.2 (isDV it g) (forL (XX ms) tg b p.1 g (lockAt true p.2 S1))) := by
  have hpg : PG X tg' (gPat X.K tg) := pg_of C.calm C.nd C.names (by rw [← hsc]; exact ok.pat) fp tg tg' h4
  have pf : ∀ {wi : TI}, PI X tg' it' wi → PS X (.For tg' it' b' [] pos) (tFor wi (gPat X.K tg) (rdS T X.K W fun ms g S => XX ms b g S)) := fun {wi} hi => ps_for ok.passes C.calm hi hpg hb (fun x => folded_of (mtIt_set hS h3) x)
  by_cases hv : ∃ i, it = .var i
  · obtain ⟨i, rfl⟩ := hv
    have h3' : M sc (.var i) it' = true := h3
    obtain ⟨y, p, rfl, v1, v2, v3⟩ := hV _ _ _ h3'
    have hpe := pe_nameR (p := p) C hsc v1 v2 v3
    refine ⟨fun pins s σ H D0 I h => ?_⟩
    obtain ⟨β, ms, g, S, hs, hl, he, h⟩ := h
    simp only [itE] at h
    split at h
    · rename_i d eg
      obtain ⟨v, e1, r⟩ := he.2 i d eg
      cases hf : flatV d S with
      | bad => rw [hf] at h; exact False.elim h
      | exc c' p' s' =>
        exfalso
        revert hf
        unfold flatV flatD
        split
        · simp
        · split <;> (try simp) <;> split <;> simp
        · split <;> (try simp) <;> split <;> simp
      | ok lo S1 =>
        obtain ⟨l, o⟩ := lo
        rw [hf] at h
        obtain ⟨rfl, hc⟩ := var_go hs r hf
        have h := unlock_ok (show GoodS (unlockRS o (isDV (.var i) g) (forL (XX ms) tg b l g (lockAt true o S1))) (PN T X.K ms β H D0) (PXS T X.K ms β H W) from h)
        rcases hc with ⟨rfl, J, hgo, wd⟩ | ⟨a, u, hL, hdv', hJ⟩
        · refine (pf (pi_flat hpe)).run pins s σ H D0 I (tFor_flat e1 hgo ?_)
          exact for_core (Now.start hs hl he) wd h (fun f g' S' β' H' σ' q f' e' => q β' H' σ' f' e') fun c p g' S' q => q.2
        · refine (ps_lock (pf (pi_flat hpe))).run pins s σ H D0 I ⟨a, u, hL.1, hL.2.1.mut, fun od => ?_⟩
          obtain ⟨J, hgo, wd⟩ := hJ od
          refine tFor_flat e1 hgo ?_
          have he' : RepE T.fa X.K β (upd H a (.frz od u)) g σ := he.sim (sim_lock hL.1 hL.2.1)
          refine for_core (Now.start (hs.lock hL) (hl.lockAt true o) he') wd h (fun f g' S' β' H' σ' q f' e' => ?_) fun c p g' S' q => ?_
          · obtain ⟨b1, b2⟩ := lock_back hL f'
            have q' := q β' (upd H' a u) σ' b2 (e'.sim (sim_unlock b1 hL.2.1))
            cases f with
            | next => exact ⟨b1, q'⟩
            | brk => exact ⟨b1, q'⟩
            | cnt => exact ⟨b1, q'⟩
            | ret dd => exact fun x r => ⟨b1, q' x (r.sim (sim_unlock b1 hL.2.1))⟩
          · exfalso
            have q1 := q.1
            cases o with
            | some n => simp at q1
            | none =>
              have hdv : isDV (.var i) g = true := by
                obtain ⟨t, ks, vs, rfl⟩ := hdv' rfl
                unfold isDV
                dsimp only
                rw [eg]
              rw [hdv] at q1
              simp at q1
    · exact False.elim h
  · have hv' : ∀ i, it ≠ .var i := fun i e => hv ⟨i, e⟩
    refine (pf (pi_of hE hM h3 hv' C hsc)).imp fun D0 σ H q => ?_
    obtain ⟨β, ms, g, S, hs, hl, he, h⟩ := q
    dsimp only at h
    refine ⟨β, ms, g, S, hs, hl, he, ?_⟩
    have n0 : Now T X.K ms β H g σ β H S := .start hs hl he
    have hn := fun p S' (e : itE (E ms) it g S = .ok p S') => fit_none e hv'
    show GoodE (itE (E ms) it g S) _ _
    revert h hn
    cases itE (E ms) it g S with
    | bad => intro h _; exact h
    | exc c p s => intro h _; exact px_of n0 h
    | ok p S1 =>
      intro h hn
      have e := hn p S1 rfl
      obtain ⟨l, o⟩ := p
      cases e
      have h := unlock_ok (show GoodS (unlockRS none (isDV it g) (forL (XX ms) tg b l g (lockAt true none S1))) (PN T X.K ms β H D0) (PXS T X.K ms β H W) from h)
      refine ⟨rfl, fun β1 H1 J f1 wd => ?_⟩
      exact for_core (n0.next f1) wd h (fun f g' S' β' H' σ' q f' e' => q β' H' σ' (f1.trans f') e') fun c p g' S' q => q.2.trans f1
end MP

set_option linter.all false
set_option Elab.async false
set_option maxRecDepth 100000
namespace MP
open PySem PySem.Spec PyProof.Rows L2
variable {T : Tab} {X : Cx} {c : Sc} {k : Nat} {W : WX}
theorem sw3 {env : PySem.Env} {x y z : Str} {px py pz pt pt2 : Pos} {kt k2 : Nat} {a b d : Expr} (hk : env.scope.kind = .function) (hx : env.scope.names.lookup x = some .local) (hy : env.scope.names.lookup y = some .local) (hz : env.scope.names.lookup z = some .local)
    (l1 : px.line = py.line) (l2 : px.line = pz.line) (n1 : x ≠ y) (n2 : x ≠ z) (n3 : y ≠ z) (sa : isStar a = false) (sb : isStar b = false) (sd : isStar d = false)
    (f1 : ([a, b, d].all (foldedForSure 8)) = false) (f2 : ([a, b, d].all (constantsAlone 8)) = false) :
    swappedStores [.Tuple [.Name x px, .Name y py, .Name z pz] kt pt] (.Tuple [a, b, d] k2 pt2) env = pure (some [x, y, z]) := by
  have hb : env.blockKind = .function := by unfold Env.blockKind; rw [hk]; rfl
  have kx : env.kindOf x = some .local := hx
  have ky : env.kindOf y = some .local := hy
  have kz : env.kindOf z = some .local := hz
  have e2 : ([x, y, z].eraseDups).length = 3 := by
    have h1 : (y == x) = false := by simpa using Ne.symm n1
    have h2 : (z == x) = false := by simpa using Ne.symm n2
    have h3 : (z == y) = false := by simpa using Ne.symm n3
    simp [List.eraseDups_cons, List.filter_cons, h1, h2, h3]
  unfold swappedStores
  dsimp only
  rw [if_neg (by simp [hb])]
  rw [if_neg (by
    intro h
    simp only [List.any_cons, List.any_nil, Bool.or_eq_true] at h
    rcases h with h | h | h | h
    · cases a <;> first | (simp [isStar] at sa; done) | (simp at h; done)
    · cases b <;> first | (simp [isStar] at sb; done) | (simp at h; done)
    · cases d <;> first | (simp [isStar] at sd; done) | (simp at h; done)
    · cases h)]
  have ef : (List.filterMap (fun x_1 => match x_1 with
      | Expr.Name id pos => if (env.kindOf id == some NameKind.local && pos.line == px.line) = true then some id else none
      | x => none) [Expr.Name x px, Expr.Name y py, Expr.Name z pz]) = [x, y, z] := by
    simp [kx, ky, kz, l1.symm, l2.symm]
  first
    | rw [if_neg (by simp [kx, ky, kz, l1.symm, l2.symm, e2, Expr.pos])]
    | skip
  rw [f1, f2]
  simp [kx, ky, kz, l1.symm, l2.symm, Expr.pos]
end MP

set_option linter.all false
set_option Elab.async false
set_option maxRecDepth 100000
namespace MP
open PySem PySem.Spec PyProof.Rows L2
variable {T : Tab} {X : Cx} {c : Sc} {k : Nat} {W : WX}

theorem lkLoc_eq {sc : Scope} {x : Str} (h : lkLoc sc x = true) : sc.names.lookup x = some .local := by
  unfold lkLoc at h
  split at h
  · assumption
  · cases h
/-- name = [..] on one line, as a statement -/
theorem asg_of {i : Nat} {F : List Nat → GE → Sto → R D} {st : Stmt} (h : PS X st (tAsg (rdE T X.K W F) (gName i))) : PS X st (rdS T X.K W fun ms g S => (F ms g S).st g fun d S1 => match asgN (.v i) d g with | some g1 => .ok .next g1 S1 | none => .bad) := by
  refine h.imp fun D σ H q => ?_
  obtain ⟨β, ms, g, S, hs, hl, hE, h⟩ := q
  refine rs_into (.start hs hl hE) h fun d x β1 H1 S1 n1 f1 r1 h1 => ?_
  have h2 : GoodS (.ok .next (setEnv g i d) S1) (PN T X.K ms β H D) (PXS T X.K ms β H W) := by
    have : asgN (.v i) d g = some (setEnv g i d) := by unfold asgN; rfl
    rw [this] at h1
    exact h1
  exact h2 β1 H1 _ n1.fin (n1.env.set r1)
theorem ps_par3C {a b d : Expr} {x y z : Str} {px py pz pt pt2 pos : Pos} {kt k2 : Nat} {i j q : Nat} {F : List Nat → GE → Sto → R (List D)} (C : Ctx T c k W X) (hi : X.N[i]? = some x) (hj : X.N[j]? = some y) (hq : X.N[q]? = some z) (hij : i ≠ j) (hiq : i ≠ q) (hjq : j ≠ q)
    (hx : X.env.scope.names.lookup x = some .local) (hy : X.env.scope.names.lookup y = some .local) (hz : X.env.scope.names.lookup z = some .local) (ha : PA X [a, b, d] (rdA T X.K W F))
    (hw : swappedStores [.Tuple [.Name x px, .Name y py, .Name z pz] kt pt] (.Tuple [a, b, d] k2 pt2) X.env = pure (some [x, y, z])) :
    PS X (.Assign [.Tuple [.Name x px, .Name y py, .Name z pz] kt pt] (.Tuple [a, b, d] k2 pt2) pos) (rdS T X.K W fun ms g S => (F ms g S).st g fun ds S1 => if ds.length = [i, j, q].length then .ok .next (putAll g [i, j, q] ds) S1 else .bad) := by
  refine (ps_par3 C.calm C.nd hi hj hq hij hiq hjq hx hy hz ha hw rfl).imp fun D σ H h => ?_
  obtain ⟨β, ms, g, S, hs, hl, hE, h⟩ := h
  refine rs_intoA (.start hs hl hE) h fun l xs β1 H1 S1 n1 f1 r1 h1 => ?_
  split at h1
  · rename_i hlen
    match l, hlen, r1, h1 with
    | [d1, d2, d3], _, r1, h1 =>
      obtain ⟨u, r, rfl, q1, r2⟩ := r1.uncons
      obtain ⟨v, w, rfl, q2, q3⟩ := rl_two r2
      refine ⟨u, v, w, rfl, ?_⟩
      exact h1 β1 H1 _ n1.fin (((n1.env.set q1).set q2).set q3)
  · exact False.elim h1
/-- the statements but raise and try -/
theorem ss1_step {n : Nat} {sc : Scope} {XX : List Nat → StF} (hX : SS T c k sc (mtS c sc n) XX)
    (hR : ∀ kc e, ∀ (t : Stmt) (W : WX) (X : Cx), mtSStep c sc n (mtE c n) (mtS c sc n) (.raise kc e) t = true → Ctx T c k W X → StOk X → X.env.scope = sc → PS X t (rdS T X.K W fun ms g S => exStep T.prg.sub ms ((evP T.prg.fns.length (callK T.prg k) n).1 ms) ((evP T.prg.fns.length (callK T.prg k) n).2 ms) (XX ms) (.raise kc e) g S))
    (hTr : ∀ b kc i h, ∀ (t : Stmt) (W : WX) (X : Cx), mtSStep c sc n (mtE c n) (mtS c sc n) (.try_ b kc i h) t = true → Ctx T c k W X → StOk X → X.env.scope = sc → PS X t (rdS T X.K W fun ms g S => exStep T.prg.sub ms ((evP T.prg.fns.length (callK T.prg k) n).1 ms) ((evP T.prg.fns.length (callK T.prg k) n).2 ms) (XX ms) (.try_ b kc i h) g S)) :
    SS1 T c k sc (mtSStep c sc n (mtE c n) (mtS c sc n)) (fun ms => exStep T.prg.sub ms ((evP T.prg.fns.length (callK T.prg k) n).1 ms) ((evP T.prg.fns.length (callK T.prg k) n).2 ms) (XX ms)) := by
  intro st t W X h C ok hsc
  have ihE := (se_all (T := T) (c := c) (k := k) n).1
  have ihT := (se_all (T := T) (c := c) (k := k) n).2
  have hM := nostar c n
  have hS := noset c n
  have hV := varok c n
  have hpatok : PatOk X sc := by rw [← hsc]; exact ok.pat
  have h0 := h
  cases st with
  | asg tg e =>
    simp only [mtSStep] at h
    split at h
    · rename_i g v pos
      simp only [Bool.and_eq_true] at h
      obtain ⟨⟨⟨h1, h2⟩, h3⟩, h4⟩ := h
      have ht : swappedStores [g] v X.env = pure none := noSwap_none hsc h2
      have he := ihE sc e v W X h1 C hsc
      cases tg with
      | p p =>
        have hp : mtPat c sc n p g = true := h4
        have hg : PG X g (gPat X.K p) := pg_of C.calm C.nd C.names hpatok n p g hp
        by_cases hcmp : isComp v = false
        · exact ps_asgC he hg (sole_of (swaps_none hcmp)) ht (pat_star hp)
        · -- a comprehension
          cases v with
          | ListComp elt' gs scope pos' =>
            by_cases hname : ∃ y py, g = .Name y py
            · obtain ⟨y, py, rfl⟩ := hname
              -- the name's slot
              cases n with
              | zero => simp [mtE] at h1
              | succ n =>
                cases p with
                | tup l => simp [mtPat] at hp
                | v i =>
                  simp [mtPat] at hp
                  have hy : X.N[i]? = some y := by rw [C.names]; simpa [nm] using hp.1
                  have esw : ∃ bb : Bool, swapsWith (.ListComp elt' gs scope pos') (some (.Name y py)) pos.line X.env = pure bb ∧ (bb = true → X.env.kindOf y = some .local) := by
                    refine ⟨_, rfl, fun hb => ?_⟩
                    simp only [Bool.and_eq_true] at hb
                    simpa using hb.1.1.2
                  obtain ⟨bb, e1, e2⟩ := esw
                  cases bb with
                  | false => exact ps_asgC he hg (sole_of e1) ht rfl
                  | true =>
                    have hyl : X.env.scope.names.lookup y = some .local := e2 rfl
                    cases e with
                    | comp bx elt tg2 it ifs own =>
                      have h1' : mtStep c n (mtE c n) sc (.comp bx elt tg2 it ifs own) (.ListComp elt' gs scope pos') = true := h1
                      simp only [mtStep] at h1'
                      split at h1'
                      · rename_i heq
                        cases heq
                        simp only [Bool.and_eq_true, decide_eq_true_eq] at h1'
                        obtain ⟨⟨⟨⟨⟨⟨⟨⟨z0, z1⟩, z2⟩, z3⟩, z4⟩, z5⟩, z6⟩, z7⟩, z8⟩ := h1'
                        subst z0
                        have ih := se_all (T := T) (c := c) (k := k) n
                        exact asg_of (ps_compC (M := mtE c n) ih.1 ih.2 (nostar c n) (noset c n) (varok c n) C hsc z1 z2 z3 z4 z5 z6 z7 z8 hy hyl e1)
                      · cases h1'
                    | con d => simp [mtE, mtStep] at h1
                    | comp2 bx elt tg2 it ifs tg1 it1 ifs1 own own1 =>
                      obtain ⟨z1, z2, z3, z4, z5, zz⟩ := mtC2_lc (show mtC2 c n (mtE c n) sc elt tg2 it ifs tg1 it1 ifs1 own own1 (.ListComp elt' gs scope pos') = true from h1)
                      cases zz
                      simp at h3
                    | _ => simp [mtE, mtStep] at h1
            · have hsw : swapsWith (.ListComp elt' gs scope pos') (some g) pos.line X.env = pure false := by
                cases g <;> first | rfl | exact absurd ⟨_, _, rfl⟩ hname
              exact ps_asgC he hg (sole_of hsw) ht (pat_star hp)
          | SetComp _ _ _ _ => simp at h3
          | DictComp _ _ _ _ _ => simp at h3
          | _ => exact absurd rfl hcmp
      | sub o i =>
        cases g with
        | Subscript o' i' p' =>
          have h4' : (mtE c n sc o o' && mtE c n sc i i' && noSl i' && !isComp v) = true := h4
          simp only [Bool.and_eq_true] at h4'
          obtain ⟨⟨⟨a1, a2⟩, a3⟩, a4⟩ := h4'
          exact ps_subC C.hu (ihE sc o _ W X a1 C hsc) (ihE sc i _ W X a2 C hsc) he a3 (by simpa using a4)
        | _ => exact absurd h4 Bool.false_ne_true
    · cases h
  | par l es =>
    simp only [mtSStep] at h
    split at h
    · split at h
      · simp only [Bool.and_eq_true, decide_eq_true_eq] at h
        obtain ⟨⟨⟨⟨⟨⟨⟨⟨⟨⟨⟨⟨⟨⟨⟨⟨a1, a2⟩, a3⟩, a4⟩, a5⟩, a6⟩, a7⟩, a8⟩, a9⟩, b1⟩, b2⟩, b3⟩, b4⟩, b5⟩, b6⟩, b7⟩, b8⟩ := h
        have s1 := mtL_star hM b8
        have k1 := lkLoc_eq a4
        have k2 := lkLoc_eq a5
        have k3 := lkLoc_eq a6
        rw [← hsc] at k1 k2 k3
        exact ps_par3C C (by rw [C.names]; simpa [nm] using a1) (by rw [C.names]; simpa [nm] using a2) (by rw [C.names]; simpa [nm] using a3) b5 b6 b7 k1 k2 k3 (pa_of ihE hM es _ b8 C hsc)
          (sw3 ok.kind k1 k2 k3 a7 a8 (by simpa using a9) (by simpa using b1) (by simpa using b2) (s1 _ (by simp)) (s1 _ (by simp)) (s1 _ (by simp)) (by simpa only [Bool.not_eq_true'] using b3) (by simpa only [Bool.not_eq_true'] using b4))
      · cases h
    · cases h
  | aug i op e =>
    simp only [mtSStep] at h
    split at h
    · simp only [Bool.and_eq_true] at h
      obtain ⟨⟨⟨⟨⟨a1, a2⟩, a3⟩, a4⟩, a5⟩, a6⟩ := h
      have e5 := beqO a5
      subst e5
      obtain ⟨l1, l2⟩ := hpatok _ a2
      cases op with
      | add => exact ps_augC C (by rw [C.names]; simpa [nm] using a1) l1 l2 (ihE sc e _ W X a6 C hsc)
      | _ =>
        refine ⟨fun pins s σ H D I q => ?_⟩
        obtain ⟨β, ms, g, S, _, _, _, q⟩ := q
        exact False.elim q
    · cases h
  | ex e =>
    simp only [mtSStep] at h
    split at h
    · simp only [Bool.and_eq_true] at h
      exact ps_exC (ihE sc e _ W X h.1 C hsc) (by simpa using h.2)
    · cases h
  | ret e =>
    simp only [mtSStep] at h
    split at h
    · exact ps_retC (ihE sc e _ W X h C hsc)
    · cases h
  | retn =>
    simp only [mtSStep] at h
    split at h
    · exact ps_retNC
    · cases h
  | ite t a b =>
    simp only [mtSStep] at h
    split at h
    · simp only [Bool.and_eq_true] at h
      exact ps_ifC (ihT sc t _ W X h.1.1 C hsc) (hX a _ W X h.1.2 C ok hsc) (hX b _ W X h.2 C ok hsc)
    · cases h
  | whl t b =>
    simp only [mtSStep] at h
    split at h
    · simp only [Bool.and_eq_true] at h
      exact ps_whileC ok (ihT sc t _ W X h.1 C hsc) (hX b _ W X h.2 C ok hsc) turns
    · cases h
  | for_ tg it b =>
    simp only [mtSStep] at h
    split at h
    · simp only [Bool.and_eq_true] at h
      exact ps_forC ihE hM hS hV C ok hsc h.1.2 h.1.1 (hX b _ W X h.2 C ok hsc)
    · cases h
  | brk =>
    simp only [mtSStep] at h
    split at h
    · exact ps_flC (f := .brk) ps_break (fun D σ H q => q) (by simp)
    · cases h
  | cnt =>
    simp only [mtSStep] at h
    split at h
    · exact ps_flC (f := .cnt) ps_continue (fun D σ H q => q) (by simp)
    · cases h
  | pass =>
    simp only [mtSStep] at h
    split at h
    · exact ps_flC (f := .next) ps_pass (fun D σ H q => q) (by simp)
    · cases h
  | raise kc e => exact hR kc e t W X h0 C ok hsc
  | try_ b kc i hh => exact hTr b kc i hh t W X h0 C ok hsc
end MP

set_option linter.all false
set_option Elab.async false
set_option maxRecDepth 100000
namespace MP
open PySem PySem.Spec PyProof.Rows L2
variable {T : Tab} {X : Cx} {c : Sc} {k : Nat} {W : WX}
theorem ps_raiseC {n : Nat} {sc : Scope} {F : List Nat → GE → Sto → R D} {a : Expr} {y : Str} {kc : Nat} {p pos pos2 : Pos} (C : Ctx T c k W X) (hsc : X.env.scope = sc)
    (h1 : isGl sc y = true) (h2 : okN y = true) (h3 : c.gc.lookup y = some kc) (ha : PE X a (rdE T X.K W F)) (hs : isStar a = false) :
    PS X (.Raise (some (.Call (.Name y p) [a] [] pos)) none pos2) (rdS T X.K W fun ms g S => (F ms g S).st g fun d S1 => .exc kc d g S1) := by
  have L := C.errl
  have e1 := L.gc y kc h3
  obtain ⟨e2, fI, e3⟩ := L.err kc
  have hdb : (y == ("__debug__" : Str)) = false := by
    have := h2
    simp [okN] at this
    simpa using this.1
  refine (ps_raise C.calm C.takes (pmk_err e3 e1 L.sup C.room (pa_cons ha pa_nil (star_no hs _ _)) (isGl_gl hsc h1) hdb (star_no hs _ _) rfl)).imp fun D σ H h => ?_
  obtain ⟨β, ms, g, S, hs, hl, hE, h⟩ := h
  refine rs_into (.start hs hl hE) h fun d x β1 H1 S1 n1 f1 r1 h1 => ⟨x, rfl, fun dx hd => ?_⟩
  have f2 := Fin.new (T := T) (o := .xd [(("reason" : Str), x)]) n1.st n1.low hd
  refine h1 β1 _ σ dx x (n1.fin.trans f2) (n1.env.ext f2.ext) (r1.ext f2.ext) ?_
  rw [e2]
  exact upd_same
theorem _root_.PySem.ErrX.ErrTxt.xf {P : Program} {K : PySem.W.Frag} {C fI : Addr} (E : PySem.ErrX.ErrTxt P K C fI) : XfC K C := ⟨E.ga, E.gg, E.exC, E.hdC⟩
def tFld (T : Tab) (K : PySem.W.Frag) (i : Nat) (a : Addr) (cls : Value) (d : Option Addr) : TS := fun D σ H =>
  ∃ kc dd v, cls = .ref (T.ca kc) ∧ d = some dd ∧ H dd = some (.xd [(T.fld kc, v)]) ∧ (i < σ.length → σ[i]? = some (some (.ref a))) ∧ D.rt v H
theorem ps_fld {y : Str} {i : Nat} {p pos pos2 : Pos} {a : Addr} {oe : Obj} {cls : Value} {d : Option Addr} {pn : List (Addr × Obj)} (L : ErrL T X.prog X.K X.mg c) (hi : X.N[i]? = some y) (hv : Vis X.env.scope y) (h1 : (y == ("__debug__" : Str)) = false) (h2 : (y == ("__classdict__" : Str)) = false)
    (hz : Zc cls d oe) (hf : ∃ vs, oe.data = Data.fields vs) (hb : attributeBase (.Name y p) "reason" X.env (eval (.Name y p) X.env) = eval (.Name y p) X.env) :
    PSs (X.suite a ((a, oe) :: pn)) [.Return (some (.Attribute (.Name y p) "reason" pos)) pos2] (tFld T X.K i a cls d) := by
  refine ⟨fun pins s σ H D I q => ?_⟩
  obtain ⟨kc, dd, v, e1, e2, e3, e4, e5⟩ := q
  obtain ⟨f1, fI, f2⟩ := L.err kc
  refine (pss_one (ps_ret (pe_xf (X := X) (C := T.ca kc) (te := tVar i) f2.xf f2.noN hz hf (pv (X := X.suite a ((a, oe) :: pn)) i hi hv h1 h2) hb))).run pins s σ H D I ?_
  have hil : i < σ.length := by
    rw [I.len]
    exact (List.getElem?_eq_some_iff.mp hi).1
  refine ⟨_, e4 hil, rfl, e1, dd, _, v, e2, e3, ?_, e5⟩
  rw [f1]
  simp [List.lookup]

theorem pe_conL {d : D} {e : Expr} {sc : Scope} {fp : Nat} {M : MtF} (L : Link T X.K X.mg c) (hsc : X.env.scope = sc) (h : mtStep c fp M sc (.con d) e = true) : PE X e (rdE T X.K W fun _ _ S => .ok d S) := by
  cases e with
  | Constant kc n p =>
    cases kc with
    | none => cases d <;> simp [mtStep] at h; exact pe_non.imp fun σ H Q q => rd_con (fun _ _ => rep_non) q
    | bool b => cases d <;> simp [mtStep] at h; subst h; exact pe_bl.imp fun σ H Q q => rd_con (fun _ _ => rep_bl _) q
    | int b => cases d <;> simp [mtStep] at h; subst h; exact pe_int.imp fun σ H Q q => rd_con (fun _ _ => rep_int _) q
    | str b => cases d <;> simp [mtStep] at h; subst h; exact pe_str.imp fun σ H Q q => rd_con (fun _ _ => rep_str _) q
    | _ => cases d <;> simp [mtStep] at h
  | Name y p =>
    cases d with
    | int i =>
      simp [mtStep, okN] at h
      obtain ⟨t, hm⟩ := L.gi y i h.2
      exact (pe_glob (v := .int i) (isGl_gl hsc h.1.1) hm ⟨t, rfl⟩ (by simpa using h.1.2.1)).imp fun σ H Q q => rd_con (fun _ _ => rep_int _) q
    | fn f =>
      simp [mtStep, okN] at h
      exact (pe_glob (v := .ref (T.fa f)) (isGl_gl hsc h.1.1) (L.gf y f h.2) rfl (by simpa using h.1.2.1)).imp fun σ H Q q => rd_con (fun _ _ => rep_fn _) q
    | _ => simp [mtStep] at h
  | _ => simp [mtStep] at h
/-- what a try does with what came out of its body -/
def tryR (sub : Nat → Nat → Bool) (kc i : Nat) (h : Hx) (r : RS) : RS := match r with
    | .exc c' p g1 S1 => if sub c' kc then (match h with
        | .fld => .ok (.ret p) (g1.set i none) S1
        | .con d => .ok (.ret d) (g1.set i none) S1) else .exc c' p g1 S1
    | z => z
/-- the reading of the suite: what the clause returns -/
def tHx (T : Tab) (K : PySem.W.Frag) (i : Nat) (h : Hx) (a : Addr) (cls : Value) (d : Option Addr) : TS := match h with
  | .fld => tFld T K i a cls d
  | .con dd => tRet (rdE T K (fun _ _ _ _ => False) fun _ _ S => .ok dd S)
theorem ps_tryC {n : Nat} {sc : Scope} {XX : List Nat → GE → Sto → RS} {b' : List Stmt} {hh : Stmt} {hx : Hx} {y nn : Str} {kc i : Nat} {np pos pos' : Pos} (C : Ctx T c k W X) (hsc : X.env.scope = sc) (ok : StOk X)
    (h1 : isGl sc y = true) (h2 : okN y = true) (h3 : c.gc.lookup y = some kc) (hi : X.N[i]? = some nn) (hloc : X.env.scope.names.lookup nn = some .local)
    (hB : ∀ (W' : WX) (pn : List (Addr × Obj)) (xe : Value → Shared → Prop), Ctx T c k W' (X.tr pn xe) → StOk (X.tr pn xe) → PSs (X.tr pn xe) b' (rdS T X.K W' fun ms g S => XX ms g S))
    (hH : ∀ (a : Addr) (oe : Obj) (cls : Value) (d : Option Addr) (pn : List (Addr × Obj)), Zc cls d oe → (∃ vs, oe.data = Data.fields vs) → PSs (X.suite a ((a, oe) :: pn)) [hh] (tHx T X.K i hx a cls d)) :
    PS X (.Try b' [.ExceptHandler (some (.Name y np)) (some nn) [hh] pos'] [] [] pos) (rdS T X.K W fun ms g S => tryR T.prg.sub kc i hx (XX ms g S)) := by
  have L := C.errl
  have e1 := L.gc y kc h3
  have hdb : (y == ("__debug__" : Str)) = false := by
    have := h2
    simp [okN] at this
    simpa using this.1
  refine (ps_try_as (X := X) (i := i) (tb := fun W' => rdS T X.K W' fun ms g S => XX ms g S) (ts := tHx T X.K i hx) (Wout := W) ok.stk ok.frm C.nd hi (ok.loc _ hloc) ⟨isGl_gl hsc h1, hdb, Or.inl e1⟩ C.takes
    (fun W' pn xe tk po => hB W' pn xe ⟨C.calm, C.nd, C.names, C.room, C.guards, tk, C.link, C.fns, C.errl⟩ ⟨po, ok.pat, ok.loc, ok.kind, ok.stk, ok.frm⟩) hH).imp fun D σ H h => ?_
  obtain ⟨β, ms, g, S, hs, hl, hE, h⟩ := h
  refine ⟨β, ms, g, S, hs, hl, hE, ?_⟩
  unfold tryR at h
  dsimp only at h ⊢
  cases hr : XX ms g S with
  | ok f g1 S1 => rw [hr] at h; exact h
  | bad => rw [hr] at h; exact h.elim
  | exc c' p g1 S1 =>
    rw [hr] at h
    intro β' H' σ' dx v f' e' r' hx'
    refine ⟨T.prg.sub c' kc, L.exm y kc c' h3, fun hb a ha => ?_, fun hb => ?_⟩
    · dsimp only at h
      rw [if_pos hb] at h
      cases hx with
      | fld =>
        refine ⟨c', dx, v, rfl, rfl, hx', ?_, ?_⟩
        · intro hil
          simp at hil
          rw [List.getElem?_set_self hil]
        · exact h β' H' _ f' (e'.setN (o := none)) v r'
      | con d =>
        refine ⟨β', ms, g1.set i none, S1, f'.st, f'.low, e'.setN, ?_⟩
        exact fun β2 H2 x f2 r2 => h β2 H2 _ (f'.trans f2) ((e'.setN (o := none)).ext f2.ext) x r2
    · dsimp only at h
      rw [hb, if_neg Bool.false_ne_true] at h
      exact h β' H' σ' dx v f' e' r' hx'
end MP

set_option linter.all false
set_option Elab.async false
set_option maxRecDepth 100000
namespace MP
open PySem PySem.Spec PyProof.Rows L2
variable {T : Tab} {c : Sc} {k : Nat}
theorem vis_loc {sc : Scope} {x : Str} (h : sc.names.lookup x = some .local) : Vis sc x := by
  unfold Vis
  rw [h]
  simp
theorem ss_step {n : Nat} {sc : Scope} {XX : List Nat → StF} (hX : SS T c k sc (mtS c sc n) XX) :
    SS1 T c k sc (mtSStep c sc n (mtE c n) (mtS c sc n)) (fun ms => exStep T.prg.sub ms ((evP T.prg.fns.length (callK T.prg k) n).1 ms) ((evP T.prg.fns.length (callK T.prg k) n).2 ms) (XX ms)) := by
  refine ss1_step hX ?_ ?_
  · intro kc e t W X h C ok hsc
    simp only [mtSStep] at h
    split at h
    · rename_i y p a pos pos2
      simp only [Bool.and_eq_true, decide_eq_true_eq] at h
      obtain ⟨⟨⟨h1, h2⟩, h3⟩, h4⟩ := h
      exact ps_raiseC (n := n) C hsc h1 h2 h3 ((se_all n).1 sc e a W X h4 C hsc) (nostar c n sc e a h4)
    · cases h
  · intro b kc i hh t W X h C ok hsc
    simp only [mtSStep] at h
    split at h
    · rename_i b' y np nn h' pos' pos
      simp only [Bool.and_eq_true, decide_eq_true_eq] at h
      obtain ⟨⟨⟨⟨⟨⟨⟨h1, h2⟩, h3⟩, h4⟩, h5⟩, hok⟩, h6⟩, h7⟩ := h
      simp [okN] at hok
      have hi : X.N[i]? = some nn := by
        rw [C.names]
        simpa [nm] using h5
      have hloc : X.env.scope.names.lookup nn = some .local := by
        rw [hsc]
        revert h6
        cases sc.names.lookup nn with
        | none => intro h6; cases h6
        | some v => cases v <;> intro h6 <;> first | rfl | cases h6
      have hB : ∀ (W' : WX) (pn : List (Addr × Obj)) (xe : Value → Shared → Prop), Ctx T c k W' (X.tr pn xe) → StOk (X.tr pn xe) → PSs (X.tr pn xe) b' (rdS T X.K W' fun ms g S => XX ms b g S) := fun W' pn xe C' ok' => hX b b' W' (X.tr pn xe) h1 C' ok' hsc
      cases hh with
      | fld =>
        dsimp only at h7
        split at h7
        · rename_i m p3 a p4 p5
          simp only [Bool.and_eq_true, beq_iff_eq] at h7
          obtain ⟨rfl, rfl⟩ := h7
          exact ps_tryC (n := n) (XX := fun ms g S => XX ms b g S) (hx := .fld) C hsc ok h2 h3 h4 hi hloc hB fun a oe cls d pn hz hf => ps_fld C.errl hi (vis_loc hloc) (by simpa using hok.1) (by simpa using hok.2) hz hf rfl
        · cases h7
      | con d =>
        dsimp only at h7
        split at h7
        · rename_i v p5
          refine ps_tryC (n := n) (XX := fun ms g S => XX ms b g S) (hx := .con d) C hsc ok h2 h3 h4 hi hloc hB fun a oe cls d2 pn hz hf => ?_
          cases n with
          | zero => cases h7
          | succ n' => exact pss_one (ps_ret (pe_conL (X := X.suite a ((a, oe) :: pn)) (W := fun _ _ _ _ => False) (sc := sc) C.link hsc h7))
        · cases h7
    · cases h
/-- all suites -/
theorem ss_all (sc : Scope) : ∀ n, SS T c k sc (mtS c sc n) (fun ms => exP T.prg.sub T.prg.fns.length (callK T.prg k) ms n)
  | 0 => fun l es W X h C ok hsc => by cases h
  | n + 1 => ss_of (ss_step (ss_all sc n))
end MP

set_option linter.all false
set_option Elab.async false
set_option maxRecDepth 100000
namespace MP
open PySem L2
section
variable {fa : Nat → Addr} {K : PySem.W.Frag} {β : List Addr} {H : Hp} {S : Sto} {m : Nat}
theorem ub_keyD {n : Nat} {d d' : D} {k : Key} (h : unbox m S n d = some d') (e : keyD d = some k) : keyD d' = some k := by
  cases n with
  | zero => cases h
  | succ n =>
    cases d <;> first | (cases e; done) | (unfold unbox at h; cases h; exact e)
theorem mapM_cons {α γ : Type} {f : α → Option γ} {a : α} {l : List α} {r : List γ} (h : (a :: l).mapM f = some r) : ∃ b t, r = b :: t ∧ f a = some b ∧ l.mapM f = some t := by
  rw [List.mapM_cons] at h
  cases e : f a with
  | none => rw [e] at h; cases h
  | some b =>
    rw [e] at h
    cases e2 : l.mapM f with
    | none => rw [e2] at h; cases h
    | some t => rw [e2] at h; cases h; exact ⟨b, t, rfl, rfl, rfl⟩
theorem ub_keyDs {n : Nat} : ∀ {l l' : List D} {k : List Key}, l.mapM (unbox m S n) = some l' → keyDs l = some k → keyDs l' = some k
  | [], l', k, h, e => by
    rw [List.mapM_nil] at h; cases h; exact e
  | d :: l, l', k, h, e => by
    obtain ⟨b, t, rfl, h1, h2⟩ := mapM_cons h
    unfold keyDs at e ⊢
    cases e1 : keyD d with
    | none => rw [e1] at e; cases e
    | some a =>
      rw [e1] at e
      cases e2 : keyDs l with
      | none => rw [e2] at e; cases e
      | some r =>
        rw [e2] at e
        cases e
        rw [ub_keyD h1 e1, ub_keyDs h2 e2]
theorem ub_keyT {n : Nat} {d d' : D} {k : List Key} (h : unbox m S n d = some d') (e : keyT d = some k) : keyT d' = some k := by
  cases n with
  | zero => cases h
  | succ n =>
    cases d with
    | tup l =>
      unfold unbox at h
      cases e2 : l.mapM (unbox m S n) with
      | none => simp only [e2] at h; cases h
      | some t =>
        simp only [e2] at h
        cases h
        exact ub_keyDs e2 e
    | _ => cases e
theorem ub_keys {γ : Type} {f : D → Option γ} {n : Nat} (hf : ∀ d d' k, unbox m S n d = some d' → f d = some k → f d' = some k) : ∀ {l l' : List D} {kk : List γ}, l.mapM (unbox m S n) = some l' → l.map f = kk.map some → l'.map f = kk.map some
  | [], l', kk, h, e => by rw [List.mapM_nil] at h; cases h; exact e
  | d :: l, l', [], h, e => by cases e
  | d :: l, l', k :: kk, h, e => by
    obtain ⟨b, t, rfl, h1, h2⟩ := mapM_cons h
    simp only [List.map_cons, List.cons.injEq] at e ⊢
    exact ⟨hf _ _ _ h1 e.1, ub_keys hf h2 e.2⟩
theorem nmem_take {β : List Addr} (nd : β.Nodup) {j : Nat} {a : Addr} (h : β[j]? = some a) (hj : ¬ j < m) : a ∉ β.take m := by
  intro hm
  obtain ⟨i, hi, e⟩ := List.getElem_of_mem hm
  have hi' : i < m ∧ i < β.length := by
    have h0 : i < min m β.length := by simpa using hi
    omega
  obtain ⟨hjl, ej⟩ := List.getElem?_eq_some_iff.mp h
  rw [List.getElem_take] at e
  have := (List.getElem_inj nd).mp (e.trans ej.symm)
  omega
theorem repL_of (n : Nat) (ih : ∀ d d' x, unbox m S n d = some d' → RepD fa K β H d x → RepD fa K (β.take m) H d' x) : ∀ {l l' : List D} {xs : List V}, l.mapM (unbox m S n) = some l' → RepL fa K β H l xs → RepL fa K (β.take m) H l' xs
  | [], l', xs, h, r => by
    rw [List.mapM_nil] at h; cases h
    unfold RepL at r ⊢; exact r
  | d :: l, l', xs, h, r => by
    obtain ⟨b, t, rfl, h1, h2⟩ := mapM_cons h
    obtain ⟨x, rr, rfl, r1, r2⟩ := r.uncons
    exact .cons (ih _ _ _ h1 r1) (repL_of n ih h2 r2)
theorem rep_unbox (hs : RepS fa K β H S) : ∀ (n : Nat) (d d' : D) (x : V), unbox m S n d = some d' → RepD fa K β H d x → RepD fa K (β.take m) H d' x
  | 0, _, _, _, h, _ => by cases h
  | n + 1, d, d', x, h, r => by
    have ih := rep_unbox hs n
    have nt : ∀ {p : Addr}, p ∉ β → p ∉ β.take m := fun hp hm => hp (List.mem_of_mem_take hm)
    cases d with
    | ref k =>
      unfold unbox at h
      unfold RepD at r
      obtain ⟨a, ha, rfl⟩ := r
      dsimp only at h
      split at h
      · rename_i hk
        cases h
        unfold RepD
        exact ⟨a, by rw [List.getElem?_take_of_lt hk]; exact ha, rfl⟩
      · rename_i hk
        have hn := nmem_take hs.nd ha hk
        split at h
        · rename_i lk l e
          cases e2 : l.mapM (unbox m S n) with
          | none => rw [e2] at h; cases h
          | some t =>
            rw [e2] at h; cases h
            obtain ⟨xs, h1, h2⟩ := hs.at_ k a _ ha e
            unfold RepD
            exact ⟨a, xs, rfl, .inl ⟨h1.rd, hn⟩, repL_of n ih e2 h2⟩
        · rename_i lk t l e
          split at h
          · rename_i ks vs e1 e2
            cases h
            obtain ⟨us, h1, h2⟩ := hs.at_ k a _ ha e
            unfold RepD
            refine ⟨a, us, rfl, repL_of n ih e2 h1, ?_⟩
            have hl := h1.length
            simp at hl
            cases t
            · obtain ⟨kk, q1, q2⟩ := h2
              refine ⟨kk, ub_keys (fun _ _ _ => ub_keyD) e1 q1, ⟨q2.rd, hn⟩, ?_⟩
              have := congrArg List.length q1
              simp at this
              omega
            · obtain ⟨kk, q1, q2⟩ := h2
              refine ⟨kk, ub_keys (fun _ _ _ => ub_keyT) e1 q1, ⟨q2.rd, hn⟩, ?_⟩
              have := congrArg List.length q1
              simp at this
              omega
          · cases h
        · cases h
    | tup l =>
      unfold unbox at h
      cases e2 : l.mapM (unbox m S n) with
      | none => simp only [e2] at h; cases h
      | some t =>
        simp only [e2] at h; cases h
        unfold RepD at r ⊢
        obtain ⟨p, xs, rfl, h1, h2⟩ := r
        exact ⟨p, xs, rfl, ⟨h1.1, nt h1.2⟩, repL_of n ih e2 h2⟩
    | xtp l =>
      unfold unbox at h
      cases e2 : l.mapM (unbox m S n) with
      | none => simp only [e2] at h; cases h
      | some t =>
        simp only [e2] at h; cases h
        unfold RepD at r ⊢
        obtain ⟨p, xs, o, rfl, h1, h2, h3, h4⟩ := r
        exact ⟨p, xs, o, rfl, h1, h2, nt h3, repL_of n ih e2 h4⟩
    | lst l =>
      unfold unbox at h
      cases e2 : l.mapM (unbox m S n) with
      | none => simp only [e2] at h; cases h
      | some t =>
        simp only [e2] at h; cases h
        unfold RepD at r ⊢
        obtain ⟨p, xs, rfl, h1, h2⟩ := r
        refine ⟨p, xs, rfl, ?_, repL_of n ih e2 h2⟩
        rcases h1 with ⟨h, hb⟩ | h
        · exact .inl ⟨h, nt hb⟩
        · exact .inr h
    | dct t ks vs =>
      unfold unbox at h
      dsimp only at h
      split at h
      · rename_i ks' vs' e1 e2
        cases h
        unfold RepD at r ⊢
        obtain ⟨p, us, rfl, h1, h2⟩ := r
        refine ⟨p, us, rfl, repL_of n ih e2 h1, ?_⟩
        cases t
        · obtain ⟨kk, q1, q2, q3⟩ := h2
          exact ⟨kk, ub_keys (fun _ _ _ => ub_keyD) e1 q1, ⟨q2.1, nt q2.2⟩, q3⟩
        · obtain ⟨kk, q1, q2, q3⟩ := h2
          exact ⟨kk, ub_keys (fun _ _ _ => ub_keyT) e1 q1, ⟨q2.1, nt q2.2⟩, q3⟩
      · cases h
    | non => unfold unbox at h; cases h; unfold RepD at r ⊢; exact r
    | bl _ => unfold unbox at h; cases h; unfold RepD at r ⊢; exact r
    | int _ => unfold unbox at h; cases h; unfold RepD at r ⊢; exact r
    | str _ => unfold unbox at h; cases h; unfold RepD at r ⊢; exact r
    | fn _ => unfold unbox at h; cases h; unfold RepD at r ⊢; exact r
end
end MP

set_option linter.all false
set_option Elab.async false
set_option maxRecDepth 100000
namespace MP
open PySem PySem.Spec PyProof.Rows L2
variable {T : Tab} {c : Sc} {k : Nat} {K : PySem.W.Frag}
/-- back out of a clean def -/
theorem Fin.back {ms : List Nat} {β : List Addr} {H : Hp} {S : Sto} {β' : List Addr} {H' : Hp} {S' : Sto} (hs : RepS T.fa K β H S) (hl : LowS ms S) (f : Fin T K (S.length :: ms) β H β' H' S') :
    Fin T K ms β H (β'.take S.length) H' (S'.take S.length) := by
  have hb : β'.take S.length = β := by
    obtain ⟨t, rfl, _⟩ := f.ext.pre
    rw [← hs.len, List.take_left']
    rfl
  have hS : S.length ≤ S'.length := by
    obtain ⟨t, rfl, _⟩ := f.ext.pre
    have := f.st.len
    rw [← hs.len, ← this]
    simp
  refine ⟨⟨⟨[], by rw [hb]; simp, by simp⟩, f.ext.keep, f.ext.frz⟩, f.st.take f.low List.mem_cons_self, ?_⟩
  exact LowS.take (fun x hx => f.low x (List.mem_cons_of_mem _ hx)) (fun x hx => (hl x hx).1) hS
theorem good_finish {ms : List Nat} {β : List Addr} {H : Hp} {S : Sto} {Q : VK} {E : XK} {r : RS} (hs : RepS T.fa K β H S) (hl : LowS ms S)
    (h : GoodE (finish S.length r) (PV T K ms β H Q) (PX T K ms β H E)) :
    GoodS r (PN T K (S.length :: ms) β H { nx := fun _ H' => Q .non H', rt := Q }) (PXS T K (S.length :: ms) β H fun cls d _ H' => E cls d H') := by
  cases r with
  | bad => exact h
  | exc c p g S' =>
    intro β' H' σ' dx v f e r hx
    unfold finish at h
    dsimp only at h
    split at h
    · rename_i v' hu
      exact h _ H' dx v (f.back hs hl) (rep_unbox f.st _ _ _ _ hu r) hx
    · exact h.elim
  | ok fl g S' =>
    unfold finish at h
    cases fl with
    | next =>
      intro β' H' σ' f e
      exact h _ H' .non (f.back hs hl) (by unfold RepD; rfl)
    | ret d =>
      intro β' H' σ' f e x r
      dsimp only at h
      split at h
      · rename_i v' hu
        exact h _ H' x (f.back hs hl) (rep_unbox f.st _ _ _ _ hu r)
      · exact h.elim
    | brk => exact h.elim
    | cnt => exact h.elim
theorem good_finishI {ms : List Nat} {β : List Addr} {H : Hp} {Q : VK} {E : XK} {r : RS}
    (h : GoodE (finishI r) (PV T K ms β H Q) (PX T K ms β H E)) :
    GoodS r (PN T K ms β H { nx := fun _ H' => Q .non H', rt := Q }) (PXS T K ms β H fun cls d _ H' => E cls d H') := by
  cases r with
  | bad => exact h
  | exc c p g S' =>
    intro β' H' σ' dx v f e r hx
    exact h _ H' dx v f r hx
  | ok fl g S' =>
    cases fl with
    | next =>
      intro β' H' σ' f e
      exact h _ H' .non f (by unfold RepD; rfl)
    | ret d =>
      intro β' H' σ' f e x r
      exact h _ H' x f r
    | brk => exact h.elim
    | cnt => exact h.elim
/-- the slots at the start -/
theorem repE_start {β : List Addr} {H : Hp} : ∀ {N : List Str} {args : List D} {vs : List V}, RepL T.fa K β H args vs → args.length ≤ N.length → RepE T.fa K β H (args.map some ++ List.replicate (N.length - args.length) none) (start N vs) := by
  intro N args vs r hl
  have e := r.length
  refine ⟨by unfold L2.start; simp [e], fun i d h => ?_⟩
  unfold L2.start
  by_cases hi : i < args.length
  · rw [List.getElem?_append_left (by simpa using hi), List.getElem?_map] at h
    have h2 : args[i]? = some d := by
      cases q : args[i]? with
      | none => rw [q] at h; cases h
      | some z => rw [q] at h; simpa using h
    obtain ⟨x, h3, h4⟩ := r.get h2
    refine ⟨x, ?_, h4⟩
    rw [List.getElem?_append_left (by simpa [← e] using hi), List.getElem?_map, h3]
    rfl
  · rw [List.getElem?_append_right (by simpa using hi), List.getElem?_replicate] at h
    split at h <;> cases h
/-- what is known of def f -/
structure DefOk (T : Tab) (P : Program) (K : PySem.W.Frag) (mg : Str → Option Value) (f : Nat) (i : FnI) : Prop where
  keep : PySem.W.keepIn K (.ref (T.fa f)) = true
  ex : ∃ (c : Sc) (name qual : Str) (params : Arguments) (body : List Stmt) (scope : Scope) (dV kV doc pm cdv ct oc : Value) (an od : Option Addr) (osl : Array (Option Value)) (ps : List Str),
    K.lookup (T.fa f) = some ⟨oc, od, .func (PySem.W.fnOf name qual params body scope dV kV doc pm an cdv ct), osl⟩ ∧ PySem.W.codeIn K cdv qual = true ∧ FnScope c.N ps scope ∧
    Binds K (PySem.W.fnOf name qual params body scope dV kV doc pm an cdv ct) ps [] ∧ ps.length = i.ar ∧ c.N.length = i.nloc ∧ i.ar ≤ i.nloc ∧ mtS c scope fuel i.body body = true ∧ Link T K mg c ∧ ErrL T P K mg c
theorem fns_all {P : Program} {w : World} {mg : Str → Option Value} (hD : ∀ f i, T.prg.fns[f]? = some i → DefOk T P K mg f i) : ∀ (k f : Nat) (i : FnI), T.prg.fns[f]? = some i →
    ∃ fd ps, (∀ base : Heap, FnG P w K mg base k (T.fa f) fd ps (spF T K k f)) ∧ PySem.W.keepIn K (.ref (T.fa f)) = true ∧ Binds K fd ps []
  | 0, f, i, hf => by
    have D := hD f i hf
    obtain ⟨c, name, qual, params, body, scope, dV, kV, doc, pm, cdv, ct, oc, an, od, osl, ps, lk, hcd, S, hb, h1, h2, h3, h4, h5, h6⟩ := D.ex
    refine ⟨_, ps, fun base => ⟨fun vs H Q E h => ?_, fun A outer s H args us vs Q E _ _ _ _ _ h => ?_⟩, D.keep, hb⟩
    · obtain ⟨β, ms, S', args, i', _, _, _, _, _, q⟩ := h
      exact q.elim
    · obtain ⟨β, ms, S', args, i', _, _, _, _, _, q⟩ := h
      exact q.elim
  | k + 1, f, i, hf => by
    have ih := fns_all (w := w) hD k
    have D := hD f i hf
    obtain ⟨c, name, qual, params, body, scope, dV, kV, doc, pm, cdv, ct, oc, an, od, osl, ps, lk, hcd, S, hb, h1, h2, h3, h4, h5, h6⟩ := D.ex
    refine ⟨_, ps, fun base => fnG_of lk hcd S (fun vs H Q E h => ?_) (fun A outer s H vs Q E hgu hr h => ?_), D.keep, hb⟩
    · obtain ⟨β, ms, S', args, i', _, _, q1, q2, q3, _⟩ := h
      rw [hf] at q2
      cases q2
      rw [← q1.length, q3, h1]
    · obtain ⟨β, ms, S', args, i', q1, q2, q3, q4, q5, q6⟩ := h
      rw [hf] at q4
      cases q4
      have hst := repE_start (N := c.N) q3 (by rw [q5, h2]; exact h3)
      rw [q5, h2] at hst
      have C : Ctx T c k (fun cls d _ H => E cls d H) (cxOf (L2.CX P w) P w K mg base c.N qual scope (T.fa f) cdv A outer s H E) :=
        ⟨rfl, S.nd, rfl, hr, hgu, takes_of rfl rfl rfl rfl, h5, fun f i e => (ih f i e).imp fun fd => Exists.imp fun ps q => ⟨q.1 base, q.2⟩, h6⟩
      have ok : StOk (cxOf (L2.CX P w) P w K mg base c.N qual scope (T.fa f) cdv A outer s H E) :=
        ⟨PassesOwn.leaving, fun x hx => ⟨?_, Or.inl rfl⟩, fun x hx => ?_, S.kind, rfl, rfl⟩
      · refine ⟨_, ss_all scope fuel i.body body _ _ h4 C ok rfl, ?_⟩
        unfold callK at q6
        rw [hf] at q6
        dsimp only at q6
        rw [if_pos q5] at q6
        split at q6
        · exact ⟨β, S'.length :: ms, _, S', q1, q1.low q2, hst, good_finish q1 q2 q6⟩
        · exact ⟨β, ms, _, S', q1, q2, hst, good_finishI q6⟩
      · have hx' : isLoc scope x = true := hx
        unfold isLoc at hx'
        show L2.Loc scope x
        unfold L2.Loc
        split at hx' <;> simp_all
      · have hx' : scope.names.lookup x = some .local := hx
        show (envOfC qual scope s.heap.objs.size (T.fa f) cdv).kindOf x = some .local
        exact hx'
end MP

set_option linter.all false
set_option Elab.async false
set_option maxRecDepth 100000
namespace MP
open PySem PySem.Spec PyProof.Rows L2
/-- what the law's call must end in -/
abbrev Ends1 (s₁ : Shared) : Result → Shared → Prop := fun r s' => r = .ok (.ret (.bool true)) ∧ OldK s₁.heap s'.heap ∧ s'.os = s₁.os ∧ AllBare s'.gens
/-- a heap of ours at the law's call: tracked is at most the object at a, which the written part does not hold -/
structure AtCall (P : Program) (w : World) (K : PySem.W.Frag) (H : Hp) (a : Addr) (h : Heap) : Prop where
  one : ∀ b u, H b = some u → b = a ∧ K.lookup a = none ∧ ∃ o xs, u = .frz o (.lst xs)
  ok : HOk P w H h
theorem AtCall.only {P w K H a h} (c : AtCall P w K H a h) : Only H := fun b => by
  cases e : H b with
  | none => exact .inl rfl
  | some u =>
    obtain ⟨_, _, o, xs, rfl⟩ := c.one b u e
    exact .inr ⟨o, xs, rfl⟩
/-- an object that is no list is not tracked -/
theorem AtCall.off {P w K H a h} (c : AtCall P w K H a h) {vs : Array Value} (ha : h.get? a = some { cls := .type "list", data := .seq vs }) {b : Addr} {o : Obj} (hb : h.get? b = some o) (hd : ∀ xs, o.data ≠ .seq xs) : H b = none := by
  cases e : H b with
  | none => rfl
  | some u =>
    obtain ⟨rfl, _⟩ := c.one b u e
    rw [ha] at hb
    cases hb
    exact absurd rfl (hd vs)
theorem AtCall.ns {P w K H a h} (c : AtCall P w K H a h) {vs : Array Value} (ha : h.get? a = some { cls := .type "list", data := .seq vs }) {b : Addr} {m : Str → Option Value} (q : h.Ns b m) : (hidT h H).Ns b m := by
  obtain ⟨o, es, ep, h1, h2, h3⟩ := q
  refine ⟨o, es, ep, hidT_get h1 (c.off ha h1 fun xs e => ?_), h2, h3⟩
  rw [h2] at e
  cases e
theorem AtCall.env {P w K H a s₁} {mg mb : Str → Option Value} (c : AtCall P w K H a s₁.heap) {vs : Array Value} (ha : s₁.heap.get? a = some { cls := .type "list", data := .seq vs }) (KX : K.In s₁.heap) (hns : s₁.heap.Ns mainGlobals mg) (hb : s₁.heap.Ns builtinsNs mb)
    (hbb : ∀ x : Str, x ≠ "__name__" → mb x = bootBuiltins x) (hlim : s₁.heap.NoLimit) (hg : s₁.gens = #[]) : Env0 P w K mg (hidT s₁.heap H) callerA [] s₁ H := by
  have hK : K.In (hidT s₁.heap H) := fun b o e => hidT_get (KX b o e) (by
    cases q : H b with
    | none => rfl
    | some u =>
      obtain ⟨rfl, n, _⟩ := c.one b u q
      rw [n] at e
      cases e)
  obtain ⟨mc, l1, l2⟩ := hlim
  constructor
  · rfl
  · exact ⟨hK, c.ns ha hns, ⟨mb, c.ns ha hb, hbb⟩, ⟨mc, c.ns ha l1, l2⟩⟩
  · exact fun b o e => of_hidT e
  · exact Nat.le_of_eq (hidT_size _ _)
  · trivial
  · exact fun b hb => absurd hb (List.not_mem_nil)
  · exact c.ok
  · exact .of_eq hg
theorem law_run {P : Program} {w : World} {K : PySem.W.Frag} {mg mb : Str → Option Value} {k : Nat} {fa a : Addr} {fd : FuncData} {ps : List Str} {sp : Sp} {s₁ : Shared} {vs : List Value} {H : Hp}
    (c : AtCall P w K H a s₁.heap) (ha : s₁.heap.get? a = some { cls := .type "list", data := .seq vs.toArray }) (KX : K.In s₁.heap) (hns : s₁.heap.Ns mainGlobals mg) (hb : s₁.heap.Ns builtinsNs mb)
    (hbb : ∀ x : Str, x ≠ "__name__" → mb x = bootBuiltins x) (hlim : s₁.heap.NoLimit) (hg : s₁.gens = #[]) (hr : Room k callerA)
    (F : ∀ base : Heap, K.In base → base.Ns mainGlobals mg → FnG P w K mg base k fa fd ps sp) (hbind : Binds K fd ps [])
    (hsp : sp [.ref a] H (fun v _ => v = .bl true) fun _ _ _ => False) : codeAny (model P w) callerA (.call (.ref fa) ⟨[.ref a], []⟩) (Ends1 s₁) s₁ := by
  have e0 := c.env ha KX hns hb hbb hlim hg
  have FF := F _ e0.mod.1 (c.ns ha hns)
  have hl1 := FF.len _ _ _ _ hsp
  have bt : BindsTo s₁ fd ⟨[.ref a], []⟩ (ps.zip [.ref a]) := by
    have := hbind s₁ [.ref a] KX (by simpa using hl1)
    simpa using this
  have run := FF.run callerA [] s₁ H ⟨[.ref a], []⟩ [.ref a] [.ref a] _ _ rfl hr e0 bt (.cons rfl .nil) hsp
  refine codeAny_mono run ?_
  intro r s' q
  match r, q with
  | .error e, q =>
    obtain ⟨_, _, _, _, _, _, _, _, _, _, _, _, _, _, _, _, z⟩ := q
  | .ok .next, q => exact q.elim
  | .ok .brk, q => exact q.elim
  | .ok .cont, q => exact q.elim
  | .ok (.ret u), ⟨v, H', os, bare, un, hok', r', q'⟩ =>
    have q'' : v = .bl true := q'
    subst q''
    have r'' : u = Value.bool true := r'
    subst r''
    refine ⟨rfl, OldK.of_keep ?_, os, bare⟩
    intro b o e
    cases q : H b with
    | none => exact un.keep b o e q (fun z => absurd z List.not_mem_nil) (by simp)
    | some z =>
      obtain ⟨rfl, _, ob, xs, rfl⟩ := c.one b z q
      have h1 := (c.ok b _ q).1
      have h2 := (hok' b _ (un.frzs b ob _ q)).1
      rw [e] at h1
      cases h1
      exact h2
theorem law_callG {P : Program} {w : World} {K : PySem.W.Frag} {mg mb : Str → Option Value} {k : Nat} {fa a : Addr} {fd : FuncData} {ps : List Str} {sp : Sp} {s₁ : Shared} {vs : List Value} {ns : List Int}
    (KX : K.In s₁.heap) (hns : s₁.heap.Ns mainGlobals mg) (hb : s₁.heap.Ns builtinsNs mb) (hbb : ∀ x : Str, x ≠ "__name__" → mb x = bootBuiltins x) (hlim : s₁.heap.NoLimit) (hg : s₁.gens = #[])
    (ha : s₁.heap.get? a = some { cls := .type "list", data := .seq vs.toArray }) (hi : IntsAre vs ns) (hl : ns.length ≤ sizeLine) (hr : Room k callerA)
    (F : ∀ base : Heap, K.In base → base.Ns mainGlobals mg → FnG P w K mg base k fa fd ps sp) (hbind : Binds K fd ps [])
    (hsp : ∀ H : Hp, Only H → SqL K H a (ns.map V.int) → sp [.ref a] H (fun v _ => v = .bl true) fun _ _ _ => False) :
    codeAny (model P w) callerA (.call (.ref fa) ⟨[.ref a], []⟩) (Ends1 s₁) s₁ := by
  have rv := vals_ints hi
  cases hk : K.lookup a with
  | some o =>
    have e := KX a o hk
    rw [ha] at e
    cases e
    have c : AtCall P w K (fun _ => none) a s₁.heap := ⟨fun b u z => (by cases z), fun b u z => (by cases z)⟩
    refine law_run c ha KX hns hb hbb hlim hg hr F hbind (hsp _ c.only (.inr ⟨_, vs.toArray, _, hk, rfl, rfl, rfl, ?_, by simpa using rv⟩))
    rw [List.size_toArray, hi.length]
    exact hl
  | none =>
    have hit : ∀ b u, (if b = a then some (HO.frz { cls := .type "list", data := .seq vs.toArray } (.lst (ns.map V.int))) else none) = some u → b = a ∧ u = .frz { cls := .type "list", data := .seq vs.toArray } (.lst (ns.map V.int)) := by
      intro b u z
      split at z
      · exact ⟨by assumption, (Option.some.inj z).symm⟩
      · cases z
    have c : AtCall P w K (fun b => if b = a then some (HO.frz { cls := .type "list", data := .seq vs.toArray } (.lst (ns.map V.int))) else none) a s₁.heap := by
      constructor
      · intro b u z
        obtain ⟨rfl, rfl⟩ := hit b u z
        exact ⟨rfl, hk, _, _, rfl⟩
      · intro b u z
        obtain ⟨rfl, rfl⟩ := hit b u z
        exact ⟨ha, by rw [List.length_map]; exact hl, vs, _, rv, ha⟩
    exact law_run c ha KX hns hb hbb hlim hg hr F hbind (hsp _ c.only (.inl (.inr ⟨_, if_pos rfl⟩)))
/-- the goal behind the head -/
theorem walkG {l : PySem.W.OpenLaw} {n k : Nat} {q : Program} {loose : List Str} {XP : (Str → Option Value) → Heap → Prop} {YP : World → Heap → Prop} {d : DefRec} {K : Params → PySem.W.Frag}
    (hn : l.most = some n) (hn2 : n ≤ sizeLine) (hdf : d.params.defaults = []) (hr : Room k callerA) (hY : ∀ (w : World) (h : Heap), YP w h → (K w.params).In h)
    (F : ∀ (w : World) (mg : Str → Option Value) (fa : Addr) (h : Heap), (K w.params).In h → h.Ns mainGlobals mg → mg d.name = some (.ref fa) →
      ∃ (fd : FuncData) (ps : List Str) (sp : Sp), Binds (K w.params) fd ps [] ∧ (∀ base : Heap, FnG l.prog w (K w.params) mg base k fa fd ps sp) ∧
        ∀ (H : Hp) (a : Addr) (ns : List Int), Only H → SqL (K w.params) H a (ns.map V.int) → sp [.ref a] H (fun v _ => v = .bl true) fun _ _ _ => False) :
    PySem.W.WalkO q loose XP YP l.row.toRowW d [] (fun f vs => PySem.call f vs) := by
  refine Att.attach_call hn hdf ?_
  intro w s₀ s₁ mg mb fa o pm cd doc a vs ns G Y ho hd hcd hmg hobj hints hlen hg
  obtain ⟨fd, ps, sp, hbd, hF, hsp⟩ := F w mg fa _ (hY w _ Y) G.T.g hmg
  exact law_callG (hY w _ Y) G.T.g G.T.b G.T.builtins G.T.nolimit hg hobj hints (Nat.le_trans hlen hn2) hr (fun base _ _ => hF base) hbd fun H hO hS => hsp H a ns hO hS
/-- the law's promise, by its run over the mini text -/
theorem sp_law {T : Tab} {K : PySem.W.Frag} {k f : Nat} {i : FnI} {H : Hp} {a : Addr} {ns : List Int} {S : Sto} (hi : T.prg.fns[f]? = some i) (har : i.ar = 1) (hO : Only H) (hS : SqL K H a (ns.map V.int))
    (e : callK T.prg k f [.lst (ns.map .int)] [] [] = .ok (.bl true) S) : spF T K k f [.ref a] H (fun v _ => v = .bl true) fun _ _ _ => False := by
  refine ⟨[], [], [], [.lst (ns.map .int)], i, ⟨rfl, by simp, fun n a ob h => by simp at h⟩, fun m hm => absurd hm List.not_mem_nil, ?_, hi, by simp [har], ?_⟩
  · refine .cons ?_ .nil
    unfold RepD
    refine ⟨a, ns.map V.int, rfl, ?_, .ofInts ns⟩
    rcases hS with h | h
    · exact .inl ⟨h, List.not_mem_nil⟩
    · exact .inr (.inr h)
  · rw [e]
    intro β' H' v f r
    unfold RepD at r
    exact r
end MP

set_option linter.all false
set_option maxRecDepth 100000
namespace MP
open PySem

/-! ### one step of the evaluator, by the syntax -/
def EV (nf : Nat) (call : CallF) (n : Nat) (ms : List Nat) : EvF := (evP nf call n).1 ms
def TV (nf : Nat) (call : CallF) (n : Nat) (ms : List Nat) : TtF := (evP nf call n).2 ms
section
variable {nf : Nat} {call : CallF} {n : Nat} {ms : List Nat} {g : GE} {S : Sto}
@[simp] theorem ev_var (i) : (EV nf call (n+1) ms) (.var i) g S = (match g[i]? with | some (some d) => .ok d S | _ => .bad) := Eq.trans rfl rfl
@[simp] theorem ev_con (d) : (EV nf call (n+1) ms) (.con d) g S = .ok d S := Eq.trans rfl rfl
@[simp] theorem ev_tup (es) : (EV nf call (n+1) ms) (.tup es) g S = (evL (EV nf call n ms) es g S).bind fun l S1 => if lineOk l.length then .ok (.tup l) S1 else .bad := Eq.trans rfl rfl
@[simp] theorem ev_lst (bx es) : (EV nf call (n+1) ms) (.lst bx es) g S = (evL (EV nf call n ms) es g S).bind fun l S1 => boxL bx l S1 := Eq.trans rfl rfl
@[simp] theorem ev_dct0 (t) : (EV nf call (n+1) ms) (.dct t [] []) g S = .ok (.ref S.length) (S ++ [⟨false, .dct t []⟩]) := Eq.trans rfl rfl
@[simp] theorem ev_dct1 (t i b) : (EV nf call (n+1) ms) (.dct t [.var i] [.con (.bl b)]) g S = (match g[i]? with
      | some (some a) => if isKey false a && !t then .ok (.ref S.length) (S ++ [⟨false, .dct false [(a, .bl b)]⟩]) else .bad
      | _ => .bad) := Eq.trans rfl rfl
@[simp] theorem ev_bin (op a b) : (EV nf call (n+1) ms) (.bin op a b) g S = ((EV nf call n ms) a g S).bind fun x S1 => ((EV nf call n ms) b g S1).bind fun y S2 => .lift (binop S2 op x y) S2 := Eq.trans rfl rfl
@[simp] theorem ev_neg (a) : (EV nf call (n+1) ms) (.neg a) g S = ((EV nf call n ms) a g S).bind fun x S1 => match x with | .int i => .ok (.int (-i)) S1 | _ => .bad := Eq.trans rfl rfl
@[simp] theorem ev_not (a) : (EV nf call (n+1) ms) (.not a) g S = ((EV nf call n ms) a g S).bind fun d S1 => .lift ((truth S1 d).map fun b => .bl (!b)) S1 := Eq.trans rfl rfl
@[simp] theorem ev_and (es) : (EV nf call (n+1) ms) (.and es) g S = evAnd (EV nf call n ms) es g S := Eq.trans rfl rfl
@[simp] theorem ev_or (es) : (EV nf call (n+1) ms) (.or es) g S = evOr (EV nf call n ms) es g S := Eq.trans rfl rfl
@[simp] theorem ev_cmp (op a b) : (EV nf call (n+1) ms) (.cmp op a b) g S = ((EV nf call n ms) a g S).bind fun x S1 => ((EV nf call n ms) b g S1).bind fun y S2 => .lift ((cmpop S2 op x y).map .bl) S2 := Eq.trans rfl rfl
@[simp] theorem ev_cmp2 (op1 op2 a b c) : (EV nf call (n+1) ms) (.cmp2 op1 op2 a b c) g S = ((EV nf call n ms) a g S).bind fun x S1 => ((EV nf call n ms) b g S1).bind fun y S2 => match cmpop S2 op1 x y with
    | some true => ((EV nf call n ms) c g S2).bind fun z S3 => (.lift ((cmpop S3 op2 y z).map .bl) S3)
    | some false => .ok (.bl false) S2
    | none => .bad := Eq.trans rfl rfl
@[simp] theorem ev_reprEq (a b) : (EV nf call (n+1) ms) (.reprEq a b) g S = ((EV nf call n ms) a g S).bind fun x S1 => if isPure deep x && fitsD x then (((EV nf call n ms) b g S1).bind fun y S2 => if sameD deep x y then .ok (.bl true) S2 else .bad) else .bad := Eq.trans rfl rfl
@[simp] theorem ev_ite (c a b) : (EV nf call (n+1) ms) (.ite c a b) g S = ((TV nf call n ms) c g S).bind fun t S1 => if t then (EV nf call n ms) a g S1 else (EV nf call n ms) b g S1 := Eq.trans rfl rfl
@[simp] theorem ev_call (f es) : (EV nf call (n+1) ms) (.call f es) g S = (evL (EV nf call n ms) es g S).bind fun l S1 => call f l ms S1 := Eq.trans rfl rfl
@[simp] theorem ev_callv (i es) : (EV nf call (n+1) ms) (.callv i es) g S = (match g[i]? with
    | some (some (.fn f)) => if f < nf then (evL (EV nf call n ms) es g S).bind fun l S1 => call f l ms S1 else .bad
    | _ => .bad) := Eq.trans rfl rfl
@[simp] theorem ev_bi (bx b es) : (EV nf call (n+1) ms) (.bi bx b es) g S = (evL (EV nf call n ms) es g S).bind fun l S1 => biE bx b S1 l := Eq.trans rfl rfl
@[simp] theorem ev_bm (k o es) : (EV nf call (n+1) ms) (.bm k o es) g S = ((EV nf call n ms) o g S).bind fun d S1 => if bmOk S1 k d then ((evL (EV nf call n ms) es g S1).bind fun l S2 => bmop ms S2 k d l) else .bad := Eq.trans rfl rfl
@[simp] theorem ev_isin (a t) : (EV nf call (n+1) ms) (.isin a t) g S = ((EV nf call n ms) a g S).bind fun d S1 => .lift ((tyOf S1 d t).map .bl) S1 := Eq.trans rfl rfl
@[simp] theorem ev_ix (o i) : (EV nf call (n+1) ms) (.ix o i) g S = ((EV nf call n ms) o g S).bind fun d S1 => ((EV nf call n ms) i g S1).bind fun k S2 => .lift (ixop S2 d k) S2 := Eq.trans rfl rfl
@[simp] theorem ev_sl (o lo hi) : (EV nf call (n+1) ms) (.sl o lo hi) g S = ((EV nf call n ms) o g S).bind fun d S1 => (evStep.evO (EV nf call n ms) lo g S1).bind fun a S2 => (evStep.evO (EV nf call n ms) hi g S2).bind fun b S3 => .lift (slop S3 d a b) S3 := Eq.trans rfl rfl
@[simp] theorem evO_none {E : EvF} : evStep.evO E none g S = .ok none S := Eq.trans rfl rfl
@[simp] theorem evO_some {E : EvF} (e) : evStep.evO E (some e) g S = (E e g S).bind fun d S1 => match d with | .int i => .ok (some i) S1 | _ => .bad := Eq.trans rfl rfl
theorem ev_comp (bx elt tg it ifs own) : (EV nf call (n+1) ms) (.comp bx elt tg it ifs own) g S = (itE (EV nf call n ms) it g S).bind fun p S1 => compD bx p.2 (lockAt true p.2 S1) fun n0 S2 => compL (EV nf call n (n0 :: ms)) (TV nf call n (n0 :: ms)) elt tg ifs (wipeE g own) n0 p.1 S2 := Eq.trans rfl rfl
theorem ev_comp2 (bx elt tg it ifs tg1 it1 ifs1 own own1) : (EV nf call (n+1) ms) (.comp2 bx elt tg it ifs tg1 it1 ifs1 own own1) g S = (itE (EV nf call n ms) it g S).bind fun p S1 => (match p.2 with | some _ => .bad | none => compD bx none S1 fun n0 S2 => compL2 (EV nf call n (n0 :: ms)) (TV nf call n (n0 :: ms)) elt tg ifs tg1 it1 ifs1 own1 (wipeE g own) n0 p.1 S2) := Eq.trans rfl rfl
@[simp] theorem ev_rngv (bx b es) : (EV nf call (n+1) ms) (.rngv bx b es) g S = (itE (EV nf call n ms) (.rng es) g S).bind fun p S1 => (match b with
    | .tuple => if lineOk p.1.length then .ok (.tup p.1) S1 else .bad
    | .list => boxL bx p.1 S1
    | _ => .bad) := Eq.trans rfl rfl
@[simp] theorem evL_nil {E : EvF} : evL E [] g S = .ok [] S := Eq.trans rfl rfl
@[simp] theorem evL_cons {E : EvF} (e r) : evL E (e :: r) g S = (E e g S).bind fun d S1 => (evL E r g S1).bind fun l S2 => .ok (d :: l) S2 := Eq.trans rfl rfl
@[simp] theorem ttAnd_nil {T : TtF} : ttAnd T [] g S = .ok true S := Eq.trans rfl rfl
@[simp] theorem ttAnd_cons {T : TtF} (e r) : ttAnd T (e :: r) g S = (T e g S).bind fun b S1 => if b then ttAnd T r g S1 else .ok false S1 := Eq.trans rfl rfl
@[simp] theorem ttOr_nil {T : TtF} : ttOr T [] g S = .ok false S := Eq.trans rfl rfl
@[simp] theorem ttOr_cons {T : TtF} (e r) : ttOr T (e :: r) g S = (T e g S).bind fun b S1 => if b then .ok true S1 else ttOr T r g S1 := Eq.trans rfl rfl
@[simp] theorem evAnd_one {E : EvF} (e) : evAnd E [e] g S = E e g S := Eq.trans rfl rfl
@[simp] theorem evAnd_cons {E : EvF} (e e' r) : evAnd E (e :: e' :: r) g S = (E e g S).bind fun d S1 => match truth S1 d with | some true => evAnd E (e' :: r) g S1 | some false => .ok d S1 | none => .bad := Eq.trans rfl rfl
@[simp] theorem evOr_one {E : EvF} (e) : evOr E [e] g S = E e g S := Eq.trans rfl rfl
@[simp] theorem evOr_cons {E : EvF} (e e' r) : evOr E (e :: e' :: r) g S = (E e g S).bind fun d S1 => match truth S1 d with | some false => evOr E (e' :: r) g S1 | some true => .ok d S1 | none => .bad := Eq.trans rfl rfl
@[simp] theorem forL_nil {X : StF} (tg b) : forL X tg b [] g S = .ok .next g S := Eq.trans rfl rfl
/-! tests -/
@[simp] theorem tv_and (es) : (TV nf call (n+1) ms) (.and es) g S = ttAnd (TV nf call n ms) es g S := Eq.trans rfl rfl
@[simp] theorem tv_or (es) : (TV nf call (n+1) ms) (.or es) g S = ttOr (TV nf call n ms) es g S := Eq.trans rfl rfl
@[simp] theorem tv_not (a) : (TV nf call (n+1) ms) (.not a) g S = ((TV nf call n ms) a g S).bind fun b S1 => .ok (!b) S1 := Eq.trans rfl rfl
@[simp] theorem tv_cmp (op a b) : (TV nf call (n+1) ms) (.cmp op a b) g S = ((EV nf call n ms) a g S).bind fun x S1 => ((EV nf call n ms) b g S1).bind fun y S2 => .lift (cmpop S2 op x y) S2 := Eq.trans rfl rfl
@[simp] theorem tv_cmp2 (op1 op2 a b c) : (TV nf call (n+1) ms) (.cmp2 op1 op2 a b c) g S = ((EV nf call n ms) a g S).bind fun x S1 => ((EV nf call n ms) b g S1).bind fun y S2 => match cmpop S2 op1 x y with
    | some true => ((EV nf call n ms) c g S2).bind fun z S3 => (.lift (cmpop S3 op2 y z) S3)
    | some false => .ok false S2
    | none => .bad := Eq.trans rfl rfl
@[simp] theorem tv_var (i) : (TV nf call (n+1) ms) (.var i) g S = ((EV nf call (n+1) ms) (.var i) g S).bind fun d S1 => .lift (truth S1 d) S1 := Eq.trans rfl rfl
@[simp] theorem tv_con (d) : (TV nf call (n+1) ms) (.con d) g S = .lift (truth S d) S := Eq.trans rfl rfl
@[simp] theorem tv_call (f es) : (TV nf call (n+1) ms) (.call f es) g S = ((EV nf call (n+1) ms) (.call f es) g S).bind fun d S1 => .lift (truth S1 d) S1 := Eq.trans rfl rfl
@[simp] theorem tv_callv (f es) : (TV nf call (n+1) ms) (.callv f es) g S = ((EV nf call (n+1) ms) (.callv f es) g S).bind fun d S1 => .lift (truth S1 d) S1 := Eq.trans rfl rfl
@[simp] theorem tv_bi (bx b es) : (TV nf call (n+1) ms) (.bi bx b es) g S = ((EV nf call (n+1) ms) (.bi bx b es) g S).bind fun d S1 => .lift (truth S1 d) S1 := Eq.trans rfl rfl
@[simp] theorem tv_isin (a t) : (TV nf call (n+1) ms) (.isin a t) g S = ((EV nf call (n+1) ms) (.isin a t) g S).bind fun d S1 => .lift (truth S1 d) S1 := Eq.trans rfl rfl
@[simp] theorem tv_comp (bx elt tg it ifs own) : (TV nf call (n+1) ms) (.comp bx elt tg it ifs own) g S = ((EV nf call (n+1) ms) (.comp bx elt tg it ifs own) g S).bind fun d S1 => .lift (truth S1 d) S1 := Eq.trans rfl rfl
@[simp] theorem tv_ix (a t) : (TV nf call (n+1) ms) (.ix a t) g S = ((EV nf call (n+1) ms) (.ix a t) g S).bind fun d S1 => .lift (truth S1 d) S1 := Eq.trans rfl rfl
@[simp] theorem tv_bm (k o es) : (TV nf call (n+1) ms) (.bm k o es) g S = ((EV nf call (n+1) ms) (.bm k o es) g S).bind fun d S1 => .lift (truth S1 d) S1 := Eq.trans rfl rfl
/-! what is walked -/
variable {E : EvF}
@[simp] theorem it_rng1 (a) : itE E (.rng [a]) g S = (E a g S).bind rng1D := Eq.trans rfl rfl
@[simp] theorem it_rng2 (a b) : itE E (.rng [a, b]) g S = (E a g S).bind fun x S1 => (E b g S1).bind fun y S2 => rng2D x y S2 := Eq.trans rfl rfl
@[simp] theorem it_enum (e) : itE E (.enum e) g S = (E e g S).bind enmD := Eq.trans rfl rfl
@[simp] theorem it_var (i) : itE E (.var i) g S = (match g[i]? with | some (some d) => flatV d S | _ => .bad) := Eq.trans rfl rfl
@[simp] theorem it_ix (a b) : itE E (.ix a b) g S = (E (.ix a b) g S).bind flatD := Eq.trans rfl rfl
@[simp] theorem it_sl (a b c) : itE E (.sl a b c) g S = (E (.sl a b c) g S).bind flatD := Eq.trans rfl rfl
@[simp] theorem it_lst (a b) : itE E (.lst a b) g S = (E (.lst a b) g S).bind flatD := Eq.trans rfl rfl
@[simp] theorem it_call (a b) : itE E (.call a b) g S = (E (.call a b) g S).bind flatD := Eq.trans rfl rfl
@[simp] theorem it_bi (a b c) : itE E (.bi a b c) g S = (E (.bi a b c) g S).bind flatD := Eq.trans rfl rfl
@[simp] theorem it_comp (bx elt tg it ifs own) : itE E (.comp bx elt tg it ifs own) g S = (E (.comp bx elt tg it ifs own) g S).bind flatD := Eq.trans rfl rfl
@[simp] theorem it_con (a) : itE E (.con a) g S = (E (.con a) g S).bind flatD := Eq.trans rfl rfl
@[simp] theorem it_ite (a b c) : itE E (.ite a b c) g S = (E (.ite a b c) g S).bind flatD := Eq.trans rfl rfl
/-! statements -/
variable {sub : Nat → Nat → Bool}
/-- one statement, at fuel n below -/
def stx (sub : Nat → Nat → Bool) (nf : Nat) (call : CallF) (ms : List Nat) (n : Nat) : St → GE → Sto → RS := exStep sub ms ((EV nf call n ms)) ((TV nf call n ms)) (exP sub nf call ms n)
/-- go on behind a statement -/
def RS.go (r : RS) (k : GE → Sto → RS) : RS := match r with | .ok .next g S => k g S | z => z
/-- a turn's end -/
def RS.loop (r : RS) (k : GE → Sto → RS) : RS := match r with
  | .ok .next g S => k g S
  | .ok .cnt g S => k g S
  | .ok .brk g S => .ok .next g S
  | z => z
@[simp] theorem loop_next (k) : RS.loop (.ok .next g S) k = k g S := Eq.trans rfl rfl
@[simp] theorem loop_cnt (k) : RS.loop (.ok .cnt g S) k = k g S := Eq.trans rfl rfl
@[simp] theorem loop_brk (k) : RS.loop (.ok .brk g S) k = .ok .next g S := Eq.trans rfl rfl
@[simp] theorem loop_ret (k d) : RS.loop (.ok (.ret d) g S) k = .ok (.ret d) g S := Eq.trans rfl rfl
@[simp] theorem loop_exc (k c p) : RS.loop (.exc c p g S) k = .exc c p g S := Eq.trans rfl rfl
@[simp] theorem loop_bad (k) : RS.loop .bad k = .bad := Eq.trans rfl rfl
def optG (o : Option GE) (k : GE → RS) : RS := match o with | none => .bad | some g => k g
@[simp] theorem optG_some (k g) : optG (some g) k = k g := Eq.trans rfl rfl
@[simp] theorem optG_none (k) : optG none k = .bad := Eq.trans rfl rfl
@[simp] theorem go_next (k) : RS.go (.ok .next g S) k = k g S := Eq.trans rfl rfl
@[simp] theorem go_ret (k d) : RS.go (.ok (.ret d) g S) k = .ok (.ret d) g S := Eq.trans rfl rfl
@[simp] theorem go_brk (k) : RS.go (.ok .brk g S) k = .ok .brk g S := Eq.trans rfl rfl
@[simp] theorem go_cnt (k) : RS.go (.ok .cnt g S) k = .ok .cnt g S := Eq.trans rfl rfl
@[simp] theorem go_exc (k c p) : RS.go (.exc c p g S) k = .exc c p g S := Eq.trans rfl rfl
@[simp] theorem go_bad (k) : RS.go .bad k = .bad := Eq.trans rfl rfl
@[simp] theorem ex_nil : exP sub nf call ms (n+1) [] g S = .ok .next g S := Eq.trans rfl rfl
@[simp] theorem ex_cons (s r) : exP sub nf call ms (n+1) (s :: r) g S = (stx sub nf call ms n s g S).go fun g1 S1 => exP sub nf call ms (n+1) r g1 S1 := by
  show exL _ (s :: r) g S = _
  unfold exL RS.go stx
  rfl
@[simp] theorem sx_asg (p e) : stx sub nf call ms n (.asg (.p p) e) g S = (EV nf call n ms e g S).st g fun d S1 => optG (asgN p d g) fun g1 => .ok .next g1 S1 := by
  show (EV nf call n ms e g S).st g (fun d S1 => (match asgN p d g with | some g1 => .ok .next g1 S1 | none => .bad)) = _
  congr 1
  funext d S1
  cases asgN p d g <;> rfl
@[simp] theorem sx_sub (o i e) : stx sub nf call ms n (.asg (.sub o i) e) g S = ((EV nf call n ms) e g S).st g fun d S1 => ((EV nf call n ms) o g S1).st g fun x S1 => ((EV nf call n ms) i g S1).st g fun k S2 => (match setop ms S2 x k d with | some S3 => .ok .next g S3 | none => .bad) := Eq.trans rfl rfl
@[simp] theorem sx_par (l es) : stx sub nf call ms n (.par l es) g S = (evL (EV nf call n ms) es g S).st g fun ds S1 => if ds.length = l.length then .ok .next (putAll g l ds) S1 else .bad := Eq.trans rfl rfl
@[simp] theorem sx_aug (i e) : stx sub nf call ms n (.aug i .add e) g S = (match g[i]? with
      | some (some (.int a)) => ((EV nf call n ms) e g S).st g fun b S1 => (match b with | .int z => .ok .next (setEnv g i (.int (a + z))) S1 | _ => .bad)
      | _ => .bad) := Eq.trans rfl rfl
@[simp] theorem sx_ex (e) : stx sub nf call ms n (.ex e) g S = ((EV nf call n ms) e g S).st g fun _ S1 => .ok .next g S1 := Eq.trans rfl rfl
@[simp] theorem sx_ret (e) : stx sub nf call ms n (.ret e) g S = ((EV nf call n ms) e g S).st g fun d S1 => .ok (.ret d) g S1 := Eq.trans rfl rfl
@[simp] theorem sx_retn : stx sub nf call ms n .retn g S = .ok (.ret .non) g S := Eq.trans rfl rfl
@[simp] theorem sx_ite (c a b) : stx sub nf call ms n (.ite c a b) g S = ((TV nf call n ms) c g S).st g fun t S1 => if t then exP sub nf call ms n a g S1 else exP sub nf call ms n b g S1 := Eq.trans rfl rfl
@[simp] theorem sx_whl (c b) : stx sub nf call ms n (.whl c b) g S = whlL ((TV nf call n ms)) (exP sub nf call ms n) c b turns g S := Eq.trans rfl rfl
@[simp] theorem sx_for (tg it b) : stx sub nf call ms n (.for_ tg it b) g S = (itE ((EV nf call n ms)) it g S).st g fun p S1 => unlockRS p.2 (isDV it g) (forL (exP sub nf call ms n) tg b p.1 g (lockAt true p.2 S1)) := Eq.trans rfl rfl
@[simp] theorem sx_brk : stx sub nf call ms n .brk g S = .ok .brk g S := Eq.trans rfl rfl
@[simp] theorem sx_cnt : stx sub nf call ms n .cnt g S = .ok .cnt g S := Eq.trans rfl rfl
@[simp] theorem sx_pass : stx sub nf call ms n .pass g S = .ok .next g S := Eq.trans rfl rfl
@[simp] theorem sx_raise (c e) : stx sub nf call ms n (.raise c e) g S = ((EV nf call n ms) e g S).st g fun d S1 => .exc c d g S1 := Eq.trans rfl rfl
@[simp] theorem sx_try (b c i h) : stx sub nf call ms n (.try_ b c i h) g S = (match exP sub nf call ms n b g S with
    | .exc c' p g1 S1 => if sub c' c then (match h with
        | .fld => .ok (.ret p) (g1.set i none) S1
        | .con d => .ok (.ret d) (g1.set i none) S1) else .exc c' p g1 S1
    | z => z) := Eq.trans rfl rfl
end
section
variable {α β : Type}
@[simp] theorem bind_ok (a : α) (S) (k : α → Sto → R β) : (R.ok a S).bind k = k a S := Eq.trans rfl rfl
@[simp] theorem bind_exc (c p S) (k : α → Sto → R β) : (R.exc c p S : R α).bind k = .exc c p S := Eq.trans rfl rfl
@[simp] theorem bind_bad (k : α → Sto → R β) : (R.bad : R α).bind k = .bad := Eq.trans rfl rfl
@[simp] theorem st_ok (a : α) (S g) (k : α → Sto → RS) : (R.ok a S).st g k = k a S := Eq.trans rfl rfl
@[simp] theorem st_exc (c p S g) (k : α → Sto → RS) : (R.exc c p S : R α).st g k = .exc c p g S := Eq.trans rfl rfl
@[simp] theorem st_bad (g) (k : α → Sto → RS) : (R.bad : R α).st g k = .bad := Eq.trans rfl rfl
@[simp] theorem lift_some (a : α) (S) : R.lift (some a) S = .ok a S := Eq.trans rfl rfl
@[simp] theorem lift_none (S) : R.lift (none : Option α) S = .bad := Eq.trans rfl rfl
@[simp] theorem noX_ok (a : α) (S) : noX (R.ok a S) = .ok a S := Eq.trans rfl rfl
end
@[simp] theorem asg_v (i d g) : asgN (.v i) d g = some (setEnv g i d) := by simp [asgN]
@[simp] theorem asg_t (l ds g) : asgN (.tup l) (.tup ds) g = asgNs l ds g := by simp [asgN]
@[simp] theorem asgs_nil (g) : asgNs [] [] g = some g := by simp [asgNs]
@[simp] theorem asgs_cons (p l d ds g) : asgNs (p :: l) (d :: ds) g = (match asgN p d g with | some g1 => asgNs l ds g1 | none => none) := by
  cases h : asgN p d g <;> simp [asgNs, h]
/-! the store: S0 and what a def has made -/
@[simp] theorem getA (S0 : Sto) (O : List Ob) (j : Nat) : (S0 ++ O)[S0.length + j]? = O[j]? := by
  rw [List.getElem?_append_right (by omega)]
  congr 1
  omega
@[simp] theorem getA0 (S0 : Sto) (O : List Ob) : (S0 ++ O)[S0.length]? = O[0]? := getA S0 O 0
@[simp] theorem setA (S0 : Sto) (O : List Ob) (j : Nat) (x : Ob) : (S0 ++ O).set (S0.length + j) x = S0 ++ O.set j x := by
  rw [List.set_append_right _ _ (by omega)]
  congr 2
  omega
@[simp] theorem setA0 (S0 : Sto) (O : List Ob) (x : Ob) : (S0 ++ O).set S0.length x = S0 ++ O.set 0 x := setA S0 O 0 x
@[simp] theorem takeA (S0 : Sto) (O : List Ob) : (S0 ++ O).take S0.length = S0 := by simp
theorem lenA (S0 : Sto) (O : List Ob) : (S0 ++ O).length = S0.length + O.length := by simp
/-! facts of values -/
theorem below_mono {m m' : Nat} (h : m ≤ m') : ∀ {n : Nat} {d : D}, below m n d = true → below m' n d = true
  | 0, _, hd => by simp [below] at hd
  | n + 1, d, hd => by
    cases d with
    | ref k => simp [below] at hd ⊢; omega
    | tup l => simp [below] at hd ⊢; exact fun x hx => below_mono h (hd x hx)
    | xtp l => simp [below] at hd ⊢; exact fun x hx => below_mono h (hd x hx)
    | lst l => simp [below] at hd ⊢; exact fun x hx => below_mono h (hd x hx)
    | dct t ks vs => simp [below] at hd ⊢; exact ⟨fun x hx => below_mono h (hd.1 x hx), fun x hx => below_mono h (hd.2 x hx)⟩
    | _ => simp [below]
theorem below_fuel {m : Nat} : ∀ {n n' : Nat} {d : D}, n ≤ n' → below m n d = true → below m n' d = true
  | 0, _, _, _, hd => by simp [below] at hd
  | n + 1, 0, _, h, _ => by omega
  | n + 1, n' + 1, d, h, hd => by
    have h' : n ≤ n' := by omega
    cases d with
    | ref k => simpa [below] using hd
    | tup l => simp [below] at hd ⊢; exact fun x hx => below_fuel h' (hd x hx)
    | xtp l => simp [below] at hd ⊢; exact fun x hx => below_fuel h' (hd x hx)
    | lst l => simp [below] at hd ⊢; exact fun x hx => below_fuel h' (hd x hx)
    | dct t ks vs => simp [below] at hd ⊢; exact ⟨fun x hx => below_fuel h' (hd.1 x hx), fun x hx => below_fuel h' (hd.2 x hx)⟩
    | _ => simp [below]
theorem pure_below {m : Nat} : ∀ {n : Nat} {d : D}, isPure n d = true → below m n d = true
  | 0, _, hd => by simp [isPure] at hd
  | n + 1, d, hd => by
    cases d with
    | tup l => simp [isPure, below] at hd ⊢; exact fun x hx => pure_below (hd x hx)
    | lst l => simp [isPure, below] at hd ⊢; exact fun x hx => pure_below (hd x hx)
    | ref k => simp [isPure] at hd
    | xtp l => simp [isPure] at hd
    | dct t ks vs => simp [isPure] at hd
    | _ => simp [below]
theorem mapM_id {l : List D} {f : D → Option D} (h : ∀ d ∈ l, f d = some d) : l.mapM f = some l := by
  induction l with
  | nil => rfl
  | cons d l ih =>
    rw [List.mapM_cons, h d (by simp), ih fun x hx => h x (by simp [hx])]
    rfl
theorem unbox_below {m : Nat} {S : Sto} : ∀ {n : Nat} {d : D}, below m n d = true → unbox m S n d = some d
  | 0, _, hd => by simp [below] at hd
  | n + 1, d, hd => by
    cases d with
    | ref k => simp [below] at hd; simp [unbox, hd]
    | tup l => simp [below] at hd; simp only [unbox]; rw [mapM_id fun x hx => unbox_below (hd x hx)]; rfl
    | xtp l => simp [below] at hd; simp only [unbox]; rw [mapM_id fun x hx => unbox_below (hd x hx)]; rfl
    | lst l => simp [below] at hd; simp only [unbox]; rw [mapM_id fun x hx => unbox_below (hd x hx)]; rfl
    | dct t ks vs => simp [below] at hd; simp only [unbox]; rw [mapM_id fun x hx => unbox_below (hd.1 x hx), mapM_id fun x hx => unbox_below (hd.2 x hx)]
    | _ => rfl
@[simp] theorem xpure_int (n : Nat) (i : Int) : isPure (n+1) (.int i) = true := Eq.trans rfl rfl
@[simp] theorem pure_bl (n : Nat) (b : Bool) : isPure (n+1) (.bl b) = true := Eq.trans rfl rfl
@[simp] theorem pure_non (n : Nat) : isPure (n+1) .non = true := Eq.trans rfl rfl
@[simp] theorem xpure_tup (n : Nat) (l : List D) : isPure (n+1) (.tup l) = l.all (isPure n) := Eq.trans rfl rfl
@[simp] theorem pure_lst (n : Nat) (l : List D) : isPure (n+1) (.lst l) = l.all (isPure n) := Eq.trans rfl rfl
end MP

set_option linter.all false
set_option maxRecDepth 100000
namespace MP
open PySem
@[simp] theorem fuel_eq : fuel = 40 := Eq.trans rfl rfl
@[simp] theorem deep_eq : deep = 60 := Eq.trans rfl rfl
@[simp] theorem gz {α : Type} (a : α) (l) : (a :: l)[0]? = some a := Eq.trans rfl rfl
@[simp] theorem gs {α : Type} (a : α) (l : List α) (i : Nat) : (a :: l)[i+1]? = l[i]? := Eq.trans rfl rfl
/-! truth -/
@[simp] theorem tr_non (S) : truth S .non = some false := Eq.trans rfl rfl
@[simp] theorem tr_bl (S b) : truth S (.bl b) = some b := Eq.trans rfl rfl
@[simp] theorem tr_int (S i) : truth S (.int i) = some (i != 0) := Eq.trans rfl rfl
@[simp] theorem tr_tup (S l) : truth S (.tup l) = some (!l.isEmpty) := Eq.trans rfl rfl
@[simp] theorem tr_xtp (S l) : truth S (.xtp l) = some (!l.isEmpty) := Eq.trans rfl rfl
@[simp] theorem tr_lst (S l) : truth S (.lst l) = some (!l.isEmpty) := Eq.trans rfl rfl
/-! kinds -/
@[simp] theorem kd_non (S) : kdOf S .non = some .non := Eq.trans rfl rfl
@[simp] theorem kd_bl (S b) : kdOf S (.bl b) = some .bl := Eq.trans rfl rfl
@[simp] theorem kd_int (S b) : kdOf S (.int b) = some .int := Eq.trans rfl rfl
@[simp] theorem kd_str (S b) : kdOf S (.str b) = some .str := Eq.trans rfl rfl
@[simp] theorem kd_tup (S b) : kdOf S (.tup b) = some .tup := Eq.trans rfl rfl
@[simp] theorem kd_xtp (S b) : kdOf S (.xtp b) = some .tup := Eq.trans rfl rfl
@[simp] theorem kd_lst (S b) : kdOf S (.lst b) = some .lst := Eq.trans rfl rfl
@[simp] theorem ty_eq (S d t) : tyOf S d t = (kdOf S d).map fun k => tyTab k t := Eq.trans rfl rfl
@[simp] theorem tt1 : tyTab .tup .tuple = true := Eq.trans rfl rfl
@[simp] theorem tt2 : tyTab .int .int = true := Eq.trans rfl rfl
@[simp] theorem tt3 : tyTab .int .bool = false := Eq.trans rfl rfl
@[simp] theorem tt4 : tyTab .bl .bool = true := Eq.trans rfl rfl
@[simp] theorem tt5 : tyTab .bl .int = true := Eq.trans rfl rfl
@[simp] theorem tt6 : tyTab .str .str = true := Eq.trans rfl rfl
@[simp] theorem tt7 : tyTab .non .str = false := Eq.trans rfl rfl
@[simp] theorem tt8 : tyTab .tup .str = false := Eq.trans rfl rfl
@[simp] theorem tt9 : tyTab .non .int = false := Eq.trans rfl rfl
@[simp] theorem tt10 : tyTab .non .tuple = false := Eq.trans rfl rfl
@[simp] theorem tt11 : tyTab .int .tuple = false := Eq.trans rfl rfl
/-! sequences -/
@[simp] theorem sq_tup (S l) : seqOf S (.tup l) = some l := Eq.trans rfl rfl
@[simp] theorem sq_xtp (S l) : seqOf S (.xtp l) = some l := Eq.trans rfl rfl
@[simp] theorem sq_lst (S l) : seqOf S (.lst l) = some l := Eq.trans rfl rfl
@[simp] theorem sq_dct (S a b c) : seqOf S (.dct a b c) = none := Eq.trans rfl rfl
@[simp] theorem sq_ref (S n) : seqOf S (.ref n) = (match S[n]? with | some ⟨_, .lst l⟩ => some l | _ => none) := Eq.trans rfl rfl
@[simp] theorem dc_dct (S a b c) : dctOf S (.dct a b c) = some (a, b.zip c) := Eq.trans rfl rfl
@[simp] theorem dc_ref (S n) : dctOf S (.ref n) = (match S[n]? with | some ⟨_, .dct t l⟩ => some (t, l) | _ => none) := Eq.trans rfl rfl
@[simp] theorem dc_tup (S l) : dctOf S (.tup l) = none := Eq.trans rfl rfl
@[simp] theorem dc_xtp (S l) : dctOf S (.xtp l) = none := Eq.trans rfl rfl
@[simp] theorem dc_lst (S l) : dctOf S (.lst l) = none := Eq.trans rfl rfl
@[simp] theorem top_non (S) : top S .non = .non := Eq.trans rfl rfl
@[simp] theorem top_bl (S b) : top S (.bl b) = .bl b := Eq.trans rfl rfl
@[simp] theorem top_int (S b) : top S (.int b) = .int b := Eq.trans rfl rfl
@[simp] theorem top_str (S b) : top S (.str b) = .str b := Eq.trans rfl rfl
@[simp] theorem top_tup (S b) : top S (.tup b) = .tup b := Eq.trans rfl rfl
@[simp] theorem top_xtp (S b) : top S (.xtp b) = .xtp b := Eq.trans rfl rfl
@[simp] theorem xtop_lst (S b) : top S (.lst b) = .lst b := Eq.trans rfl rfl
@[simp] theorem top_dct (S a b c) : top S (.dct a b c) = .dct a b c := Eq.trans rfl rfl
theorem top_ref (S n) : top S (.ref n) = (match S[n]? with | some ⟨_, .lst l⟩ => .lst l | _ => .ref n) := Eq.trans rfl rfl
@[simp] theorem lo_tup (S l) : lstOf S (.tup l) = none := Eq.trans rfl rfl
@[simp] theorem lo_lst (S l) : lstOf S (.lst l) = some l := Eq.trans rfl rfl
@[simp] theorem lo_dct (S a b c) : lstOf S (.dct a b c) = none := Eq.trans rfl rfl
@[simp] theorem lo_ref (S n) : lstOf S (.ref n) = (match S[n]? with | some ⟨_, .lst l⟩ => some l | _ => none) := by
  unfold lstOf
  rw [top_ref]
  cases h : S[n]? with
  | none => rfl
  | some o => obtain ⟨lk, bd⟩ := o; cases bd <;> rfl
/-! operators -/
@[simp] theorem bo_add (S i j) : binop S .add (.int i) (.int j) = some (.int (i + j)) := Eq.trans rfl rfl
@[simp] theorem bo_sub (S i j) : binop S .sub (.int i) (.int j) = some (.int (i - j)) := Eq.trans rfl rfl
@[simp] theorem bo_mul (S i j) : binop S .mul (.int i) (.int j) = if small64 i || small64 j then some (.int (i * j)) else none := Eq.trans rfl rfl
@[simp] theorem bo_fdiv (S i j) : binop S .fdiv (.int i) (.int j) = if smallDiv j then some (.int (i / j)) else none := Eq.trans rfl rfl
@[simp] theorem bo_mod (S i j) : binop S .mod (.int i) (.int j) = if decide (0 < j) then some (.int (i % j)) else none := Eq.trans rfl rfl
@[simp] theorem bo_tup (S i j) : binop S .add (.tup i) (.tup j) = if lineOk (i.length + j.length) then some (.tup (i ++ j)) else none := Eq.trans rfl rfl
@[simp] theorem bo_lst (S i j) : binop S .add (.lst i) (.lst j) = if lineOk (i.length + j.length) then some (.lst (i ++ j)) else none := Eq.trans rfl rfl
@[simp] theorem co_lt (S i j) : cmpop S .lt (.int i) (.int j) = some (decide (i < j)) := Eq.trans rfl rfl
@[simp] theorem co_le (S i j) : cmpop S .le (.int i) (.int j) = some (decide (i ≤ j)) := Eq.trans rfl rfl
@[simp] theorem co_gt (S i j) : cmpop S .gt (.int i) (.int j) = some (decide (j < i)) := Eq.trans rfl rfl
@[simp] theorem co_ge (S i j) : cmpop S .ge (.int i) (.int j) = some (decide (j ≤ i)) := Eq.trans rfl rfl
@[simp] theorem co_isn (S i) : cmpop S .isn i .non = some (isNon i) := Eq.trans rfl rfl
@[simp] theorem co_isnn (S i) : cmpop S .isnn i .non = some (!isNon i) := Eq.trans rfl rfl
@[simp] theorem in_non : isNon .non = true := Eq.trans rfl rfl
@[simp] theorem in_int (i) : isNon (.int i) = false := Eq.trans rfl rfl
@[simp] theorem in_tup (i) : isNon (.tup i) = false := Eq.trans rfl rfl
@[simp] theorem co_eq (S a b) : cmpop S .eq a b = if isPure 60 (top S a) && isPure 60 (top S b) then some (eqD 60 (top S a) (top S b)) else none := Eq.trans rfl rfl
@[simp] theorem co_ne (S a b) : cmpop S .ne a b = if isPure 60 (top S a) && isPure 60 (top S b) then some (!eqD 60 (top S a) (top S b)) else none := Eq.trans rfl rfl
@[simp] theorem co_in (S a b) : cmpop S .isin a b = cmpop.member S a b := Eq.trans rfl rfl
@[simp] theorem co_notin (S a b) : cmpop S .notin a b = (cmpop.member S a b).map not := Eq.trans rfl rfl
theorem member_seq {S a b l} (h : seqOf S b = some l) : cmpop.member S a b = if isPure 60 a && l.all (isPure 60) then some (l.any fun x => eqD 60 x a) else none := by
  unfold cmpop.member; rw [h]; rfl
@[simp] theorem mb_tup (S a l) : cmpop.member S a (.tup l) = if isPure 60 a && l.all (isPure 60) then some (l.any fun x => eqD 60 x a) else none := Eq.trans rfl rfl
@[simp] theorem mb_xtp (S a l) : cmpop.member S a (.xtp l) = if isPure 60 a && l.all (isPure 60) then some (l.any fun x => eqD 60 x a) else none := Eq.trans rfl rfl
@[simp] theorem mb_lst (S a l) : cmpop.member S a (.lst l) = if isPure 60 a && l.all (isPure 60) then some (l.any fun x => eqD 60 x a) else none := Eq.trans rfl rfl
theorem member_dct {S a b t l} (h0 : seqOf S b = none) (h : dctOf S b = some (t, l)) : cmpop.member S a b = if isKey t a then some (findK a l).isSome else (if isNon a && !t then some false else none) := by
  unfold cmpop.member; rw [h0, h]
@[simp] theorem mb_dct (S a t ks vs) : cmpop.member S a (.dct t ks vs) = if isKey t a then some (findK a (ks.zip vs)).isSome else (if isNon a && !t then some false else none) := Eq.trans rfl rfl
@[simp] theorem eqd_int (n i j) : eqD (n+1) (.int i) (.int j) = (i == j) := Eq.trans rfl rfl
@[simp] theorem eqd_nn (n) : eqD (n+1) .non .non = true := Eq.trans rfl rfl
@[simp] theorem eqd_ni (n i) : eqD (n+1) .non (.int i) = false := Eq.trans rfl rfl
@[simp] theorem eqd_in (n i) : eqD (n+1) (.int i) .non = false := Eq.trans rfl rfl
@[simp] theorem eqd_bl (n i j) : eqD (n+1) (.bl i) (.bl j) = (i == j) := Eq.trans rfl rfl
@[simp] theorem key_int (i) : isKey false (.int i) = true := Eq.trans rfl rfl
@[simp] theorem key_non : isKey false .non = false := Eq.trans rfl rfl
@[simp] theorem key_tup (l) : isKey true (.tup l) = l.all leafK := by unfold isKey; simp
@[simp] theorem leaf_int (i) : leafK (.int i) = true := Eq.trans rfl rfl
@[simp] theorem ix_eq (S o i) : ixop S o i = (match dctOf S o with
  | some (t, l) => if isKey t i then findK i l else none
  | none => match seqOf S o, i with
    | some l, .int k => (match ixN l.length k with | some n => l[n]? | none => none)
    | _, _ => none) := Eq.trans rfl rfl
@[simp] theorem sl_tup (S l lo hi) : slop S (.tup l) lo hi = some (.tup (cut l lo hi)) := Eq.trans rfl rfl
@[simp] theorem sl_lst (S l lo hi) : slop S (.lst l) lo hi = some (.lst (cut l lo hi)) := Eq.trans rfl rfl
/-! built-in functions -/
@[simp] theorem biE_false (b S l) : biE false b S l = (match biop S b l with | none => .bad | some r => .ok r S) := by
  unfold biE; cases biop S b l <;> rfl
@[simp] theorem bi_len_str (S s) : biop S .len [.str s] = if lineOk s.length then some (.int s.length) else none := Eq.trans rfl rfl
@[simp] theorem bi_len_tup (S s) : biop S .len [.tup s] = some (.int s.length) := Eq.trans rfl rfl
@[simp] theorem bi_len_xtp (S s) : biop S .len [.xtp s] = some (.int s.length) := Eq.trans rfl rfl
@[simp] theorem bi_len_lst (S s) : biop S .len [.lst s] = some (.int s.length) := Eq.trans rfl rfl
theorem bi_len_seq {S d l} (h : seqOf S d = some l) (hs : ∀ s, d ≠ .str s) : biop S .len [d] = some (.int l.length) := by
  cases d <;> first | (exact absurd rfl (hs _)) | (simp only [biop]; rw [h])
@[simp] theorem bi_len_ref (S n) : biop S .len [.ref n] = (match seqOf S (.ref n) with
      | some l => some (.int l.length)
      | none => match dctOf S (.ref n) with | some (_, l) => some (.int l.length) | none => none) := Eq.trans rfl rfl
@[simp] theorem bi_tuple (S d) : biop S .tuple [d] = (tupOf S d).map .tup := by unfold biop; rfl
@[simp] theorem bi_xtuple (S d) : biop S .xtuple [d] = (lstOf S d).map .xtp := by unfold biop; rfl
@[simp] theorem to_tup (S l) : tupOf S (.tup l) = some l := Eq.trans rfl rfl
@[simp] theorem to_lst (S l) : tupOf S (.lst l) = some l := Eq.trans rfl rfl
@[simp] theorem bi_list (S d) : biop S .list [d] = (seqOf S d).map .lst := by unfold biop; rfl
@[simp] theorem bi_all (S d) : biop S .all [d] = (match lstOf S d with | some l => (boolsD l).map fun bs => .bl (bs.all id) | none => none) := by unfold biop; rfl
@[simp] theorem bi_any (S d) : biop S .any [d] = (match lstOf S d with | some l => (boolsD l).map fun bs => .bl (bs.any id) | none => none) := by unfold biop; rfl
@[simp] theorem bi_max1 (S d) : biop S .max [d] = (match lstOf S d with | some l => (match intsD l with | some (i :: r) => some (.int (maxI i r)) | _ => none) | none => none) := by unfold biop; rfl
@[simp] theorem bi_min1 (S d) : biop S .min [d] = (match lstOf S d with | some l => (match intsD l with | some (i :: r) => some (.int (minI i r)) | _ => none) | none => none) := by unfold biop; rfl
@[simp] theorem bi_sum (S d) : biop S .sum [d] = (match lstOf S d with | some l => (intsD l).map fun is => .int is.sum | none => none) := by unfold biop; rfl
@[simp] theorem bi_abs (S i) : biop S .abs [.int i] = some (.int (if i < 0 then -i else i)) := by unfold biop; rfl
@[simp] theorem bi_int (S i) : biop S .int [.int i] = some (.int i) := by unfold biop; rfl
@[simp] theorem bi_sorted (S d) : biop S .sorted [d] = (match lstOf S d with
    | some l => (sortD l).map .lst
    | none => match dctOf S d with | some (_, l) => (sortD (l.map (·.1))).map .lst | none => none) := by unfold biop; rfl
@[simp] theorem bi_dict (S d) : biop S .dict [d] = (match lstOf S d with
    | some l => (match pairsOf l with
      | some kvs => if kvs.all fun p => isKey false p.1 then (let z := mergeD [] kvs; some (.dct false (z.map (·.1)) (z.map (·.2)))) else none
      | none => none)
    | none => none) := by unfold biop; rfl
@[simp] theorem boxT (l S) : boxL true l S = if lineOk l.length then .ok (.ref S.length) (S ++ [⟨false, .lst l⟩]) else .bad := Eq.trans rfl rfl
@[simp] theorem boxF (l S) : boxL false l S = if lineOk l.length then .ok (.lst l) S else .bad := Eq.trans rfl rfl
@[simp] theorem lineOk_eq (n) : lineOk n = decide (n ≤ 16777216) := Eq.trans rfl rfl
theorem xlineOk_le {n : Nat} (h : n ≤ 16777216) : lineOk n = true := by simp [lineOk, h]
@[simp] theorem ev_none {α : Type} (f : α → D) : Option.map f none = none := Eq.trans rfl rfl
/-! walks -/
@[simp] theorem fv_tup (S l) : flatV (.tup l) S = .ok (l, none) S := Eq.trans rfl rfl
@[simp] theorem fv_xtp (S l) : flatV (.xtp l) S = .ok (l, none) S := Eq.trans rfl rfl
@[simp] theorem fv_lst (S l) : flatV (.lst l) S = .ok (l, none) S := Eq.trans rfl rfl
@[simp] theorem fv_dct (S t k v) : flatV (.dct t k v) S = .ok (k, none) S := Eq.trans rfl rfl
@[simp] theorem fv_ref (S n) : flatV (.ref n) S = (match S[n]? with
    | some ⟨false, .lst l⟩ => .ok (l, some n) S
    | some ⟨false, .dct _ l⟩ => .ok (l.map (·.1), some n) S
    | _ => flatD (.ref n) S) := Eq.trans rfl rfl
@[simp] theorem fd_tup (S l) : flatD (.tup l) S = .ok (l, none) S := Eq.trans rfl rfl
@[simp] theorem fd_xtp (S l) : flatD (.xtp l) S = .ok (l, none) S := Eq.trans rfl rfl
@[simp] theorem fd_lst (S l) : flatD (.lst l) S = .ok (l, none) S := Eq.trans rfl rfl
@[simp] theorem en_tup (S l) : enmD (.tup l) S = .ok (enumD 0 l, none) S := Eq.trans rfl rfl
@[simp] theorem en_xtp (S l) : enmD (.xtp l) S = .ok (enumD 0 l, none) S := Eq.trans rfl rfl
@[simp] theorem en_lst (S l) : enmD (.lst l) S = .ok (enumD 0 l, none) S := Eq.trans rfl rfl
@[simp] theorem r1 (S a) : rng1D (.int a) S = if ok62 a then .ok (rangeD 0 1 a.toNat, none) S else .bad := Eq.trans rfl rfl
@[simp] theorem r2 (S a b) : rng2D (.int a) (.int b) S = if ok62 a && ok62 b then .ok (rangeD a 1 (b - a).toNat, none) S else .bad := Eq.trans rfl rfl
@[simp] theorem lockN (b S) : lockAt b none S = S := Eq.trans rfl rfl
@[simp] theorem unl_none_ok (f g S dk) : unlockRS none dk (.ok f g S) = .ok f g S := Eq.trans rfl rfl
@[simp] theorem unl_none_exc (c p g S) : unlockRS none false (.exc c p g S) = .exc c p g S := Eq.trans rfl rfl
theorem unl_none (r) : unlockRS none false r = r := by cases r <;> rfl
@[simp] theorem fin_next (m g S) : finish m (.ok .next g S) = .ok .non (S.take m) := Eq.trans rfl rfl
@[simp] theorem fin_ret (m d g S) : finish m (.ok (.ret d) g S) = (match unbox m S 60 d with | some v => .ok v (S.take m) | none => .bad) := Eq.trans rfl rfl
@[simp] theorem fin_exc (m c p g S) : finish m (.exc c p g S) = (match unbox m S 60 p with | some v => .exc c v (S.take m) | none => .bad) := Eq.trans rfl rfl
@[simp] theorem ub_non (m S n) : unbox m S (n+1) .non = some .non := Eq.trans rfl rfl
@[simp] theorem ub_bl (m S n b) : unbox m S (n+1) (.bl b) = some (.bl b) := Eq.trans rfl rfl
@[simp] theorem ub_int (m S n b) : unbox m S (n+1) (.int b) = some (.int b) := Eq.trans rfl rfl
@[simp] theorem ub_str (m S n b) : unbox m S (n+1) (.str b) = some (.str b) := Eq.trans rfl rfl
@[simp] theorem setEnv_eq (g i d) : setEnv g i d = g.set i (some d) := Eq.trans rfl rfl
@[simp] theorem wipe_nil (g) : wipeE g [] = g := Eq.trans rfl rfl
@[simp] theorem wipe_cons (g i r) : wipeE g (i :: r) = (wipeE g r).set i none := Eq.trans rfl rfl
/-! a list comprehension whose parts change nothing -/
theorem compL_pure {E : EvF} {T : TtF} {elt : Ex} {tg : Pat} {ifs : List Ex} {g : GE} {S : Sto} (p : D → Bool) (f : D → D) : ∀ (items : List D) (acc : List D), acc.length + items.length ≤ 16777216 →
    (∀ d ∈ items, ∀ acc, ∃ g1, asgN tg d g = some g1 ∧ ttAnd T ifs g1 (S ++ [⟨false, .lst acc⟩]) = .ok (p d) (S ++ [⟨false, .lst acc⟩]) ∧
      (p d = true → E elt g1 (S ++ [⟨false, .lst acc⟩]) = .ok (f d) (S ++ [⟨false, .lst acc⟩]))) →
    compL E T elt tg ifs g S.length items (S ++ [⟨false, .lst acc⟩]) = .ok () (S ++ [⟨false, .lst (acc ++ (items.filter p).map f)⟩])
  | [], acc, _, _ => by simp [compL]
  | d :: r, acc, hl, H => by
    obtain ⟨g1, h1, h2, h3⟩ := H d (by simp) acc
    unfold compL
    rw [h1]
    dsimp only
    rw [h2]
    simp only [noX_ok, bind_ok]
    have ih := compL_pure (E := E) (T := T) (elt := elt) (tg := tg) (ifs := ifs) (g := g) (S := S) p f r
    simp only [List.length_cons] at hl
    cases hp : p d
    · simp only [Bool.false_eq_true, if_false]
      rw [ih acc (by omega) fun x hx => H x (by simp [hx])]
      simp [List.filter_cons, hp]
    · simp only [if_true]
      rw [h3 hp]
      simp only [noX_ok, bind_ok]
      rw [getA0]
      simp only [List.getElem?_cons_zero]
      rw [xlineOk_le (by omega)]
      simp only [if_true]
      rw [setA0]
      simp only [List.set_cons_zero]
      rw [ih (acc ++ [f d]) (by simp; omega) fun x hx => H x (by simp [hx])]
      simp [List.filter_cons, hp]
theorem compLA_pure {E : EvF} {T : TtF} {elt : Ex} {tg : Pat} {ifs : List Ex} {g : GE} {S : Sto} {α : Type} (enc : α → D) (p : α → Bool) (f : α → D) : ∀ (items : List α) (acc : List D), acc.length + items.length ≤ 16777216 →
    (∀ a ∈ items, ∀ acc, ∃ g1, asgN tg (enc a) g = some g1 ∧ ttAnd T ifs g1 (S ++ [⟨false, .lst acc⟩]) = .ok (p a) (S ++ [⟨false, .lst acc⟩]) ∧
      (p a = true → E elt g1 (S ++ [⟨false, .lst acc⟩]) = .ok (f a) (S ++ [⟨false, .lst acc⟩]))) →
    compL E T elt tg ifs g S.length (items.map enc) (S ++ [⟨false, .lst acc⟩]) = .ok () (S ++ [⟨false, .lst (acc ++ (items.filter p).map f)⟩])
  | [], acc, _, _ => by simp [compL]
  | d :: r, acc, hl, H => by
    obtain ⟨g1, h1, h2, h3⟩ := H d (by simp) acc
    rw [List.map_cons]
    unfold compL
    rw [h1]
    dsimp only
    rw [h2]
    simp only [noX_ok, bind_ok]
    have ih := compLA_pure (E := E) (T := T) (elt := elt) (tg := tg) (ifs := ifs) (g := g) (S := S) enc p f r
    simp only [List.length_cons] at hl
    cases hp : p d
    · simp only [Bool.false_eq_true, if_false]
      rw [ih acc (by omega) fun x hx => H x (by simp [hx])]
      simp [List.filter_cons, hp]
    · simp only [if_true]
      rw [h3 hp]
      simp only [noX_ok, bind_ok]
      rw [getA0]
      simp only [List.getElem?_cons_zero]
      rw [xlineOk_le (by omega)]
      simp only [if_true]
      rw [setA0]
      simp only [List.set_cons_zero]
      rw [ih (acc ++ [f d]) (by simp; omega) fun x hx => H x (by simp [hx])]
      simp [List.filter_cons, hp]
theorem compD_pure {E : EvF} {T : TtF} {elt : Ex} {tg : Pat} {ifs : List Ex} {g : GE} {S : Sto} {items : List D} {o : Option Nat} (p : D → Bool) (f : D → D) (hl : items.length ≤ 16777216)
    (H : ∀ d ∈ items, ∀ acc, ∃ g1, asgN tg d g = some g1 ∧ ttAnd T ifs g1 (S ++ [⟨false, .lst acc⟩]) = .ok (p d) (S ++ [⟨false, .lst acc⟩]) ∧
      (p d = true → E elt g1 (S ++ [⟨false, .lst acc⟩]) = .ok (f d) (S ++ [⟨false, .lst acc⟩])))
    (hb : ∀ d ∈ items, p d = true → below S.length 60 (f d) = true) :
    (compL E T elt tg ifs g S.length items (S ++ [⟨false, .lst []⟩])).bind (fun _ S2 => compEnd false S.length o S2) = .ok (.lst ((items.filter p).map f)) (lockAt false o S) := by
  rw [compL_pure p f items [] (by simpa using hl) H]
  simp only [bind_ok, List.nil_append]
  unfold compEnd
  rw [getA0]
  simp only [List.getElem?_cons_zero, Bool.false_eq_true, if_false]
  rw [if_pos, takeA]
  simp only [lenA, List.length_cons, List.length_nil, Nat.zero_add, decide_true, Bool.true_and, List.all_eq_true, List.mem_map, List.mem_filter, forall_exists_index, and_imp, deep_eq]
  rintro x a ha hp rfl
  exact hb a ha hp
/-! a comprehension over values, in a def -/
theorem ev_compP {nf call n ms elt tg it ifs own g S} {α : Type} (l : List α) (enc : α → D) (p : α → Bool) (f : α → D)
    (hi : itE (EV nf call n ms) it g S = .ok (l.map enc, none) S) (hl : l.length ≤ 16777216)
    (H : ∀ a ∈ l, ∀ acc, ∃ g1, asgN tg (enc a) (wipeE g own) = some g1 ∧ ttAnd (TV nf call n (S.length :: ms)) ifs g1 (S ++ [⟨false, .lst acc⟩]) = .ok (p a) (S ++ [⟨false, .lst acc⟩]) ∧
      (p a = true → (EV nf call n (S.length :: ms)) elt g1 (S ++ [⟨false, .lst acc⟩]) = .ok (f a) (S ++ [⟨false, .lst acc⟩])))
    (hb : ∀ a ∈ l, p a = true → below S.length 60 (f a) = true) :
    (EV nf call (n+1) ms) (.comp false elt tg it ifs own) g S = .ok (.lst ((l.filter p).map f)) S := by
  rw [ev_comp, hi, bind_ok]
  unfold compD
  simp only [lockN]
  rw [compLA_pure enc p f l [] (by simpa using hl) H]
  simp only [bind_ok, List.nil_append]
  unfold compEnd
  rw [getA0]
  simp only [List.getElem?_cons_zero, Bool.false_eq_true, if_false]
  rw [if_pos, takeA, lockN]
  simp only [lenA, List.length_cons, List.length_nil, Nat.zero_add, decide_true, Bool.true_and, List.all_eq_true, List.mem_map, List.mem_filter, forall_exists_index, and_imp, deep_eq]
  rintro x a ha hp rfl
  exact hb a ha hp
/-- .. without a test -/
theorem ev_compM {nf call n ms elt tg it own g S} {α : Type} (l : List α) (enc : α → D) (f : α → D)
    (hi : itE (EV nf call n ms) it g S = .ok (l.map enc, none) S) (hl : l.length ≤ 16777216)
    (H : ∀ a ∈ l, ∀ acc, ∃ g1, asgN tg (enc a) (wipeE g own) = some g1 ∧
      ((EV nf call n (S.length :: ms)) elt g1 (S ++ [⟨false, .lst acc⟩]) = .ok (f a) (S ++ [⟨false, .lst acc⟩])))
    (hb : ∀ a ∈ l, below S.length 60 (f a) = true) :
    (EV nf call (n+1) ms) (.comp false elt tg it [] own) g S = .ok (.lst (l.map f)) S := by
  have := ev_compP (ifs := []) l enc (fun _ => true) f hi hl (fun d hd acc => by
    obtain ⟨g1, h1, h2⟩ := H d hd acc
    exact ⟨g1, h1, rfl, fun _ => h2⟩) (fun d hd _ => hb d hd)
  rw [this]
  congr 3
  exact List.filter_eq_self.mpr fun _ _ => rfl
theorem boolsD_map {α : Type} (l : List α) (p : α → Bool) : boolsD (l.map fun a => D.bl (p a)) = some (l.map p) := by
  induction l with
  | nil => rfl
  | cons a l ih => simp [boolsD, ih]
theorem intsD_map {α : Type} (l : List α) (p : α → Int) : intsD (l.map fun a => D.int (p a)) = some (l.map p) := by
  induction l with
  | nil => rfl
  | cons a l ih => simp [intsD, ih]
theorem maxI_le : ∀ (l : List Int) (i b : Int), i ≤ b → (∀ x ∈ l, x ≤ b) → maxI i l ≤ b
  | [], i, b, h, _ => h
  | j :: r, i, b, h, hr => by
    unfold maxI
    apply maxI_le r _ b _ fun x hx => hr x (by simp [hx])
    split
    · exact hr j (by simp)
    · exact h
@[simp] theorem intsD_cons (i l) : intsD (.int i :: l) = (intsD l).map (i :: ·) := Eq.trans rfl rfl
@[simp] theorem below_int (m n i) : below m (n+1) (.int i) = true := Eq.trans rfl rfl
@[simp] theorem xbelow_bl (m n i) : below m (n+1) (.bl i) = true := Eq.trans rfl rfl
@[simp] theorem below_non (m n) : below m (n+1) .non = true := Eq.trans rfl rfl
@[simp] theorem below_str (m n s) : below m (n+1) (.str s) = true := Eq.trans rfl rfl
@[simp] theorem below_tup (m n l) : below m (n+1) (.tup l) = l.all (below m n) := Eq.trans rfl rfl
@[simp] theorem below_xtp (m n l) : below m (n+1) (.xtp l) = l.all (below m n) := Eq.trans rfl rfl
@[simp] theorem below_lst (m n l) : below m (n+1) (.lst l) = l.all (below m n) := Eq.trans rfl rfl
@[simp] theorem below_dct (m n t k v) : below m (n+1) (.dct t k v) = (k.all (below m n) && v.all (below m n)) := Eq.trans rfl rfl
@[simp] theorem mb_ref (S a n) : cmpop.member S a (.ref n) = (match seqOf S (.ref n) with
  | some l => if isPure 60 a && l.all (isPure 60) then some (l.any fun x => eqD 60 x a) else none
  | none => match dctOf S (.ref n) with
    | some (t, l) => if isKey t a then some (findK a l).isSome else (if isNon a && !t then some false else none)
    | none => none) := Eq.trans rfl rfl
@[simp] theorem set_ref (ms S n k d) : setop ms S (.ref n) k d = (match S[n]? with
    | some ⟨false, .lst l⟩ => (match k with
      | .int z => (match ixN l.length z with
        | some j => if writable ms n d then some (S.set n ⟨false, .lst (l.set j d)⟩) else none
        | none => none)
      | _ => none)
    | some ⟨false, .dct t l⟩ => if isKey t k && writable ms n d && lineOk (l.length + 1) then some (S.set n ⟨false, .dct t (putK k d l)⟩) else none
    | _ => none) := Eq.trans rfl rfl
@[simp] theorem wr_eq (ms n d) : writable ms n d = ms.all fun m => decide (m ≤ n) || below m 60 d := Eq.trans rfl rfl
@[simp] theorem bmOk_append (S n) : bmOk S .append (.ref n) = (lstOf S (.ref n)).isSome := Eq.trans rfl rfl
@[simp] theorem bmOk_get (S d) : bmOk S .get d = (dctOf S d).isSome := Eq.trans rfl rfl
@[simp] theorem bmOk_update (S d) : bmOk S .update d = (dctOf S d).isSome := Eq.trans rfl rfl
@[simp] theorem bmOk_count (S d) : bmOk S .count d = (cntOf S d).isSome := Eq.trans rfl rfl
@[simp] theorem xbm_append (ms S n d) : bmop ms S .append (.ref n) [d] = (match S[n]? with
    | some ⟨false, .lst l⟩ => if writable ms n d && lineOk (l.length + 1) then .ok .non (S.set n ⟨false, .lst (l ++ [d])⟩) else .bad
    | _ => .bad) := Eq.trans rfl rfl
@[simp] theorem xbm_get (ms S d k x) : bmop ms S .get d [k, x] = (match dctOf S d with
    | some (t, l) => if isKey t k then .ok ((findK k l).getD x) S else .bad
    | none => .bad) := by unfold bmop; rfl
theorem ub_dct {m k n t lk l} {S : Sto} (h : S[k]? = some ⟨lk, .dct t l⟩) (hk : ¬ k < m) (hl : ∀ p ∈ l, below m n p.1 = true ∧ below m n p.2 = true) : unbox m S (n+1) (.ref k) = some (.dct t (l.map (·.1)) (l.map (·.2))) := by
  simp only [unbox, hk, if_false, h]
  rw [mapM_id (l := l.map (·.1)) (by simp only [List.mem_map]; rintro d ⟨p, hp, rfl⟩; exact unbox_below (hl p hp).1), mapM_id (l := l.map (·.2)) (by simp only [List.mem_map]; rintro d ⟨p, hp, rfl⟩; exact unbox_below (hl p hp).2)]
theorem ub_lst {m k n lk l} {S : Sto} (h : S[k]? = some ⟨lk, .lst l⟩) (hk : ¬ k < m) (hl : ∀ p ∈ l, below m n p = true) : unbox m S (n+1) (.ref k) = some (.lst l) := by
  simp only [unbox, hk, if_false, h]
  rw [mapM_id (l := l) fun p hp => unbox_below (hl p hp)]
  rfl
theorem ixN_nat {n i : Nat} (h : i < n) : ixN n (i : Int) = some i := by
  unfold ixN
  rw [if_pos (by omega), if_pos (by omega)]
  simp
theorem forL_cons (X tg b d r g S) : forL X tg b (d :: r) g S = optG (asgN tg d g) fun g1 => (X b g1 S).loop fun g2 S2 => forL X tg b r g2 S2 := by
  conv => lhs; unfold forL
  cases asgN tg d g with
  | none => rfl
  | some g1 =>
    rw [optG_some]
    dsimp only
    cases X b g1 S with
    | ok f g2 S2 => cases f <;> rfl
    | exc c p g2 S2 => rfl
    | bad => rfl
theorem whl_step (T X c b n g S) : whlL T X c b (n+1) g S = (T c g S).st g fun t S1 => if t then (X b g S1).loop fun g2 S2 => whlL T X c b n g2 S2 else .ok .next g S1 := by
  refine Eq.trans (show _ = (T c g S).st g fun t S1 => if t then
      match X b g S1 with
      | .ok .next g2 S2 => whlL T X c b n g2 S2
      | .ok .cnt g2 S2 => whlL T X c b n g2 S2
      | .ok .brk g2 S2 => .ok .next g2 S2
      | z => z
    else .ok .next g S1 from rfl) ?_
  refine congrArg (R.st (T c g S) g) ?_
  funext t S1
  cases t with
  | false => rfl
  | true =>
    simp only [if_true]
    cases X b g S1 with
    | ok f g2 S2 => cases f <;> rfl
    | exc c p g2 S2 => rfl
    | bad => rfl
end MP

set_option linter.all false
namespace Mk58
open MP PySem
def b0 : List MP.St := [.ret (.and [.isin (.var 0) .int, .not (.isin (.var 0) .bool)])] -- is_integer ['value']
def b1 : List MP.St := [.ite (.or [.not (.isin (.var 0) .tuple), .not (.bi false .all [.comp false (.isin (.var 1) .tuple) (.v 1) (.var 0) [] [1]])]) [.raise 1 (.con (.str "form"))] [], .ite (.cmp .gt (.bi false .len [.var 0]) (.con (.int 40))) [.raise 1 (.con (.str "cells"))] [], .ite (.cmp .gt (.bi false .max [.bin .add (.lst false [.con (.int 0)]) (.comp false (.bi false .len [.var 1]) (.v 1) (.var 0) [] [1])]) (.con (.int 6))) [.raise 1 (.con (.str "fields"))] [], .for_ (.v 1) (.var 0) [.ite (.not (.bi false .all [.comp false (.call 2 [.var 0, .var 2]) (.v 2) (.var 1) [] [2]])) [.raise 1 (.con (.str "way"))] []]] -- check_heap ['heap', 'cell', 'field']
def b2 : List MP.St := [.ret (.or [.cmp .isn (.var 1) (.con .non), .and [.call 0 [.var 1], .cmp2 .le .lt (.con (.int 0)) (.var 1) (.bi false .len [.var 0])]])] -- is_field ['heap', 'value']
def b3 : List MP.St := [.ite (.or [.not (.isin (.var 1) .tuple), .cmp .gt (.bi false .len [.var 1]) (.con (.int 8)), .not (.bi false .all [.comp false (.call 2 [.var 0, .var 2]) (.v 2) (.var 1) [] [2]])]) [.raise 2 (.con (.str "roots"))] []] -- check_roots ['heap', 'roots', 'root']
def b4 : List MP.St := [.ite (.or [.not (.call 0 [.var 1]), .not (.cmp2 .le .lt (.con (.int 0)) (.var 1) (.bi false .len [.var 0]))]) [.raise 2 (.con (.str "cell"))] []] -- check_cell ['heap', 'cell']
def b5 : List MP.St := [.ex (.call 1 [.var 0]), .ex (.call 3 [.var 0, .var 1])] -- check_both ['heap', 'roots']
def b6 : List MP.St := [.asg (.p (.v 2)) (.dct false [] []), .asg (.p (.v 3)) (.lst true []), .for_ (.tup [.v 4, .v 5]) (.enum (.var 1)) [.ite (.and [.cmp .isnn (.var 5) (.con .non), .cmp .notin (.var 5) (.var 2)]) [.asg (.sub (.var 2) (.var 5)) (.tup [.var 4]), .ex (.bm .append (.var 3) [.var 5])] []], .asg (.p (.v 6)) (.con (.int 0)), .whl (.cmp .lt (.var 6) (.bi false .len [.var 3])) [.asg (.p (.v 7)) (.ix (.var 3) (.var 6)), .for_ (.tup [.v 8, .v 9]) (.enum (.ix (.var 0) (.var 7))) [.ite (.and [.cmp .isnn (.var 9) (.con .non), .cmp .notin (.var 9) (.var 2)]) [.asg (.sub (.var 2) (.var 9)) (.bin .add (.ix (.var 2) (.var 7)) (.tup [.var 8])), .ex (.bm .append (.var 3) [.var 9])] []], .aug 6 .add (.con (.int 1))], .ret (.var 2)] -- first_ways ['heap', 'roots', 'found', 'queue', 'slot', 'root', 'at', 'here', 'number', 'field']
def b7 : List MP.St := [.ret (.bi false .sorted [.call 6 [.var 0, .bi false .tuple [.var 1]]])] -- reached_from ['heap', 'some']
def b8 : List MP.St := [.ex (.call 5 [.var 0, .var 1]), .ret (.bi false .tuple [.bi false .sorted [.call 6 [.var 0, .var 1]]])] -- kept ['heap', 'roots']
def b9 : List MP.St := [.ex (.call 5 [.var 0, .var 1]), .asg (.p (.v 2)) (.call 6 [.var 0, .var 1]), .ret (.bi false .tuple [.comp false (.var 3) (.v 3) (.rng [.bi false .len [.var 0]]) [.cmp .notin (.var 3) (.var 2)] [3]])] -- freed ['heap', 'roots', 'ways', 'cell']
def b10 : List MP.St := [.asg (.p (.v 3)) (.ite (.cmp .lt (.ix (.var 2) (.con (.int 0))) (.bi false .len [.var 1])) (.ix (.var 1) (.ix (.var 2) (.con (.int 0)))) (.con .non)), .for_ (.v 4) (.sl (.var 2) (some (.con (.int 1))) none) [.ite (.or [.cmp .isn (.var 3) (.con .non), .cmp .ge (.var 4) (.bi false .len [.ix (.var 0) (.var 3)])]) [.ret (.con .non)] [], .asg (.p (.v 3)) (.ix (.ix (.var 0) (.var 3)) (.var 4))], .ret (.var 3)] -- end_of ['heap', 'roots', 'way', 'here', 'number']
def b11 : List MP.St := [.ex (.call 5 [.var 0, .var 1]), .ex (.call 4 [.var 0, .var 2]), .asg (.p (.v 3)) (.call 6 [.var 0, .var 1]), .ite (.cmp .isin (.var 2) (.var 3)) [.ret (.tup [.con (.str "way"), .ix (.var 3) (.var 2)])] [], .ret (.tup [.con (.str "free"), .bi false .tuple [.comp false (.var 4) (.v 4) (.rng [.bi false .len [.var 0]]) [.cmp .notin (.var 4) (.var 3)] [4]]])] -- judge_cell ['heap', 'roots', 'cell', 'ways', 'other']
def b12 : List MP.St := [.ex (.call 5 [.var 0, .var 1]), .ex (.call 4 [.var 0, .var 2]), .ite (.or [.not (.isin (.var 3) .tuple), .not (.var 3), .not (.bi false .all [.comp false (.and [.call 0 [.var 4], .cmp .ge (.var 4) (.con (.int 0))]) (.v 4) (.var 3) [] [4]])]) [.raise 3 (.con (.str "form"))] [], .ite (.cmp .ne (.call 10 [.var 0, .var 1, .var 3]) (.var 2)) [.raise 3 (.con (.str "end"))] []] -- accept_way ['heap', 'roots', 'cell', 'way', 'part']
def b13 : List MP.St := [.ite (.or [.not (.isin (.var 1) .tuple), .not (.bi false .all [.comp false (.and [.call 0 [.var 2], .cmp2 .le .lt (.con (.int 0)) (.var 2) (.bi false .len [.var 0])]) (.v 2) (.var 1) [] [2]])]) [.ret (.con (.bl false))] [], .ret (.bi false .all [.comp false (.cmp .lt (.ix (.var 1) (.var 3)) (.ix (.var 1) (.bin .add (.var 3) (.con (.int 1))))) (.v 3) (.rng [.bin .sub (.bi false .len [.var 1]) (.con (.int 1))]) [] [3]])] -- is_set ['heap', 'value', 'one', 'at']
def b14 : List MP.St := [.ex (.call 5 [.var 0, .var 1]), .ex (.call 4 [.var 0, .var 2]), .ite (.not (.call 13 [.var 0, .var 3])) [.raise 3 (.con (.str "form"))] [], .ite (.cmp .notin (.var 2) (.var 3)) [.raise 3 (.con (.str "cell"))] [], .ite (.comp false (.var 5) (.v 5) (.var 1) [.cmp .isin (.var 5) (.var 3)] [5]) [.raise 3 (.con (.str "root"))] [], .for_ (.v 4) (.rng [.bi false .len [.var 0]]) [.ite (.and [.cmp .notin (.var 4) (.var 3), .comp false (.var 6) (.v 6) (.ix (.var 0) (.var 4)) [.cmp .isin (.var 6) (.var 3)] [6]]) [.raise 3 (.con (.str "way"))] []]] -- accept_free ['heap', 'roots', 'cell', 'cells', 'other', 'root', 'field']
def b15 : List MP.St := [.ex (.call 5 [.var 0, .var 1]), .ex (.call 4 [.var 0, .var 2]), .asg (.p (.v 3)) (.dct false [.var 2] [.con (.bl true)]), .asg (.p (.v 4)) (.con (.bl true)), .whl (.var 4) [.asg (.p (.v 4)) (.con (.bl false)), .for_ (.tup [.v 5, .v 6]) (.enum (.var 0)) [.ite (.and [.cmp .notin (.var 5) (.var 3), .comp false (.var 7) (.v 7) (.var 6) [.cmp .isin (.var 7) (.var 3)] [7]]) [.asg (.sub (.var 3) (.var 5)) (.con (.bl true)), .asg (.p (.v 4)) (.con (.bl true))] []]], .ite (.comp false (.var 8) (.v 8) (.var 1) [.cmp .isin (.var 8) (.var 3)] [8]) [.ret (.con .non)] [], .ret (.bi false .tuple [.bi false .sorted [.var 3]])] -- least_free ['heap', 'roots', 'cell', 'found', 'grown', 'other', 'fields', 'field', 'root']
def b16 : List MP.St := [.ex (.call 5 [.var 0, .var 1]), .ex (.call 4 [.var 0, .var 2]), .asg (.p (.v 3)) (.call 6 [.var 0, .var 1]), .asg (.p (.v 4)) (.bi false .len [.comp false (.var 5) (.v 5) (.var 1) [.cmp .eq (.var 5) (.var 2)] [5]]), .ret (.bin .add (.var 4) (.bi false .len [.comp2 false (.var 7) (.v 6) (.var 3) [] (.v 7) (.ix (.var 0) (.var 6)) [.cmp .eq (.var 7) (.var 2)] [6, 7] [7]]))] -- ways_count ['heap', 'roots', 'cell', 'ways', 'total', 'root', 'other', 'field']
def b17 : List MP.St := [.ex (.call 1 [.var 0]), .asg (.p (.v 1)) (.comp false (.call 7 [.var 0, .lst false [.var 3]]) (.v 3) (.rng [.bi false .len [.var 0]]) [] [3]), .asg (.p (.v 2)) (.dct true [] []), .for_ (.v 3) (.rng [.bi false .len [.var 0]]) [.asg (.p (.v 4)) (.bi false .tuple [.comp false (.var 5) (.v 5) (.ix (.var 1) (.var 3)) [.cmp .isin (.var 3) (.ix (.var 1) (.var 5))] [5]]), .ite (.or [.cmp .gt (.bi false .len [.var 4]) (.con (.int 1)), .cmp .isin (.var 3) (.ix (.var 0) (.var 3))]) [.asg (.sub (.var 2) (.var 4)) (.con (.bl true))] []], .ret (.bi false .tuple [.bi false .sorted [.var 2]])] -- rings ['heap', 'ahead', 'found', 'cell', 'ring', 'other']
def b18 : List MP.St := [.ex (.call 5 [.var 0, .var 1]), .asg (.p (.v 2)) (.call 6 [.var 0, .var 1]), .ret (.bi false .tuple [.comp false (.ite (.cmp .isin (.var 3) (.var 2)) (.bin .sub (.bi false .len [.ix (.var 2) (.var 3)]) (.con (.int 1))) (.con .non)) (.v 3) (.rng [.bi false .len [.var 0]]) [] [3]])] -- depth_of ['heap', 'roots', 'ways', 'cell']
def b19 : List MP.St := [.asg (.p (.v 1)) (.con (.int 7)), .for_ (.v 2) (.var 0) [.asg (.p (.v 1)) (.bin .add (.bin .mod (.bi false .int [.bin .add (.bin .mul (.var 1) (.con (.int 48271))) (.var 2)]) (.con (.int 2147483629))) (.con (.int 1)))], .ret (.lst true [.bi false .list [.var 0], .con (.int 0), .con (.int 0), .var 1])] -- _law_start ['script', 'seed', 'cell']
def b20 : List MP.St := [.ite (.and [.cmp .eq (.ix (.var 0) (.con (.int 1))) (.con (.int 0)), .cmp .ge (.ix (.var 0) (.con (.int 2))) (.bi false .len [.ix (.var 0) (.con (.int 0))])]) [.asg (.sub (.var 0) (.con (.int 3))) (.bin .mod (.bi false .int [.bin .add (.bin .mul (.ix (.var 0) (.con (.int 3))) (.con (.int 48271))) (.con (.int 69621))]) (.con (.int 2147483629))), .ret (.bin .mod (.bi false .int [.bin .fdiv (.ix (.var 0) (.con (.int 3))) (.con (.int 13))]) (.var 1))] [], .ite (.cmp .eq (.ix (.var 0) (.con (.int 1))) (.con (.int 0))) [.asg (.sub (.var 0) (.con (.int 1))) (.bi false .abs [.ix (.ix (.var 0) (.con (.int 0))) (.ix (.var 0) (.con (.int 2)))]), .asg (.sub (.var 0) (.con (.int 2))) (.bin .add (.ix (.var 0) (.con (.int 2))) (.con (.int 1)))] [], .asg (.p (.v 2)) (.bin .mod (.bi false .int [.ix (.var 0) (.con (.int 1))]) (.var 1)), .asg (.sub (.var 0) (.con (.int 1))) (.bin .fdiv (.ix (.var 0) (.con (.int 1))) (.var 1)), .ret (.var 2)] -- _law_draw ['state', 'many', 'value']
def b21 : List MP.St := [.ret (.ix (.var 1) (.call 20 [.var 0, .bi false .len [.var 1]]))] -- _law_pick ['state', 'some']
def b22 : List MP.St := [.ret (.and [.cmp .eq (.var 0) (.var 1), .reprEq (.var 0) (.var 1)])] -- _law_same ['actual', 'due']
def b23 : List MP.St := [.asg (.p (.v 2)) (.comp true (.var 6) (.v 6) (.var 1) [.cmp .isnn (.var 6) (.con .non)] [6]), .asg (.p (.v 3)) (.bi true .dict [.comp false (.tup [.var 6, .con (.bl true)]) (.v 6) (.var 2) [] [6]]), .asg (.p (.v 4)) (.con (.int 0)), .whl (.cmp .lt (.var 4) (.bi false .len [.var 2])) [.for_ (.v 5) (.ix (.var 0) (.ix (.var 2) (.var 4))) [.ite (.and [.cmp .isnn (.var 5) (.con .non), .cmp .notin (.var 5) (.var 3)]) [.asg (.sub (.var 3) (.var 5)) (.con (.bl true)), .ex (.bm .append (.var 2) [.var 5])] []], .asg (.p (.v 4)) (.bin .add (.var 4) (.con (.int 1)))], .ret (.bi false .sorted [.var 3])] -- _law_led ['heap', 'begin', 'gained', 'known', 'at', 'field', 'one']
def b24 : List MP.St := [.asg (.p (.tup [.v 1, .v 2, .v 3])) (.tup [.call 20 [.var 0, .con (.int 5)], .con (.int 40), .lst true []]), .for_ (.v 4) (.rng [.var 2]) [.asg (.p (.v 5)) (.lst false [.ite (.cmp .lt (.bin .add (.var 4) (.con (.int 1))) (.var 2)) (.bin .add (.var 4) (.con (.int 1))) (.call 21 [.var 0, .lst false [.con .non, .con (.int 0), .con (.int 20)]])]), .ite (.cmp .eq (.var 1) (.con (.int 1))) [.asg (.p (.v 5)) (.lst false [.ite (.cmp .lt (.bin .add (.var 4) (.con (.int 2))) (.var 2)) (.bin .add (.var 4) (.con (.int 2))) (.con .non), .ite (.cmp .gt (.var 4) (.con (.int 0))) (.bin .sub (.var 4) (.con (.int 1))) (.con .non)])] [], .ite (.cmp .eq (.var 1) (.con (.int 2))) [.asg (.p (.v 5)) (.lst false [.bin .add (.bin .mul (.bin .fdiv (.var 4) (.con (.int 5))) (.con (.int 5))) (.bin .mod (.bi false .int [.bin .add (.var 4) (.con (.int 1))]) (.con (.int 5))), .ite (.and [.cmp .lt (.bin .add (.var 4) (.con (.int 5))) (.var 2), .cmp .eq (.call 20 [.var 0, .con (.int 3)]) (.con (.int 0))]) (.bin .add (.var 4) (.con (.int 5))) (.con .non)])] [], .ite (.cmp .eq (.var 1) (.con (.int 3))) [.asg (.p (.v 5)) (.ite (.cmp .lt (.var 4) (.con (.int 7))) (.comp false (.bin .mod (.bi false .int [.bin .add (.bin .mul (.con (.int 6)) (.var 4)) (.var 6)]) (.con (.int 40))) (.v 6) (.rng [.con (.int 6)]) [] [6]) (.sl (.lst false [.con .non, .call 20 [.var 0, .var 2]]) none (some (.call 20 [.var 0, .con (.int 3)]))))] [], .ite (.cmp .eq (.var 1) (.con (.int 4))) [.asg (.p (.v 5)) (.comp false (.call 21 [.var 0, .lst false [.con .non, .con .non, .call 20 [.var 0, .var 2]]]) (.v 6) (.rng [.call 20 [.var 0, .con (.int 5)]]) [] [6])] [], .ex (.bm .append (.var 3) [.bi false .xtuple [.var 5]])], .ret (.bi false .xtuple [.var 3])] -- _law_great ['state', 'kind', 'many', 'gained', 'k', 'far', 'j']
def b25 : List MP.St := [.par [2, 3, 4] [.dct false [] [], .lst true [], .con (.int 0)], .for_ (.v 5) (.rng [.bi false .len [.var 1]]) [.ite (.and [.cmp .isnn (.ix (.var 1) (.var 5)) (.con .non), .cmp .notin (.ix (.var 1) (.var 5)) (.var 2)]) [.asg (.sub (.var 2) (.ix (.var 1) (.var 5))) (.tup [.var 5]), .ex (.bm .append (.var 3) [.ix (.var 1) (.var 5)])] []], .whl (.cmp .lt (.var 4) (.bi false .len [.var 3])) [.asg (.p (.v 6)) (.ix (.var 3) (.var 4)), .for_ (.v 7) (.rng [.bi false .len [.ix (.var 0) (.var 6)]]) [.ite (.and [.cmp .isnn (.ix (.ix (.var 0) (.var 6)) (.var 7)) (.con .non), .cmp .notin (.ix (.ix (.var 0) (.var 6)) (.var 7)) (.var 2)]) [.asg (.sub (.var 2) (.ix (.ix (.var 0) (.var 6)) (.var 7))) (.bin .add (.ix (.var 2) (.var 6)) (.tup [.var 7])), .ex (.bm .append (.var 3) [.ix (.ix (.var 0) (.var 6)) (.var 7)])] []], .asg (.p (.v 4)) (.bin .add (.var 4) (.con (.int 1)))], .ret (.var 2)] -- _law_ways ['heap', 'roots', 'ways', 'queue', 'at', 'slot', 'here', 'number']
def b26 : List MP.St := [.asg (.p (.v 1)) (.comp false (.bi false .dict [.comp false (.tup [.var 4, .con (.bl true)]) (.v 4) (.call 23 [.var 0, .ix (.var 0) (.var 3)]) [] [4]]) (.v 3) (.rng [.bi false .len [.var 0]]) [] [3]), .asg (.p (.v 2)) (.dct true [] []), .for_ (.v 3) (.rng [.bi false .len [.var 0]]) [.ite (.cmp .isin (.var 3) (.ix (.var 1) (.var 3))) [.asg (.sub (.var 2) (.bi false .tuple [.comp false (.var 4) (.v 4) (.bi false .sorted [.ix (.var 1) (.var 3)]) [.cmp .isin (.var 3) (.ix (.var 1) (.var 4))] [4]])) (.con (.bl true))] []], .ret (.bi false .tuple [.bi false .sorted [.var 2]])] -- _law_rings ['heap', 'ahead', 'gained', 'k', 'other']
def b27 : List MP.St := [.asg (.p (.v 2)) (.dct false [.var 1] [.con (.bl true)]), .for_ (.v 3) (.rng [.bi false .len [.var 0]]) [.asg (.p (.v 4)) (.comp false (.var 5) (.v 5) (.rng [.bi false .len [.var 0]]) [.and [.cmp .notin (.var 5) (.var 2), .comp false (.var 6) (.v 6) (.ix (.var 0) (.var 5)) [.cmp .isin (.var 6) (.var 2)] [6]]] [5]), .ite (.not (.var 4)) [.brk] [], .ex (.bm .update (.var 2) [.bi false .dict [.comp false (.tup [.var 5, .con (.bl true)]) (.v 5) (.var 4) [] [5]]])], .ret (.bi false .tuple [.bi false .sorted [.var 2]])] -- _law_behind ['heap', 'cell', 'gained', 'turn', 'fresh', 'k', 'field']
def b28 : List MP.St := [.asg (.p (.v 3)) (.ite (.cmp .lt (.ix (.var 2) (.con (.int 0))) (.bi false .len [.var 1])) (.ix (.var 1) (.ix (.var 2) (.con (.int 0)))) (.con .non)), .for_ (.v 4) (.sl (.var 2) (some (.con (.int 1))) none) [.asg (.p (.v 3)) (.ite (.and [.cmp .isnn (.var 3) (.con .non), .cmp .lt (.var 4) (.bi false .len [.ix (.var 0) (.var 3)])]) (.ix (.ix (.var 0) (.var 3)) (.var 4)) (.con .non))], .ret (.var 3)] -- _law_end ['heap', 'roots', 'way', 'here', 'number']
def b29 : List MP.St := [.ret (.callv 0 [.var 1, .var 2, .var 3, .var 4])] -- _law_bare ['call', 'heap', 'roots', 'cell', 'paper']
def b30 : List MP.St := [.try_ [.asg (.p (.v 5)) (.call 29 [.var 0, .var 1, .var 2, .var 3, .var 4])] 3 6 .fld, .ret (.ite (.isin (.var 5) .str) (.tup [.con (.str "told"), .var 5]) (.var 5))] -- _law_reason ['call', 'heap', 'roots', 'cell', 'paper', 'told_in', 'error']
def b31 : List MP.St := [.ite (.cmp .notin (.var 2) (.var 3)) [.ret (.con (.str "cell"))] [], .ite (.comp false (.var 5) (.v 5) (.var 1) [.cmp .isin (.var 5) (.var 3)] [5]) [.ret (.con (.str "root"))] [], .asg (.p (.v 4)) (.comp false (.var 6) (.v 6) (.rng [.bi false .len [.var 0]]) [.and [.cmp .notin (.var 6) (.var 3), .comp false (.var 7) (.v 7) (.ix (.var 0) (.var 6)) [.cmp .isin (.var 7) (.var 3)] [7]]] [6]), .ret (.ite (.var 4) (.con (.str "way")) (.con .non))] -- _law_free_due ['heap', 'roots', 'cell', 'cells', 'wrong', 'root', 'k', 'field']
def b32 : List MP.St := [.ite (.cmp .isnn (.var 4) (.con .non)) [.asg (.p (.v 6)) (.call 20 [.var 0, .bi false .len [.var 4]]), .for_ (.v 7) (.lst false [.var 4, .bin .add (.var 4) (.tup [.con (.int 0)]), .bin .add (.bin .add (.sl (.var 4) none (some (.var 6))) (.tup [.bin .add (.ix (.var 4) (.var 6)) (.con (.int 1))])) (.sl (.var 4) (some (.bin .add (.var 6) (.con (.int 1)))) none), .ite (.cmp .gt (.bi false .len [.var 4]) (.con (.int 1))) (.sl (.var 4) none (some (.neg (.con (.int 1))))) (.tup [.con (.int 7)])]) [.ite (.cmp .ne (.call 30 [.con (.fn 12), .var 1, .var 2, .var 3, .var 7]) (.ite (.cmp .eq (.call 28 [.var 1, .var 2, .var 7]) (.var 3)) (.con .non) (.con (.str "end")))) [.ret (.con (.bl false))] []], .ret (.cmp .eq (.call 30 [.con (.fn 14), .var 1, .var 2, .var 3, .tup [.var 3]]) (.call 31 [.var 1, .var 2, .var 3, .tup [.var 3]]))] [], .asg (.p (.v 6)) (.call 20 [.var 0, .bi false .len [.var 5]]), .for_ (.v 7) (.lst false [.var 5, .bin .add (.sl (.var 5) none (some (.var 6))) (.sl (.var 5) (some (.bin .add (.var 6) (.con (.int 1)))) none), .rngv false .tuple [.bi false .len [.var 1]], .call 27 [.var 1, .var 3]]) [.ite (.cmp .ne (.call 30 [.con (.fn 14), .var 1, .var 2, .var 3, .var 7]) (.call 31 [.var 1, .var 2, .var 3, .var 7])) [.ret (.con (.bl false))] []], .ret (.con (.bl true))] -- _law_papers_hold ['state', 'heap', 'roots', 'cell', 'way', 'free', 'at', 'some']
def b33 : List MP.St := [.asg (.p (.v 1)) (.call 19 [.var 0]), .asg (.p (.v 2)) (.call 24 [.var 1]), .asg (.p (.v 3)) (.bi false .xtuple [.comp false (.call 21 [.var 1, .lst false [.con .non, .call 20 [.var 1, .con (.int 40)], .call 20 [.var 1, .con (.int 7)]]]) (.v 13) (.rng [.con (.int 8)]) [] [13]]), .asg (.p (.v 4)) (.call 25 [.var 2, .var 3]), .asg (.p (.v 5)) (.bi false .tuple [.bi false .sorted [.var 4]]), .asg (.p (.v 6)) (.bi false .tuple [.comp false (.var 13) (.v 13) (.rng [.con (.int 40)]) [.cmp .notin (.var 13) (.var 4)] [13]]), .asg (.p (.v 7)) (.bi false .tuple [.comp false (.ite (.cmp .isin (.var 13) (.var 4)) (.bin .sub (.bi false .len [.ix (.var 4) (.var 13)]) (.con (.int 1))) (.con .non)) (.v 13) (.rng [.con (.int 40)]) [] [13]]), .ite (.not (.call 22 [.lst false [.call 8 [.var 2, .var 3], .call 9 [.var 2, .var 3], .call 18 [.var 2, .var 3], .call 17 [.var 2]], .lst false [.var 5, .var 6, .var 7, .call 26 [.var 2]]])) [.ret (.con (.bl false))] [], .for_ (.v 8) (.lst false [.call 20 [.var 1, .con (.int 40)], .call 20 [.var 1, .con (.int 40)], .con (.int 39)]) [.asg (.p (.v 9)) (.ite (.cmp .isin (.var 8) (.var 4)) (.tup [.con (.str "way"), .ix (.var 4) (.var 8)]) (.tup [.con (.str "free"), .var 6])), .asg (.p (.v 10)) (.call 27 [.var 2, .var 8]), .asg (.p (.v 11)) (.ite (.comp false (.var 14) (.v 14) (.var 3) [.cmp .isin (.var 14) (.var 10)] [14]) (.con .non) (.var 10)), .asg (.p (.v 12)) (.bin .add (.bm .count (.var 3) [.var 8]) (.bi false .sum [.comp false (.bm .count (.ix (.var 2) (.var 13)) [.var 8]) (.v 13) (.var 5) [] [13]])), .ite (.not (.call 22 [.lst false [.call 11 [.var 2, .var 3, .var 8], .call 15 [.var 2, .var 3, .var 8], .call 16 [.var 2, .var 3, .var 8]], .lst false [.var 9, .var 11, .var 12]])) [.ret (.con (.bl false))] [], .ite (.not (.call 32 [.var 1, .var 2, .var 3, .var 8, .bm .get (.var 4) [.var 8, .con .non], .var 6])) [.ret (.con (.bl false))] []], .ret (.con (.bl true))] -- law ['script', 'state', 'heap', 'roots', 'ways', 'whole', 'free', 'deep', 'cell', 'due', 'behind', 'least', 'many', 'k', 'root']
def fns : List FnI := [⟨"is_integer", 1, 1, true, b0⟩,
  ⟨"check_heap", 1, 3, true, b1⟩,
  ⟨"is_field", 2, 2, true, b2⟩,
  ⟨"check_roots", 2, 3, true, b3⟩,
  ⟨"check_cell", 2, 2, true, b4⟩,
  ⟨"check_both", 2, 2, true, b5⟩,
  ⟨"first_ways", 2, 10, true, b6⟩,
  ⟨"reached_from", 2, 2, true, b7⟩,
  ⟨"kept", 2, 2, true, b8⟩,
  ⟨"freed", 2, 4, true, b9⟩,
  ⟨"end_of", 3, 5, true, b10⟩,
  ⟨"judge_cell", 3, 5, true, b11⟩,
  ⟨"accept_way", 4, 5, true, b12⟩,
  ⟨"is_set", 2, 4, true, b13⟩,
  ⟨"accept_free", 4, 7, true, b14⟩,
  ⟨"least_free", 3, 9, true, b15⟩,
  ⟨"ways_count", 3, 8, true, b16⟩,
  ⟨"rings", 1, 6, true, b17⟩,
  ⟨"depth_of", 2, 4, true, b18⟩,
  ⟨"_law_start", 1, 3, false, b19⟩,
  ⟨"_law_draw", 2, 3, true, b20⟩,
  ⟨"_law_pick", 2, 2, true, b21⟩,
  ⟨"_law_same", 2, 2, true, b22⟩,
  ⟨"_law_led", 2, 7, true, b23⟩,
  ⟨"_law_great", 1, 7, true, b24⟩,
  ⟨"_law_ways", 2, 8, true, b25⟩,
  ⟨"_law_rings", 1, 5, true, b26⟩,
  ⟨"_law_behind", 2, 7, true, b27⟩,
  ⟨"_law_end", 3, 5, true, b28⟩,
  ⟨"_law_bare", 5, 5, true, b29⟩,
  ⟨"_law_reason", 5, 7, true, b30⟩,
  ⟨"_law_free_due", 4, 8, true, b31⟩,
  ⟨"_law_papers_hold", 6, 8, true, b32⟩,
  ⟨"law", 1, 15, true, b33⟩]
def cl (n : Nat) : Nat := if n = 1 then 1 else if n = 2 then 2 else 3
def subs (a b : Nat) : Bool := cl a == cl b
def prg : Prg := ⟨fns, subs⟩
end Mk58

set_option linter.all false
set_option maxRecDepth 100000
namespace W58
open MP PySem Mk58

def encF : Option Nat → D
  | none => .non
  | some n => .int n
@[simp] theorem encF_none : encF none = .non := Eq.trans rfl rfl
@[simp] theorem encF_some (n) : encF (some n) = .int n := Eq.trans rfl rfl
def encC (c : List (Option Nat)) : D := .xtp (c.map encF)
def encH (h : List (List (Option Nat))) : D := .xtp (h.map encC)
def encR (r : List (Option Nat)) : D := .xtp (r.map encF)
/-- a heap: cells whose fields name cells -/
def OkF (n : Nat) (f : Option Nat) : Prop := ∀ k, f = some k → k < n
def OkH (h : List (List (Option Nat))) : Prop := h.length ≤ 40 ∧ ∀ c ∈ h, c.length ≤ 6 ∧ ∀ f ∈ c, OkF h.length f
def OkR (h : List (List (Option Nat))) (r : List (Option Nat)) : Prop := r.length ≤ 8 ∧ ∀ f ∈ r, OkF h.length f

theorem ck {k f : Nat} {i : FnI} {args : List D} {ms : List Nat} {S : Sto} (hf : prg.fns[f]? = some i) (ha : args.length = i.ar) (hc : i.clean = true) :
    callK prg (k+1) f args ms S = finish S.length (exP prg.sub prg.fns.length (callK prg k) (S.length :: ms) 40 i.body (args.map some ++ List.replicate (i.nloc - i.ar) none) S) := by
  show (match prg.fns[f]? with
    | none => _
    | some i => _) = _
  rw [hf]
  simp [ha, hc]
theorem is_integer_int (k ms S) (i : Int) : callK prg (k+1) 0 [.int i] ms S = .ok (.bl true) S := by
  rw [ck (i := ⟨"is_integer", 1, 1, true, b0⟩) rfl rfl rfl]
  simp [b0, evAnd, setEnv]
theorem is_field_ok (k ms S) (h f) (hf : OkF h.length f) : callK prg (k+2) 2 [encH h, encF f] ms S = .ok (.bl true) S := by
  rw [ck (i := ⟨"is_field", 2, 2, true, b2⟩) rfl rfl rfl]
  cases f with
  | none => simp [b2, evAnd, evOr, evL, setEnv]
  | some n =>
    have := hf n rfl
    simp [b2, evAnd, evOr, evL, setEnv, is_integer_int, encH]
    simp [this]
end W58

set_option linter.all false
set_option maxRecDepth 100000
namespace W58
open MP PySem Mk58
theorem below_encF (m n f) : below m (n+1) (encF f) = true := by cases f <;> rfl
theorem check_heap_ok (k ms S) (h) (hh : OkH h) : callK prg (k+3) 1 [encH h] ms S = .ok .non S := by
  obtain ⟨h1, h2⟩ := hh
  rw [ck (i := ⟨"check_heap", 1, 3, true, b1⟩) rfl rfl rfl]
  have c1 : ∀ nf call n ms S, (EV nf call (n+3) ms) (.comp false (.isin (.var 1) .tuple) (.v 1) (.var 0) [] [1]) [some (.xtp (h.map encC)), none, none] S = .ok (.lst (h.map fun _ => .bl true)) S := fun nf call n ms S =>
    ev_compM h encC (fun _ => .bl true) (by simp) (by omega) (fun a ha acc => ⟨_, by simp; rfl, by simp [encC]⟩) (by simp)
  have c2 : ∀ nf call n ms S, (EV nf call (n+3) ms) (.comp false (.bi false .len [.var 1]) (.v 1) (.var 0) [] [1]) [some (.xtp (h.map encC)), none, none] S = .ok (.lst (h.map fun c => .int c.length)) S := fun nf call n ms S =>
    ev_compM h encC (fun c => .int c.length) (by simp) (by omega) (fun a ha acc => ⟨_, by simp; rfl, by simp [encC]⟩) (by simp)
  have c3 : ∀ nf n ms S x (c : List (Option Nat)), c ∈ h → (EV nf (callK prg (k+2)) (n+3) ms) (.comp false (.call 2 [.var 0, .var 2]) (.v 2) (.var 1) [] [2]) [some (.xtp (h.map encC)), some (encC c), x] S = .ok (.lst (c.map fun _ => .bl true)) S := fun nf n ms S x c hc => by
    obtain ⟨h3, h4⟩ := h2 c hc
    exact ev_compM c encF (fun _ => .bl true) (by simp [encC]) (by omega) (fun a ha acc => ⟨_, by simp; rfl, by
      simp
      exact is_field_ok k _ _ h a (h4 a ha)⟩) (by simp)
  have fl : ∀ (l : List (List (Option Nat))) x y ms S, (∀ c ∈ l, c ∈ h) → ∃ x' y', forL (exP prg.sub prg.fns.length (callK prg (k+2)) ms 39) (.v 1) [.ite (.not (.bi false .all [.comp false (.call 2 [.var 0, .var 2]) (.v 2) (.var 1) [] [2]])) [.raise 1 (.con (.str "way"))] []] (l.map encC) [some (.xtp (h.map encC)), x, y] S = .ok .next [some (.xtp (h.map encC)), x', y'] S := by
    intro l
    induction l with
    | nil => intro x y ms S _; exact ⟨x, y, rfl⟩
    | cons c l ih =>
      intro x y ms S hl
      obtain ⟨x', y', e⟩ := ih (some (encC c)) y ms S fun c hc => hl c (by simp [hc])
      refine ⟨x', y', ?_⟩
      rw [List.map_cons]
      unfold forL
      simp [c3 _ _ _ _ _ c (hl c (by simp)), boolsD_map, e]
  obtain ⟨x', y', e⟩ := fl h none none (S.length :: ms) S fun _ h => h
  have h1' : ¬ (40 : Int) < (h.length : Int) := by omega
  have h5 : ¬ (6 : Int) < maxI 0 (h.map fun c => (c.length : Int)) := by
    have := maxI_le (h.map fun c => (c.length : Int)) 0 6 (by omega) (by
      simp only [List.mem_map, forall_exists_index, and_imp, forall_apply_eq_imp_iff₂]
      intro c hc
      have := (h2 c hc).1
      omega)
    omega
  have l1 : 1 + h.length ≤ 16777216 := by omega
  have l2 : h.length + 1 ≤ 16777216 := by omega
  simp [b1, encH, c1, c2, boolsD_map, intsD_map, h1', l1, l2, unl_none, h5, e]
end W58

set_option linter.all false
set_option maxRecDepth 100000
namespace W58
open MP PySem Mk58
theorem check_roots_ok (k ms S) (h r) (hr : OkR h r) : callK prg (k+3) 3 [encH h, encR r] ms S = .ok .non S := by
  obtain ⟨h1, h2⟩ := hr
  rw [ck (i := ⟨"check_roots", 2, 3, true, b3⟩) rfl rfl rfl]
  have c1 : ∀ nf n ms S, (EV nf (callK prg (k+2)) (n+3) ms) (.comp false (.call 2 [.var 0, .var 2]) (.v 2) (.var 1) [] [2]) [some (encH h), some (.xtp (r.map encF)), none] S = .ok (.lst (r.map fun _ => .bl true)) S := fun nf n ms S =>
    ev_compM r encF (fun _ => .bl true) (by simp) (by omega) (fun a ha acc => ⟨_, by simp; rfl, by
      simp
      exact is_field_ok k _ _ h a (h2 a ha)⟩) (by simp)
  have h1' : ¬ (8 : Int) < (r.length : Int) := by omega
  simp [b3, encR, c1, boolsD_map, h1']
theorem check_cell_ok (k ms S) (h) (c : Nat) (hc : c < h.length) : callK prg (k+2) 4 [encH h, .int c] ms S = .ok .non S := by
  rw [ck (i := ⟨"check_cell", 2, 2, true, b4⟩) rfl rfl rfl]
  simp [b4, encH, is_integer_int, hc]
theorem check_both_ok (k ms S) (h r) (hh : OkH h) (hr : OkR h r) : callK prg (k+4) 5 [encH h, encR r] ms S = .ok .non S := by
  rw [ck (i := ⟨"check_both", 2, 2, true, b5⟩) rfl rfl rfl]
  simp [b5, check_heap_ok k _ _ h hh, check_roots_ok k _ _ h r hr]

/-! ### first ways -/
abbrev W := List (Nat × List Nat)
def encN (l : List Nat) : D := .tup (l.map fun n : Nat => .int (n : Int))
@[simp] theorem below_encN (m n l) : below m (n+2) (encN l) = true := by simp [encN]
def encP (p : Nat × List Nat) : D × D := (.int p.1, encN p.2)
def addW (w : W) (f : Option Nat) (way : List Nat) : W := match f with
  | none => w
  | some n => if (w.lookup n).isSome then w else w ++ [(n, way)]
/-- the fields r, from the number k on, behind the way pre -/
def addAll (pre : List Nat) : W → Nat → List (Option Nat) → W
  | w, _, [] => w
  | w, k, f :: r => addAll pre (addW w f (pre ++ [k])) (k+1) r
def wloop (h : List (List (Option Nat))) : Nat → Nat → W → W
  | 0, _, w => w
  | n + 1, at_, w => match w[at_]? with
    | none => w
    | some p => wloop h n (at_ + 1) (addAll p.2 w 0 (h.getD p.1 []))
def ways (h : List (List (Option Nat))) (r : List (Option Nat)) : W := wloop h (h.length + 1) 0 (addAll [] [] 0 r)
theorem sameD_int (n : Nat) (i j : Int) : sameD (n+1) (.int i) (.int j) = (i == j) := rfl
theorem findK_enc (w : W) (n : Nat) : findK (.int n) (w.map encP) = (w.lookup n).map encN := by
  induction w with
  | nil => rfl
  | cons p w ih =>
    obtain ⟨a, l⟩ := p
    simp only [List.map_cons, encP, findK, deep_eq, sameD_int, List.lookup_cons]
    by_cases h : a = n
    · subst h; simp
    · have h' : ¬ (a : Int) = n := by omega
      simp [h', ih, show (n == a) = false by simp; omega]
theorem putK_enc (w : W) (n : Nat) (l : List Nat) (h : w.lookup n = none) : putK (.int n) (encN l) (w.map encP) = (w ++ [(n, l)]).map encP := by
  unfold putK
  rw [findK_enc, h]
  simp [encP]
theorem enumD_map (k : Nat) (r : List (Option Nat)) : enumD k (r.map encF) = (r.zipIdx k).map fun p => .tup [.int p.2, encF p.1] := by
  induction r generalizing k with
  | nil => rfl
  | cons f r ih => simp [enumD, ih]
end W58

set_option linter.all false
set_option maxRecDepth 100000
namespace W58
open MP PySem Mk58
theorem nodup_len : ∀ (n : Nat) (l : List Nat), l.Nodup → (∀ x ∈ l, x < n) → l.length ≤ n
  | 0, l, _, h => by cases l with
    | nil => simp
    | cons a l => exact absurd (h a (by simp)) (by omega)
  | n + 1, l, hd, h => by
    have h1 := nodup_len n (l.filter (· != n)) (hd.sublist List.filter_sublist) (fun x hx => by
      simp at hx
      have := h x hx.1
      omega)
    have h2 : l.length ≤ (l.filter (· != n)).length + 1 := by
      clear h1 h
      induction l with
      | nil => simp
      | cons a l ih =>
        have hd' := List.nodup_cons.mp hd
        by_cases e : a = n
        · subst e
          have : l.filter (· != a) = l := List.filter_eq_self.mpr fun x hx => by
            simp
            rintro rfl
            exact hd'.1 hx
          simp [this]
        · have := ih hd'.2
          simp [List.filter_cons, e]
          omega
    omega
/-- the invariant of the search -/
structure Inv (n : Nat) (w : W) : Prop where
  nd : (w.map (·.1)).Nodup
  lt : ∀ p ∈ w, p.1 < n
  len : ∀ i p, w[i]? = some p → p.2.length ≤ i + 1
  ne : ∀ p ∈ w, p.2 ≠ []
theorem Inv.le {n w} (h : Inv n w) : w.length ≤ n := by
  have := nodup_len n (w.map (·.1)) h.nd (by simp only [List.mem_map]; rintro x ⟨p, hp, rfl⟩; exact h.lt p hp)
  simpa using this
theorem lookup_mem {w : W} {n : Nat} {l : List Nat} (h : w.lookup n = some l) : (n, l) ∈ w := by
  induction w with
  | nil => cases h
  | cons p w ih =>
    obtain ⟨a, k⟩ := p
    rw [List.lookup_cons] at h
    by_cases e : n = a
    · subst e; simp at h; subst h; simp
    · rw [show (n == a) = false by simp [e]] at h
      exact List.mem_cons_of_mem _ (ih h)
theorem lookup_none {w : W} {n : Nat} : w.lookup n = none ↔ n ∉ w.map (·.1) := by
  induction w with
  | nil => simp
  | cons p w ih =>
    obtain ⟨a, k⟩ := p
    rw [List.lookup_cons]
    by_cases e : n = a
    · subst e; simp
    · rw [show (n == a) = false by simp [e]]
      rw [ih]
      simp [e]
theorem mem_lookup {w : W} {p : Nat × List Nat} (hd : (w.map (·.1)).Nodup) (h : p ∈ w) : w.lookup p.1 = some p.2 := by
  induction w with
  | nil => cases h
  | cons q w ih =>
    obtain ⟨a, k⟩ := q
    rw [List.lookup_cons]
    rw [List.map_cons, List.nodup_cons] at hd
    rcases List.mem_cons.mp h with rfl | h
    · simp
    · by_cases e : p.1 = a
      · exfalso
        apply hd.1
        rw [← e]
        exact List.mem_map.mpr ⟨p, h, rfl⟩
      · rw [show (p.1 == a) = false by simp [e]]
        exact ih hd.2 h
theorem lookup_append {w : W} {n m : Nat} {l x : List Nat} (h : w.lookup n = some l) : (w ++ [(m, x)]).lookup n = some l := by
  induction w with
  | nil => cases h
  | cons q w ih =>
    obtain ⟨a, k⟩ := q
    rw [List.cons_append, List.lookup_cons] at *
    by_cases e : n = a
    · subst e; simpa using h
    · rw [show (n == a) = false by simp [e]] at h ⊢
      exact ih h
theorem Inv.add {n : Nat} {w : W} (h : Inv n w) {f : Option Nat} {way : List Nat} (hf : OkF n f) (hl : way.length ≤ w.length + 1) (hne : way ≠ []) : Inv n (addW w f way) := by
  unfold addW
  cases f with
  | none => exact h
  | some k =>
    cases e : w.lookup k with
    | some l => simp only [e, Option.isSome_some, if_true]; exact h
    | none =>
      simp only [e, Option.isSome_none, Bool.false_eq_true, if_false]
      refine ⟨?_, ?_, ?_, ?_⟩
      · rw [List.map_append, List.nodup_append]
        refine ⟨h.nd, by simp, ?_⟩
        intro a ha b hb
        simp at hb
        subst hb
        rintro rfl
        exact lookup_none.mp e ha
      · intro p hp
        rcases List.mem_append.mp hp with hp | hp
        · exact h.lt p hp
        · simp at hp
          subst hp
          exact hf k rfl
      · intro i p hp
        by_cases hi : i < w.length
        · rw [List.getElem?_append_left hi] at hp
          exact h.len i p hp
        · rw [List.getElem?_append_right (by omega)] at hp
          by_cases hi' : i = w.length
          · subst hi'; simp at hp; subst hp; exact hl
          · rw [List.getElem?_eq_none (by simp; omega)] at hp
            cases hp
      · intro p hp
        rcases List.mem_append.mp hp with hp | hp
        · exact h.ne p hp
        · simp at hp
          subst hp
          exact hne
theorem addW_len (w f way) : w.length ≤ (addW w f way).length := by
  unfold addW
  cases f with
  | none => simp
  | some k => simp; split <;> simp
theorem addW_lookup {w : W} {f way n l} (h : w.lookup n = some l) : (addW w f way).lookup n = some l := by
  unfold addW
  cases f with
  | none => exact h
  | some k =>
    simp only
    split
    · exact h
    · exact lookup_append h
theorem Inv.addAll {n : Nat} {pre : List Nat} : ∀ {r : List (Option Nat)} {w : W} {k : Nat}, Inv n w → (∀ f ∈ r, OkF n f) → pre.length ≤ w.length → Inv n (addAll pre w k r) ∧ w.length ≤ (W58.addAll pre w k r).length
  | [], w, k, h, _, _ => ⟨h, Nat.le_refl _⟩
  | f :: r, w, k, h, hr, hl => by
    have h1 := h.add (f := f) (way := pre ++ [k]) (hr f (by simp)) (by simp; omega) (by simp)
    have h2 := addW_len w f (pre ++ [k])
    have h3 := Inv.addAll (pre := pre) (r := r) (k := k + 1) h1 (fun f hf => hr f (by simp [hf])) (by omega)
    exact ⟨h3.1, by have := h3.2; simp only [W58.addAll]; omega⟩
end W58

set_option linter.all false
set_option maxRecDepth 100000
namespace W58
open MP PySem Mk58
def encW (w : W) : D := .dct false (w.map fun p => .int (p.1 : Int)) (w.map fun p => encN p.2)
@[simp] theorem dc_encW (S w) : dctOf S (encW w) = some (false, w.map encP) := by
  simp only [encW, dc_dct]
  congr 2
  induction w with
  | nil => rfl
  | cons p w ih => simp [encP] at ih ⊢; exact ih
@[simp] theorem sq_encW (S w) : seqOf S (encW w) = none := Eq.trans rfl rfl
/-- the dict and the queue of a search -/
def stW (w : W) : List Ob := [⟨false, .dct false (w.map encP)⟩, ⟨false, .lst (w.map fun p => .int (p.1 : Int))⟩]
def fw1 : List MP.St := [.ite (.and [.cmp .isnn (.var 5) (.con .non), .cmp .notin (.var 5) (.var 2)]) [.asg (.sub (.var 2) (.var 5)) (.tup [.var 4]), .ex (.bm .append (.var 3) [.var 5])] []]
theorem fw_for (k : Nat) (S : Sto) (ms : List Nat) (H R : D) (a6 a7 a8 a9 : Option D) : ∀ (r : List (Option Nat)) (i : Nat) (w : W) (a4 a5 : Option D), w.length + r.length ≤ 1000 → ∃ b4 b5,
    forL (exP prg.sub prg.fns.length (callK prg k) (S.length :: ms) 39) (.tup [.v 4, .v 5]) fw1 (enumD i (r.map encF)) [some H, some R, some (.ref S.length), some (.ref (S.length + 1)), a4, a5, a6, a7, a8, a9] (S ++ stW w)
      = .ok .next [some H, some R, some (.ref S.length), some (.ref (S.length + 1)), b4, b5, a6, a7, a8, a9] (S ++ stW (addAll [] w i r))
  | [], i, w, a4, a5, _ => ⟨a4, a5, rfl⟩
  | f :: r, i, w, a4, a5, hl => by
    simp only [List.length_cons] at hl
    have ih := fw_for k S ms H R a6 a7 a8 a9 r (i + 1) (addW w f ([] ++ [i])) (some (.int i)) (some (encF f)) (by
      unfold addW
      cases f with
      | none => (try simp only); omega
      | some n => (try simp only); split <;> (try simp) <;> omega)
    obtain ⟨b4, b5, e⟩ := ih
    refine ⟨b4, b5, ?_⟩
    rw [addAll, ← e, List.map_cons, enumD, forL_cons]
    cases f with
    | none => simp [fw1, addW]
    | some n =>
      have hle : w.length ≤ 16777215 := by omega
      cases hk : w.lookup n with
      | some l => simp [fw1, addW, stW, findK_enc, hk]
      | none =>
        have hp : putK (.int n) (.tup [.int i]) (w.map encP) = w.map encP ++ [(.int n, .tup [.int i])] := by
          have := putK_enc w n [i] hk
          simpa [encN, encP] using this
        simp [fw1, addW, stW, findK_enc, hk, hp, hle, encP, encN]

theorem encF_some' (n : Nat) : encF (some n) = .int n := Eq.trans rfl rfl
def fw2 : List MP.St := [.ite (.and [.cmp .isnn (.var 9) (.con .non), .cmp .notin (.var 9) (.var 2)]) [.asg (.sub (.var 2) (.var 9)) (.bin .add (.ix (.var 2) (.var 7)) (.tup [.var 8])), .ex (.bm .append (.var 3) [.var 9])] []]
theorem fw_for2 (k : Nat) (S : Sto) (ms : List Nat) (H R : D) (a4 a5 a6 : Option D) (here : Nat) (pre : List Nat) (hpre : pre.length ≤ 100) : ∀ (r : List (Option Nat)) (i : Nat) (w : W) (a8 a9 : Option D), w.length + r.length ≤ 1000 → w.lookup here = some pre → ∃ b8 b9,
    forL (exP prg.sub prg.fns.length (callK prg k) (S.length :: ms) 38) (.tup [.v 8, .v 9]) fw2 (enumD i (r.map encF)) [some H, some R, some (.ref S.length), some (.ref (S.length + 1)), a4, a5, a6, some (.int here), a8, a9] (S ++ stW w)
      = .ok .next [some H, some R, some (.ref S.length), some (.ref (S.length + 1)), a4, a5, a6, some (.int here), b8, b9] (S ++ stW (addAll pre w i r))
  | [], i, w, a8, a9, _, _ => ⟨a8, a9, rfl⟩
  | f :: r, i, w, a8, a9, hl, hw => by
    simp only [List.length_cons] at hl
    have ih := fw_for2 k S ms H R a4 a5 a6 here pre hpre r (i + 1) (addW w f (pre ++ [i])) (some (.int i)) (some (encF f)) (by
      unfold addW
      cases f with
      | none => (try simp only); omega
      | some n => (try simp only); split <;> (try simp) <;> omega) (addW_lookup hw)
    obtain ⟨b8, b9, e⟩ := ih
    refine ⟨b8, b9, ?_⟩
    rw [addAll, ← e, List.map_cons, enumD, forL_cons]
    cases f with
    | none => simp [fw2, addW]
    | some n =>
      have hle : w.length ≤ 16777215 := by omega
      have hle2 : pre.length ≤ 16777215 := by omega
      cases hk : w.lookup n with
      | some l => simp [fw2, addW, stW, findK_enc, hk]
      | none =>
        have hp : putK (.int n) (.tup (pre.map (fun n : Nat => .int (n : Int)) ++ [.int i])) (w.map encP) = w.map encP ++ [(.int n, .tup (pre.map (fun n : Nat => .int (n : Int)) ++ [.int i]))] := by
          have := putK_enc w n (pre ++ [i]) hk
          simpa [encN, encP] using this
        simp [fw2, addW, stW, findK_enc, hk, hw, hp, hle, hle2, encP, encN]
def fwb : List MP.St := [.asg (.p (.v 7)) (.ix (.var 3) (.var 6)), .for_ (.tup [.v 8, .v 9]) (.enum (.ix (.var 0) (.var 7))) fw2, .aug 6 .add (.con (.int 1))]
theorem fw_whl (k : Nat) (S : Sto) (ms : List Nat) (R : D) (a4 a5 : Option D) (h) (hh : OkH h) : ∀ (n t at_ : Nat) (w : W) (a7 a8 a9 : Option D), n ≤ t → at_ + n = h.length + 1 → Inv h.length w → at_ ≤ w.length → ∃ b6 b7 b8 b9,
    whlL ((TV prg.fns.length (callK prg k) 39 (S.length :: ms))) (exP prg.sub prg.fns.length (callK prg k) (S.length :: ms) 39) (.cmp .lt (.var 6) (.bi false .len [.var 3])) fwb t [some (encH h), some R, some (.ref S.length), some (.ref (S.length + 1)), a4, a5, some (.int at_), a7, a8, a9] (S ++ stW w)
      = .ok .next [some (encH h), some R, some (.ref S.length), some (.ref (S.length + 1)), a4, a5, b6, b7, b8, b9] (S ++ stW (wloop h n at_ w)) ∧ Inv h.length (wloop h n at_ w)
  | 0, t, at_, w, a7, a8, a9, _, h1, h2, h3 => by have := h2.le; omega
  | n + 1, 0, at_, w, a7, a8, a9, h0, h1, h2, h3 => by omega
  | n + 1, t + 1, at_, w, a7, a8, a9, h0, h1, h2, h3 => by
    by_cases hlt : at_ < w.length
    · have hg : w[at_]? = some w[at_] := List.getElem?_eq_getElem hlt
      generalize w[at_] = p at hg
      obtain ⟨here, pre⟩ := p
      have hm : (here, pre) ∈ w := List.mem_of_getElem? hg
      have hlu : w.lookup here = some pre := mem_lookup h2.nd hm
      have hlen := h2.len _ _ hg
      have hwl := h2.le
      have hhl := hh.1
      have hhere := h2.lt _ hm
      have hc : h[here]? = some (h.getD here []) := by
        rw [List.getD_eq_getElem?_getD, List.getElem?_eq_getElem hhere]; rfl
      have hcm : h.getD here [] ∈ h := List.mem_of_getElem? hc
      obtain ⟨hc6, hcf⟩ := hh.2 _ hcm
      simp only at hlen hhere
      obtain ⟨i1, i2⟩ := h2.addAll (pre := pre) (r := h.getD here []) (k := 0) hcf (by omega)
      obtain ⟨b8, b9, e⟩ := fw_for2 k S ms (encH h) R a4 a5 (some (.int at_)) here pre (by omega) (h.getD here []) 0 w a8 a9 (by omega) hlu
      obtain ⟨c6, c7, c8, c9, e2, e3⟩ := fw_whl k S ms R a4 a5 h hh n t (at_ + 1) (addAll pre w 0 (h.getD here [])) (some (.int here)) b8 b9 (by omega) (by omega) i1 (by omega)
      refine ⟨c6, c7, c8, c9, ?_, ?_⟩
      · rw [wloop, hg]
        dsimp only
        rw [← e2, whl_step]
        have hstl : (stW w)[1]? = some ⟨false, .lst (w.map fun p => .int (p.1 : Int))⟩ := Eq.trans rfl rfl
        have hxx : (h.map encC)[here]? = some (encC (h.getD here [])) := by rw [List.getElem?_map, hc]; rfl
        have hit : ixN h.length (here : Int) = some here := ixN_nat hhere
        have hia : ixN w.length (at_ : Int) = some at_ := ixN_nat hlt
        have hxy : h[here]?.map encC = some (encC (h.getD here [])) := by rw [hc]; rfl
        simp only [encH, encC] at e hxy
        simp [-getElem?_pos, -List.getD_eq_getElem?_getD, fwb, hstl, hlt, hia, hit, hg, encH, hxy, hhere, encC, isDV, unl_none, e]
      · rw [wloop, hg]; exact e3
    · have hnone : w[at_]? = none := List.getElem?_eq_none (by omega)
      refine ⟨some (.int at_), a7, a8, a9, ?_, ?_⟩
      · rw [wloop, hnone, whl_step]
        have hstl : (stW w)[1]? = some ⟨false, .lst (w.map fun p => .int (p.1 : Int))⟩ := Eq.trans rfl rfl
        simp [hstl, hlt]
      · rw [wloop, hnone]; exact h2

theorem inv0 (n : Nat) : Inv n [] := ⟨by simp, by simp, by simp, by simp⟩
theorem ways_inv (h r) (hh : OkH h) (hr : OkR h r) : Inv h.length (ways h r) := by
  have i0 := (inv0 h.length).addAll (pre := []) (r := r) (k := 0) hr.2 (by simp)
  obtain ⟨_, _, _, _, _, e⟩ := fw_whl 0 [] [] .non none none h hh (h.length + 1) (h.length + 1) 0 (addAll [] [] 0 r) none none none (by omega) (by omega) i0.1 (by omega)
  exact e
theorem below_encP {m n : Nat} {w : W} : ∀ p ∈ w.map encP, below m (n+2) p.1 = true ∧ below m (n+2) p.2 = true := by
  simp only [List.mem_map]
  rintro p ⟨q, _, rfl⟩
  exact ⟨rfl, below_encN _ _ _⟩
theorem first_ways_gen (k ms S) (h r) (R : D) (hR : ∀ S, enmD R S = .ok (enumD 0 (r.map encF), none) S) (hh : OkH h) (hr : OkR h r) : callK prg (k+1) 6 [encH h, R] ms S = .ok (encW (ways h r)) S := by
  rw [ck (i := ⟨"first_ways", 2, 10, true, b6⟩) rfl rfl rfl]
  obtain ⟨h8, hr2⟩ := hr
  have i0 := (inv0 h.length).addAll (pre := []) (r := r) (k := 0) hr2 (by simp)
  obtain ⟨b4, b5, e1⟩ := fw_for k S ms (encH h) R none none none none r 0 [] none none (by simp; omega)
  obtain ⟨c6, c7, c8, c9, e2, e3⟩ := fw_whl k S ms R b4 b5 h hh (h.length + 1) turns 0 (addAll [] [] 0 r) none none none (by have := hh.1; unfold turns; omega) (by omega) i0.1 (by omega)
  have hub := ub_dct (m := S.length) (n := 59) (k := S.length) (S := S ++ stW (ways h r)) (lk := false) (t := false) (l := (ways h r).map encP) (by rw [getA0]; rfl) (by omega) below_encP
  have z0 : ((0 : Nat) : Int) = 0 := Eq.trans rfl rfl
  simp only [stW, fw1, fw2, fwb, encR, List.map_nil, z0] at e1 e2 hub
  simp [b6, unl_none, e1, e2, isDV, hR]
  unfold ways at hub ⊢
  rw [hub]
  simp [encW, encP, Function.comp_def]
theorem first_ways_ok (k ms S) (h r) (hh : OkH h) (hr : OkR h r) : callK prg (k+1) 6 [encH h, encR r] ms S = .ok (encW (ways h r)) S := first_ways_gen k ms S h r _ (fun _ => rfl) hh hr
end W58

set_option linter.all false
set_option maxRecDepth 100000
namespace W58
open MP PySem Mk58
/-! shapes -/
def cel (h : List (List (Option Nat))) (c : Nat) : List (Option Nat) := h.getD c []
def fld (c : List (Option Nat)) (n : Nat) : Option Nat := c.getD n none
theorem fld_big {c : List (Option Nat)} {n : Nat} (h : ¬ n < c.length) : fld c n = none := by
  unfold fld
  rw [List.getD_eq_getElem?_getD, List.getElem?_eq_none (by omega)]
  rfl
section
variable (S : Sto) (h : List (List (Option Nat))) (c r : List (Option Nat)) (l : List Nat) (f : Option Nat) (w : W)
@[simp] theorem kd_encH : kdOf S (encH h) = some .tup := Eq.trans rfl rfl
@[simp] theorem kd_encC : kdOf S (encC c) = some .tup := Eq.trans rfl rfl
@[simp] theorem kd_encR : kdOf S (encR c) = some .tup := Eq.trans rfl rfl
@[simp] theorem kd_encN : kdOf S (encN l) = some .tup := Eq.trans rfl rfl
@[simp] theorem sq_encH : seqOf S (encH h) = some (h.map encC) := Eq.trans rfl rfl
@[simp] theorem sq_encC : seqOf S (encC c) = some (c.map encF) := Eq.trans rfl rfl
@[simp] theorem sq_encR : seqOf S (encR c) = some (c.map encF) := Eq.trans rfl rfl
@[simp] theorem sq_encN : seqOf S (encN l) = some (l.map fun n : Nat => .int (n : Int)) := Eq.trans rfl rfl
@[simp] theorem dc_encH : dctOf S (encH h) = none := Eq.trans rfl rfl
@[simp] theorem dc_encC : dctOf S (encC c) = none := Eq.trans rfl rfl
@[simp] theorem dc_encR : dctOf S (encR c) = none := Eq.trans rfl rfl
@[simp] theorem dc_encN : dctOf S (encN l) = none := Eq.trans rfl rfl
@[simp] theorem ln_encH : biop S .len [encH h] = some (.int h.length) := by simp [encH]
@[simp] theorem ln_encC : biop S .len [encC c] = some (.int c.length) := by simp [encC]
@[simp] theorem ln_encR : biop S .len [encR c] = some (.int c.length) := by simp [encR]
@[simp] theorem ln_encN : biop S .len [encN l] = some (.int l.length) := by simp [encN]
@[simp] theorem fv_encH : flatV (encH h) S = .ok (h.map encC, none) S := Eq.trans rfl rfl
@[simp] theorem fv_encC : flatV (encC c) S = .ok (c.map encF, none) S := Eq.trans rfl rfl
@[simp] theorem fv_encR : flatV (encR c) S = .ok (c.map encF, none) S := Eq.trans rfl rfl
@[simp] theorem fv_encN : flatV (encN l) S = .ok (l.map fun n : Nat => .int (n : Int), none) S := Eq.trans rfl rfl
@[simp] theorem fv_encW : flatV (encW w) S = .ok (w.map fun p => .int (p.1 : Int), none) S := Eq.trans rfl rfl
@[simp] theorem fd_encC : flatD (encC c) S = .ok (c.map encF, none) S := Eq.trans rfl rfl
@[simp] theorem fd_encN : flatD (encN l) S = .ok (l.map fun n : Nat => .int (n : Int), none) S := Eq.trans rfl rfl
@[simp] theorem en_encH : enmD (encH h) S = .ok (enumD 0 (h.map encC), none) S := Eq.trans rfl rfl
@[simp] theorem en_encC : enmD (encC c) S = .ok (enumD 0 (c.map encF), none) S := Eq.trans rfl rfl
@[simp] theorem tr_encN : truth S (encN l) = some (!l.isEmpty) := by cases l <;> rfl
@[simp] theorem tr_encW : truth S (encW w) = none := Eq.trans rfl rfl
@[simp] theorem nn_encF : isNon (encF f) = f.isNone := by cases f <;> rfl
@[simp] theorem nn_encN : isNon (encN l) = false := Eq.trans rfl rfl
@[simp] theorem pu_encF (n) : isPure (n+1) (encF f) = true := by cases f <;> rfl
@[simp] theorem pu_encN (n) : isPure (n+2) (encN l) = true := by simp [encN]
@[simp] theorem bl_encF (m n) : below m (n+1) (encF f) = true := by cases f <;> rfl
@[simp] theorem bl_encC (m n) : below m (n+2) (encC c) = true := by simp [encC]
@[simp] theorem bl_encW (m n) : below m (n+3) (encW w) = true := by simp [encW]
@[simp] theorem top_encN : top S (encN l) = encN l := Eq.trans rfl rfl
@[simp] theorem top_encF : top S (encF f) = encF f := by cases f <;> rfl
@[simp] theorem eqd_FF (n) (a b : Option Nat) : eqD (n+1) (encF a) (encF b) = (a == b) := by
  cases a <;> cases b <;> simp [encF]
  rw [Bool.eq_iff_iff]
  simp
  omega
@[simp] theorem eqd_FI (n) (a : Option Nat) (b : Nat) : eqD (n+1) (encF a) (.int b) = (a == some b) := eqd_FF n a (some b)
@[simp] theorem eqd_IF (n) (a : Option Nat) (b : Nat) : eqD (n+1) (.int b) (encF a) = (some b == a) := eqd_FF n (some b) a
/-- f stands in l -/
def inN (l : List Nat) (f : Option Nat) : Bool := match f with | none => false | some n => l.contains n
theorem any_encF (n : Nat) (f : Option Nat) (l : List Nat) : (l.map fun n : Nat => D.int (n : Int)).any (fun x => eqD (n+1) x (encF f)) = inN l f := by
  induction l with
  | nil => cases f <;> rfl
  | cons a l ih =>
    cases f with
    | none => simpa [inN] using ih
    | some m =>
      simp only [List.map_cons, List.any_cons, ih, inN, List.contains_cons, eqd_IF]
      congr 1
      rw [Bool.eq_iff_iff]; simp; exact eq_comm
@[simp] theorem mb_FN : cmpop.member S (encF f) (encN l) = some (inN l f) := by
  rw [member_seq (sq_encN S l), any_encF]; simp
@[simp] theorem mb_IN (n : Nat) : cmpop.member S (.int n) (encN l) = some (l.contains n) := mb_FN S l (some n)
theorem any_FF (n : Nat) (f : Option Nat) : (c.map encF).any (fun x => eqD (n+1) x (encF f)) = c.contains f := by
  induction c with
  | nil => rfl
  | cons a l ih =>
    simp only [List.map_cons, List.any_cons, ih, List.contains_cons, eqd_FF]
    congr 1
    rw [Bool.eq_iff_iff]; simp; exact eq_comm
@[simp] theorem mb_FC : cmpop.member S (encF f) (encC c) = some (c.contains f) := by
  rw [member_seq (sq_encC S c), any_FF]; simp
@[simp] theorem mb_IC (n : Nat) : cmpop.member S (.int n) (encC c) = some (c.contains (some n)) := mb_FC S c (some n)
@[simp] theorem mb_FW : cmpop.member S (encF f) (encW w) = some (match f with | none => false | some n => (w.lookup n).isSome) := by
  rw [member_dct (sq_encW S w) (dc_encW S w)]
  cases f with
  | none => rfl
  | some n => simp [findK_enc]
@[simp] theorem mb_IW (n : Nat) : cmpop.member S (.int n) (encW w) = some (w.lookup n).isSome := mb_FW S (some n) w
theorem ixH {i : Nat} (hi : i < h.length) : ixop S (encH h) (.int i) = some (encC (cel h i)) := by
  simp [ixN_nat hi, hi, cel]
theorem ixR {i : Nat} (hi : i < r.length) : ixop S (encR r) (.int i) = some (encF (fld r i)) := by
  simp [ixN_nat hi, hi, fld]
theorem ixC {i : Nat} (hi : i < c.length) : ixop S (encC c) (.int i) = some (encF (fld c i)) := by
  simp [ixN_nat hi, hi, fld]
theorem ixNn {i : Nat} (hi : i < l.length) : ixop S (encN l) (.int i) = some (.int (l.getD i 0 : Nat)) := by
  simp [ixN_nat hi, hi]
theorem ixW {n : Nat} {way} (hi : w.lookup n = some way) : ixop S (encW w) (.int n) = some (encN way) := by
  simp [findK_enc, hi]
end
/-! sorting -/
def insN (x : Nat) : List Nat → List Nat
  | [] => [x]
  | y :: r => if y < x then y :: insN x r else x :: y :: r
def sortN : List Nat → List Nat
  | [] => []
  | x :: r => insN x (sortN r)
theorem insD_int (x : Nat) (l : List Nat) : insD (.int x) (l.map fun n : Nat => D.int (n : Int)) = (insN x l).map fun n : Nat => D.int (n : Int) := by
  induction l with
  | nil => rfl
  | cons y l ih =>
    simp only [List.map_cons, insD, insN, ltD]
    by_cases h : y < x
    · have : (y : Int) < x := by omega
      simp [this, h, ih]
    · have : ¬ (y : Int) < x := by omega
      simp [this, h]
theorem isortD_int (l : List Nat) : isortD (l.map fun n : Nat => D.int (n : Int)) = (sortN l).map fun n : Nat => D.int (n : Int) := by
  induction l with
  | nil => rfl
  | cons y l ih => rw [List.map_cons, isortD, ih, insD_int, sortN]
theorem sortD_int (l : List Nat) : sortD (l.map fun n : Nat => D.int (n : Int)) = some (.map (fun n : Nat => D.int (n : Int)) (sortN l)) := by
  unfold sortD
  rw [isortD_int]
  simp [isI]
theorem rangeD_eq (lo n : Nat) : rangeD (lo : Int) 1 n = (List.range' lo n).map fun n : Nat => .int (n : Int) := by
  induction n generalizing lo with
  | zero => rfl
  | succ n ih =>
    rw [rangeD, List.range'_succ, List.map_cons, ← ih]
    rfl
theorem rangeD0 (n : Nat) : rangeD 0 1 n = (List.range n).map fun n : Nat => .int (n : Int) := by
  rw [List.range_eq_range']; exact rangeD_eq 0 n
theorem ok62_nat {n : Nat} (h : n ≤ 1000000) : ok62 (n : Int) = true := by
  unfold ok62
  simp
  omega
/-! calls at any level that is high enough -/
theorem lv {d k : Nat} (h : d ≤ k) : ∃ j, k = j + d := ⟨k - d, by omega⟩
theorem is_integer_int' {k} (hk : 1 ≤ k) (ms S) (i : Int) : callK prg k 0 [.int i] ms S = .ok (.bl true) S := by
  obtain ⟨j, rfl⟩ := lv hk; exact is_integer_int j ms S i
theorem check_heap' {k} (hk : 3 ≤ k) (ms S) (h) (hh : OkH h) : callK prg k 1 [encH h] ms S = .ok .non S := by
  obtain ⟨j, rfl⟩ := lv hk; exact check_heap_ok j ms S h hh
theorem check_both' {k} (hk : 4 ≤ k) (ms S) (h r) (hh : OkH h) (hr : OkR h r) : callK prg k 5 [encH h, encR r] ms S = .ok .non S := by
  obtain ⟨j, rfl⟩ := lv hk; exact check_both_ok j ms S h r hh hr
theorem check_cell' {k} (hk : 2 ≤ k) (ms S) (h) (c : Nat) (hc : c < h.length) : callK prg k 4 [encH h, .int c] ms S = .ok .non S := by
  obtain ⟨j, rfl⟩ := lv hk; exact check_cell_ok j ms S h c hc
theorem first_ways' {k} (hk : 1 ≤ k) (ms S) (h r) (hh : OkH h) (hr : OkR h r) : callK prg k 6 [encH h, encR r] ms S = .ok (encW (ways h r)) S := by
  obtain ⟨j, rfl⟩ := lv hk; exact first_ways_ok j ms S h r hh hr
theorem first_ways1 {k} (hk : 1 ≤ k) (ms S) (h) (cell : Nat) (hh : OkH h) (hc : cell < h.length) : callK prg k 6 [encH h, .tup [.int cell]] ms S = .ok (encW (ways h [some cell])) S := by
  obtain ⟨j, rfl⟩ := lv hk; exact first_ways_gen j ms S h [some cell] (.tup [.int cell]) (fun _ => rfl) hh ⟨by simp, by simp [OkF]; omega⟩
end W58

set_option linter.all false
set_option maxRecDepth 100000
namespace W58
open MP PySem Mk58
def keys (w : W) : List Nat := w.map (·.1)
theorem keys_map (w : W) : (w.map fun p => D.int (p.1 : Int)) = (keys w).map fun n : Nat => .int (n : Int) := by simp [keys, Function.comp_def]
theorem keys_encP (w : W) : (w.map encP).map (·.1) = (keys w).map fun n : Nat => .int (n : Int) := by simp [keys, encP, Function.comp_def]
@[simp 1100] theorem sorted_W (S w) : biop S .sorted [encW w] = some (.lst ((sortN (keys w)).map fun n : Nat => .int (n : Int))) := by
  rw [bi_sorted]
  rw [show lstOf S (encW w) = none from rfl]
  simp only [dc_encW, keys_encP, sortD_int]
  rfl
theorem reached_from' {k} (hk : 2 ≤ k) (ms S) (h) (cell : Nat) (hh : OkH h) (hc : cell < h.length) : callK prg k 7 [encH h, .lst [.int cell]] ms S = .ok (.lst ((sortN (keys (ways h [some cell]))).map fun n : Nat => .int (n : Int))) S := by
  obtain ⟨k, rfl⟩ := lv hk
  rw [ck (i := ⟨"reached_from", 2, 2, true, b7⟩) rfl rfl rfl]
  have e := fun S => first_ways1 (k := k+1) (by omega) (S.length :: ms) S h cell hh hc
  simp [b7, e]
  rw [unbox_below (by simp)]
theorem kept' {k} (hk : 5 ≤ k) (ms S) (h r) (hh : OkH h) (hr : OkR h r) : callK prg k 8 [encH h, encR r] ms S = .ok (encN (sortN (keys (ways h r)))) S := by
  obtain ⟨k, rfl⟩ := lv hk
  rw [ck (i := ⟨"kept", 2, 2, true, b8⟩) rfl rfl rfl]
  simp [b8, check_both' (k := k+4) (by omega) _ _ h r hh hr, first_ways' (k := k+4) (by omega) _ _ h r hh hr]
  rw [unbox_below (by simp)]
  rfl
/-- the numbers below n that are no keys -/
def outW (n : Nat) (w : W) : List Nat := (List.range n).filter fun k => !(w.lookup k).isSome
theorem out_comp {nf call n ms g S} (m : Nat) (w : W) (i j : Nat) (hm : m ≤ 1000) (hj : j < g.length)
    (hg : g[i]? = some (some (encW w))) (hij : i ≠ j) (it : Ex) (hi : itE (EV nf call (n+4) ms) it g S = .ok ((List.range m).map fun n : Nat => .int (n : Int), none) S) :
    (EV nf call (n+5) ms) (.comp false (.var j) (.v j) it [.cmp .notin (.var j) (.var i)] [j]) g S = .ok (.lst ((outW m w).map fun n : Nat => .int (n : Int))) S := by
  have := ev_compP (nf := nf) (call := call) (n := n+4) (ms := ms) (elt := .var j) (tg := .v j) (it := it) (ifs := [.cmp .notin (.var j) (.var i)]) (own := [j]) (g := g) (S := S)
    (List.range m) (fun n : Nat => .int (n : Int)) (fun k => !(w.lookup k).isSome) (fun n : Nat => .int (n : Int)) hi (by simp; omega)
    (fun a ha acc => ⟨_, by simp; rfl, by
      have h1 : ((g.set j none).set j (some (.int (a : Int))))[i]? = some (some (encW w)) := by
        rw [List.getElem?_set_ne (Ne.symm hij), List.getElem?_set_ne (Ne.symm hij), hg]
      have h2 : ((g.set j none).set j (some (.int (a : Int))))[j]? = some (some (.int (a : Int))) := by
        rw [List.getElem?_set_self (by simpa using hj)]
      simp only [List.set_set] at h1 h2
      simp [h1, h2]
      cases List.lookup a w <;> rfl, fun _ => by
      have h2 : ((g.set j none).set j (some (.int (a : Int))))[j]? = some (some (.int (a : Int))) := by
        rw [List.getElem?_set_self (by simpa using hj)]
      simp only [List.set_set] at h2
      simp [h2]⟩) (by simp)
  exact this
theorem freed' {k} (hk : 5 ≤ k) (ms S) (h r) (hh : OkH h) (hr : OkR h r) : callK prg k 9 [encH h, encR r] ms S = .ok (encN (outW h.length (ways h r))) S := by
  obtain ⟨k, rfl⟩ := lv hk
  rw [ck (i := ⟨"freed", 2, 4, true, b9⟩) rfl rfl rfl]
  have hl := hh.1
  have c1 := fun S => out_comp (nf := prg.fns.length) (call := callK prg (k+4)) (n := 33) (ms := S.length :: ms) (g := [some (encH h), some (encR r), some (encW (ways h r)), none]) (S := S) h.length (ways h r) 2 3 (by omega) (by simp) rfl (by simp) (.rng [.bi false .len [.var 0]]) (by simp [ok62_nat (show h.length ≤ 1000000 by omega), rangeD0])
  simp only [Nat.reduceAdd] at c1
  simp [b9, check_both' (k := k+4) (by omega) _ _ h r hh hr, first_ways' (k := k+4) (by omega) _ _ h r hh hr, c1]
  rw [unbox_below (by simp)]
  rfl
theorem judge_cell' {k} (hk : 5 ≤ k) (ms S) (h r) (cell : Nat) (hh : OkH h) (hr : OkR h r) (hc : cell < h.length) : callK prg k 11 [encH h, encR r, .int cell] ms S = .ok (match (ways h r).lookup cell with
    | some way => .tup [.str "way", encN way]
    | none => .tup [.str "free", encN (outW h.length (ways h r))]) S := by
  obtain ⟨k, rfl⟩ := lv hk
  rw [ck (i := ⟨"judge_cell", 3, 5, true, b11⟩) rfl rfl rfl]
  have hl := hh.1
  have c1 := fun S => out_comp (nf := prg.fns.length) (call := callK prg (k+4)) (n := 32) (ms := S.length :: ms) (g := [some (encH h), some (encR r), some (.int cell), some (encW (ways h r)), none]) (S := S) h.length (ways h r) 3 4 (by omega) (by simp) rfl (by simp) (.rng [.bi false .len [.var 0]]) (by simp [ok62_nat (show h.length ≤ 1000000 by omega), rangeD0])
  simp only [Nat.reduceAdd] at c1
  cases e : (ways h r).lookup cell with
  | some way =>
    simp [-ix_eq, b11, check_both' (k := k+4) (by omega) _ _ h r hh hr, check_cell' (k := k+4) (by omega) _ _ h cell hc, first_ways' (k := k+4) (by omega) _ _ h r hh hr, e, ixW _ _ e]
    rw [unbox_below (by simp)]
  | none =>
    simp [b11, check_both' (k := k+4) (by omega) _ _ h r hh hr, check_cell' (k := k+4) (by omega) _ _ h cell hc, first_ways' (k := k+4) (by omega) _ _ h r hh hr, e, c1]
    rw [unbox_below (by simp)]
    rfl
end W58

set_option linter.all false
set_option maxRecDepth 100000
namespace W58
open MP PySem Mk58
def stepF (h : List (List (Option Nat))) (here : Option Nat) (n : Nat) : Option Nat := match here with
  | none => none
  | some c => fld (cel h c) n
def endOf (h : List (List (Option Nat))) (r : List (Option Nat)) (way : List Nat) : Option Nat := (way.drop 1).foldl (stepF h) (fld r (way.getD 0 0))
theorem OkH.cell {h} (hh : OkH h) {c : Nat} (hc : c < h.length) : (cel h c).length ≤ 6 ∧ ∀ f ∈ cel h c, OkF h.length f := by
  apply hh.2
  unfold cel
  rw [List.getD_eq_getElem?_getD, List.getElem?_eq_getElem hc]
  exact List.getElem_mem hc
theorem OkF.getD {n : Nat} {c : List (Option Nat)} (hc : ∀ f ∈ c, OkF n f) (i : Nat) : OkF n (fld c i) := by
  unfold fld
  rw [List.getD_eq_getElem?_getD]
  cases e : c[i]? with
  | none => intro k h; cases h
  | some f => exact hc f (List.mem_of_getElem? e)
theorem stepF_ok {h} (hh : OkH h) {here} (ho : OkF h.length here) (n : Nat) : OkF h.length (stepF h here n) := by
  cases here with
  | none => intro k e; cases e
  | some c => exact OkF.getD (hh.cell (ho c rfl)).2 n
theorem foldF_none (h) : ∀ l, List.foldl (stepF h) none l = none
  | [] => rfl
  | _ :: l => foldF_none h l
def eo : List MP.St := [.ite (.or [.cmp .isn (.var 3) (.con .non), .cmp .ge (.var 4) (.bi false .len [.ix (.var 0) (.var 3)])]) [.ret (.con .non)] [], .asg (.p (.v 3)) (.ix (.ix (.var 0) (.var 3)) (.var 4))]
theorem eo_for (k : Nat) (S : Sto) (ms : List Nat) (h) (hh : OkH h) (R Wy : D) : ∀ (l : List Nat) (here : Option Nat) (a4 : Option D), OkF h.length here → 
    (∃ b4, forL (exP prg.sub prg.fns.length (callK prg k) ms 39) (.v 4) eo (l.map fun n : Nat => .int (n : Int)) [some (encH h), some R, some Wy, some (encF here), a4] S
      = .ok .next [some (encH h), some R, some Wy, some (encF (l.foldl (stepF h) here)), b4] S) ∨
    (l.foldl (stepF h) here = none ∧ ∃ g, forL (exP prg.sub prg.fns.length (callK prg k) ms 39) (.v 4) eo (l.map fun n : Nat => .int (n : Int)) [some (encH h), some R, some Wy, some (encF here), a4] S = .ok (.ret .non) g S)
  | [], here, a4, _ => .inl ⟨a4, rfl⟩
  | n :: l, here, a4, ho => by
    rw [List.map_cons, List.foldl_cons]
    cases here with
    | none => exact .inr ⟨foldF_none h l, _, by rw [forL_cons]; simp [eo]; rfl⟩
    | some c =>
      have hc := ho c rfl
      by_cases hn : n < (cel h c).length
      · have ih := eo_for k S ms h hh R Wy l (stepF h (some c) n) (some (.int n)) (stepF_ok hh ho n)
        have hn' : ¬ ((cel h c).length : Int) ≤ n := by omega
        have e : forL (exP prg.sub prg.fns.length (callK prg k) ms 39) (.v 4) eo ((D.int (n : Int)) :: l.map fun n : Nat => .int (n : Int)) [some (encH h), some R, some Wy, some (encF (some c)), a4] S = forL (exP prg.sub prg.fns.length (callK prg k) ms 39) (.v 4) eo (l.map fun n : Nat => .int (n : Int)) [some (encH h), some R, some Wy, some (encF (stepF h (some c) n)), some (.int n)] S := by
          rw [forL_cons]
          have e1 : EV prg.fns.length (callK prg k) 38 ms (.ix (.ix (.var 0) (.var 3)) (.var 4)) [some (encH h), some R, some Wy, some (.int c), some (.int n)] S = .ok (encF (stepF h (some c) n)) S := by
            simp [-ix_eq, ixH S h hc, ixC S _ hn]
            rfl
          have e2 : ∀ m, EV prg.fns.length (callK prg k) (m+2) ms (.ix (.var 0) (.var 3)) [some (encH h), some R, some Wy, some (.int c), some (.int n)] S = .ok (encC (cel h c)) S := by
            intro m
            simp [-ix_eq, ixH S h hc]
          simp [-ev_ix, -ix_eq, eo, e1, e2, hn']
        rw [e]
        exact ih
      · have hn' : ((cel h c).length : Int) ≤ n := by omega
        refine .inr ⟨?_, [some (encH h), some R, some Wy, some (.int c), some (.int n)], ?_⟩
        · have : stepF h (some c) n = none := by
            exact fld_big hn
          rw [this]; exact foldF_none h l
        · rw [forL_cons]
          simp [-ix_eq, eo, ixH S h hc, hn']
theorem cut_tail (l : List D) : cut l (some 1) none = l.drop 1 := by
  unfold cut sx
  simp
  cases l with
  | nil => rfl
  | cons a l => simp
theorem end_of' {k} (hk : 1 ≤ k) (ms S) (h r) (hh : OkH h) (hr : OkR h r) (way : List Nat) (hw : way ≠ []) : callK prg k 10 [encH h, encR r, encN way] ms S = .ok (encF (endOf h r way)) S := by
  obtain ⟨k, rfl⟩ := lv hk
  rw [ck (i := ⟨"end_of", 3, 5, true, b10⟩) rfl rfl rfl]
  obtain ⟨a, l, rfl⟩ : ∃ a l, way = a :: l := by cases way with | nil => exact absurd rfl hw | cons a l => exact ⟨a, l, rfl⟩
  have c1 : EV prg.fns.length (callK prg k) 39 (S.length :: ms) (.ite (.cmp .lt (.ix (.var 2) (.con (.int 0))) (.bi false .len [.var 1])) (.ix (.var 1) (.ix (.var 2) (.con (.int 0)))) (.con .non)) [some (encH h), some (encR r), some (encN (a :: l)), none, none] S = .ok (encF (fld r a)) S := by
    have i0 : ixop S (encN (a :: l)) (.int 0) = some (.int (a : Int)) := ixNn S (a :: l) (i := 0) (by simp)
    by_cases ha : a < r.length
    · simp [-ix_eq, i0, ha, ixR S r ha]
    · simp [-ix_eq, i0, ha, fld_big ha]
  have e := eo_for k S (S.length :: ms) h hh (encR r) (encN (a :: l)) l (fld r a) none (OkF.getD hr.2 a)
  have sl : slop S (encN (a :: l)) (some 1) none = some (encN l) := by
    simp [encN, cut_tail]
  simp only [eo] at e
  rcases e with ⟨b4, e⟩ | ⟨e1, g, e⟩
  · simp [-ix_eq, -ev_ite, b10, c1, sl, unl_none, isDV, e]
    rw [unbox_below (by simp)]
    rfl
  · simp [-ix_eq, -ev_ite, b10, c1, sl, unl_none, isDV, e]
    show D.non = encF (l.foldl (stepF h) (fld r a))
    rw [e1]
    rfl
end W58

set_option linter.all false
set_option maxRecDepth 100000
namespace W58
open MP PySem Mk58
theorem accept_way' {k} (hk : 5 ≤ k) (ms S) (h r) (cell : Nat) (way : List Nat) (hh : OkH h) (hr : OkR h r) (hc : cell < h.length) (hw : way ≠ []) (hl : way.length ≤ 1000) :
    callK prg k 12 [encH h, encR r, .int cell, encN way] ms S = if endOf h r way = some cell then .ok .non S else .exc 3 (.str "end") S := by
  obtain ⟨k, rfl⟩ := lv hk
  rw [ck (i := ⟨"accept_way", 4, 5, true, b12⟩) rfl rfl rfl]
  have c1 : ∀ n S, EV prg.fns.length (callK prg (k+4)) (n+8) (S.length :: ms) (.comp false (.and [.call 0 [.var 4], .cmp .ge (.var 4) (.con (.int 0))]) (.v 4) (.var 3) [] [4]) [some (encH h), some (encR r), some (.int cell), some (encN way), none] S = .ok (.lst (way.map fun _ => .bl true)) S := fun n S =>
    ev_compM (n := n+7) way (fun n : Nat => .int (n : Int)) (fun _ => .bl true) (by simp) (by omega) (fun a ha acc => ⟨_, by simp; rfl, by
      simp [is_integer_int' (k := k+4) (by omega)]⟩) (by simp)
  have e0 : way.isEmpty = false := by cases way with | nil => exact absurd rfl hw | cons _ _ => rfl
  by_cases he : endOf h r way = some cell
  · simp [b12, check_both' (k := k+4) (by omega) _ _ h r hh hr, check_cell' (k := k+4) (by omega) _ _ h cell hc, c1, boolsD_map, end_of' (k := k+4) (by omega) _ _ h r hh hr way hw, he, hw]
  · simp [b12, check_both' (k := k+4) (by omega) _ _ h r hh hr, check_cell' (k := k+4) (by omega) _ _ h cell hc, c1, boolsD_map, end_of' (k := k+4) (by omega) _ _ h r hh hr way hw, he, hw]
/-- an ascending list of cells -/
def IsSet (n : Nat) (l : List Nat) : Prop := l.Pairwise (· < ·) ∧ ∀ x ∈ l, x < n
theorem IsSet.len {n l} (h : IsSet n l) : l.length ≤ n := nodup_len n l (h.1.imp (fun h => by omega)) h.2
theorem is_set' {k} (hk : 2 ≤ k) (ms S) (h) (l : List Nat) (hh : OkH h) (hs : IsSet h.length l) : callK prg k 13 [encH h, encN l] ms S = .ok (.bl true) S := by
  obtain ⟨k, rfl⟩ := lv hk
  rw [ck (i := ⟨"is_set", 2, 4, true, b13⟩) rfl rfl rfl]
  have hl := hs.len
  have hhl := hh.1
  have c1 : ∀ n S, EV prg.fns.length (callK prg (k+1)) (n+8) (S.length :: ms) (.comp false (.and [.call 0 [.var 2], .cmp2 .le .lt (.con (.int 0)) (.var 2) (.bi false .len [.var 0])]) (.v 2) (.var 1) [] [2]) [some (encH h), some (encN l), none, none] S = .ok (.lst (l.map fun _ => .bl true)) S := fun n S =>
    ev_compM (n := n+7) l (fun n : Nat => .int (n : Int)) (fun _ => .bl true) (by simp) (by omega) (fun a ha acc => ⟨_, by simp; rfl, by
      simp [is_integer_int' (k := k+1) (by omega), hs.2 a ha]⟩) (by simp)
  have hr := rangeD0 (l.length - 1)
  have ho : ok62 ((l.length : Int) - 1) = true := by unfold ok62; simp; omega
  have c2 : ∀ n S, EV prg.fns.length (callK prg (k+1)) (n+8) (S.length :: ms) (.comp false (.cmp .lt (.ix (.var 1) (.var 3)) (.ix (.var 1) (.bin .add (.var 3) (.con (.int 1))))) (.v 3) (.rng [.bin .sub (.bi false .len [.var 1]) (.con (.int 1))]) [] [3]) [some (encH h), some (encN l), none, none] S = .ok (.lst ((List.range (l.length - 1)).map fun _ => .bl true)) S := fun n S =>
    ev_compM (n := n+7) (List.range (l.length - 1)) (fun n : Nat => .int (n : Int)) (fun _ => .bl true) (by simp [ho, hr]) (by simp; omega) (fun a ha acc => ⟨_, by simp; rfl, by
      simp at ha
      have h1 := ixNn (S ++ [⟨false, .lst acc⟩]) l (i := a) (by omega)
      have h2 := ixNn (S ++ [⟨false, .lst acc⟩]) l (i := a + 1) (by omega)
      have h3 : l.getD a 0 < l.getD (a + 1) 0 := by
        have := List.pairwise_iff_getElem.mp hs.1 a (a+1) (by omega) (by omega) (by omega)
        simpa [show a < l.length by omega, show a + 1 < l.length by omega] using this
      have h2' : ixop (S ++ [⟨false, .lst acc⟩]) (encN l) (.int ((a : Int) + 1)) = some (.int (l.getD (a+1) 0 : Nat)) := h2
      simp [-ix_eq, -List.getD_eq_getElem?_getD, h1, h2', h3]⟩) (by simp)
  simp [b13, c1, c2, boolsD_map]
/-- what accept_free says -/
def freeDue (h : List (List (Option Nat))) (r : List (Option Nat)) (cell : Nat) (l : List Nat) : Option Str :=
  if !l.contains cell then some "cell" else if r.any (inN l) then some "root" else if (List.range h.length).any (fun o => !l.contains o && (cel h o).any (inN l)) then some "way" else none
theorem filter_isEmpty {α β : Type} (l : List α) (p : α → Bool) (f : α → β) : (List.map f (l.filter p)).isEmpty = !l.any p := by
  induction l with
  | nil => rfl
  | cons a l ih =>
    cases h : p a <;> simp [List.filter_cons, h] at ih ⊢
    exact ih

theorem some_comp {nf call ms i j} {g : GE} (r : List (Option Nat)) (l : List Nat) (hr : r.length ≤ 1000) (hi : i < g.length) (hj : g[j]? = some (some (encN l))) (hij : i ≠ j) (it : Ex) (n S) (hit : itE (EV nf call (n+7) ms) it g S = .ok (r.map encF, none) S) :
    EV nf call (n+8) ms (.comp false (.var i) (.v i) it [.cmp .isin (.var i) (.var j)] [i]) g S = .ok (.lst ((r.filter (inN l)).map encF)) S := by
  refine ev_compP (n := n+7) r encF (inN l) encF hit (by omega) (fun a ha acc => ⟨_, by simp; rfl, ?_, fun _ => ?_⟩) (by simp)
  · have h1 : (g.set i (some (encF a)))[j]? = some (some (encN l)) := by rw [List.getElem?_set_ne hij, hj]
    have h2 : (g.set i (some (encF a)))[i]? = some (some (encF a)) := by rw [List.getElem?_set_self hi]
    simp [h1, h2]
    cases inN l a <;> rfl
  · have h2 : (g.set i (some (encF a)))[i]? = some (some (encF a)) := by rw [List.getElem?_set_self hi]
    simp [h2]
theorem tr_filter (S : Sto) (r : List (Option Nat)) (l : List Nat) : truth S (.lst ((r.filter (inN l)).map encF)) = some (r.any (inN l)) := by
  rw [tr_lst, filter_isEmpty]; simp
def af : List MP.St := [.ite (.and [.cmp .notin (.var 4) (.var 3), .comp false (.var 6) (.v 6) (.ix (.var 0) (.var 4)) [.cmp .isin (.var 6) (.var 3)] [6]]) [.raise 3 (.con (.str "way"))] []]
theorem af_for (k : Nat) (S : Sto) (ms : List Nat) (h) (hh : OkH h) (l : List Nat) (R C a5 : Option D) : ∀ (os : List Nat) (a4 : Option D), (∀ o ∈ os, o < h.length) →
    ∃ g5, forL (exP prg.sub prg.fns.length (callK prg k) ms 39) (.v 4) af (os.map fun n : Nat => .int (n : Int)) [some (encH h), R, C, some (encN l), a4, a5, none] S
      = if os.any (fun o => !l.contains o && (cel h o).any (inN l)) then .exc 3 (.str "way") g5 S else .ok .next g5 S
  | [], a4, _ => ⟨[some (encH h), R, C, some (encN l), a4, a5, none], rfl⟩
  | o :: os, a4, ho => by
    have hl := ho o (by simp)
    obtain ⟨g5, e⟩ := af_for k S ms h hh l R C a5 os (some (.int o)) (fun x hx => ho x (by simp [hx]))
    have hc := (hh.cell hl).1
    have c1 := some_comp (nf := prg.fns.length) (call := callK prg k) (ms := ms) (i := 6) (j := 3) (g := [some (encH h), R, C, some (encN l), some (.int (o : Int)), a5, none]) (cel h o) l (by omega) (by simp) rfl (by omega) (.ix (.var 0) (.var 4)) 29 S (by simp [-ix_eq, ixH S h hl])
    cases h1 : l.contains o with
    | true =>
      refine ⟨g5, ?_⟩
      simp at h1
      rw [List.map_cons, forL_cons]
      simp only [af] at e
      simp [af, h1, e]
    | false =>
      simp at h1
      cases h2 : (cel h o).any (inN l) with
      | true =>
        refine ⟨[some (encH h), R, C, some (encN l), some (.int o), a5, none], ?_⟩
        rw [List.map_cons, forL_cons]
        simp [-tr_lst, af, h1, c1, tr_filter, h2]
      | false =>
        refine ⟨g5, ?_⟩
        rw [List.map_cons, forL_cons]
        simp only [af] at e
        simp [-tr_lst, af, h1, c1, tr_filter, h2, e]
theorem accept_free' {k} (hk : 5 ≤ k) (ms S) (h r) (cell : Nat) (l : List Nat) (hh : OkH h) (hr : OkR h r) (hc : cell < h.length) (hs : IsSet h.length l) :
    callK prg k 14 [encH h, encR r, .int cell, encN l] ms S = match freeDue h r cell l with | none => .ok .non S | some s => .exc 3 (.str s) S := by
  obtain ⟨k, rfl⟩ := lv hk
  rw [ck (i := ⟨"accept_free", 4, 7, true, b14⟩) rfl rfl rfl]
  have hhl := hh.1
  have c1 := fun n S => some_comp (nf := prg.fns.length) (call := callK prg (k+4)) (ms := S.length :: ms) (i := 5) (j := 3) (g := [some (encH h), some (encR r), some (.int cell), some (encN l), none, none, none]) r l (by have := hr.1; omega) (by simp) rfl (by omega) (.var 1) n S (by simp)
  obtain ⟨g5, e⟩ := af_for (k+4) S (S.length :: ms) h hh l (some (encR r)) (some (.int cell)) none (List.range h.length) none (by simp)
  simp only [af] at e
  unfold freeDue
  cases h1 : l.contains cell with
  | false =>
    simp at h1
    simp [b14, check_both' (k := k+4) (by omega) _ _ h r hh hr, check_cell' (k := k+4) (by omega) _ _ h cell hc, is_set' (k := k+4) (by omega) _ _ h l hh hs, h1]
  | true =>
    simp at h1
    cases h2 : r.any (inN l) with
    | true =>
      simp [-tr_lst, b14, check_both' (k := k+4) (by omega) _ _ h r hh hr, check_cell' (k := k+4) (by omega) _ _ h cell hc, is_set' (k := k+4) (by omega) _ _ h l hh hs, h1, c1, tr_filter, h2]
    | false =>
      have o1 := ok62_nat (show h.length ≤ 1000000 by omega)
      cases h3 : (List.range h.length).any (fun o => !l.contains o && (cel h o).any (inN l)) with
      | true =>
        rw [h3] at e
        simp [-tr_lst, b14, check_both' (k := k+4) (by omega) _ _ h r hh hr, check_cell' (k := k+4) (by omega) _ _ h cell hc, is_set' (k := k+4) (by omega) _ _ h l hh hs, h1, c1, tr_filter, h2, o1, rangeD0, e, isDV]
      | false =>
        rw [h3] at e
        simp [-tr_lst, b14, check_both' (k := k+4) (by omega) _ _ h r hh hr, check_cell' (k := k+4) (by omega) _ _ h cell hc, is_set' (k := k+4) (by omega) _ _ h l hh hs, h1, c1, tr_filter, h2, o1, rangeD0, e, isDV]
end W58

set_option linter.all false
set_option maxRecDepth 100000
namespace W58
open MP PySem Mk58
def encT (n : Nat) : D × D := (.int n, .bl true)
theorem findK_T (l : List Nat) (n : Nat) : (findK (.int n) (l.map encT)).isSome = l.contains n := by
  induction l with
  | nil => rfl
  | cons a l ih =>
    simp only [List.map_cons, encT, findK, deep_eq, sameD_int, List.contains_cons]
    by_cases h : a = n
    · subst h; simp
    · have h' : ¬ (a : Int) = n := by omega
      simp [h', ih, show (n == a) = false by simp; omega]
theorem findK_Tn (l : List Nat) (n : Nat) (h : l.contains n = false) : findK (.int n) (l.map encT) = none := by
  have := findK_T l n
  rw [h] at this
  simpa using this
theorem putK_T (l : List Nat) (n : Nat) (h : l.contains n = false) : putK (.int n) (.bl true) (l.map encT) = (l ++ [n]).map encT := by
  unfold putK
  rw [findK_Tn l n h]
  simp [encT]
theorem member_T {T : Sto} {m : Nat} {lk : Bool} {l : List Nat} (hT : T[m]? = some ⟨lk, .dct false (l.map encT)⟩) (f : Option Nat) : cmpop.member T (encF f) (.ref m) = some (inN l f) := by
  rw [member_dct (t := false) (l := l.map encT) (by simp [hT]) (by simp [hT])]
  cases f with
  | none => rfl
  | some n => simp [inN, findK_T]
theorem member_TI {T : Sto} {m : Nat} {lk : Bool} {l : List Nat} (hT : T[m]? = some ⟨lk, .dct false (l.map encT)⟩) (n : Nat) : cmpop.member T (.int n) (.ref m) = some (l.contains n) := member_T hT (some n)
theorem keys_T (l : List Nat) : (l.map encT).map (·.1) = l.map fun n : Nat => .int (n : Int) := by simp [encT, Function.comp_def]
theorem sorted_T {T : Sto} {m : Nat} {lk : Bool} {l : List Nat} (hT : T[m]? = some ⟨lk, .dct false (l.map encT)⟩) : biop T .sorted [.ref m] = some (.lst ((sortN l).map fun n : Nat => .int (n : Int))) := by
  rw [bi_sorted]
  simp only [lo_ref, dc_ref, hT, keys_T, sortD_int]
  rfl
theorem enumH (h : List (List (Option Nat))) : enumD 0 (h.map encC) = (List.range h.length).map fun o : Nat => .tup [.int (o : Int), encC (cel h o)] := by
  have key : ∀ (l : List (List (Option Nat))) (k : Nat) , enumD k (l.map encC) = (List.range' k l.length).map fun o : Nat => .tup [.int (o : Int), encC (cel l (o - k))] := by
    intro l
    induction l with
    | nil => intro k; rfl
    | cons c l ih =>
      intro k
      rw [List.map_cons, enumD, ih, List.length_cons, List.range'_succ, List.map_cons]
      congr 1
      · simp [cel]
      · apply List.map_congr_left
        intro o ho
        simp at ho
        have : o - k = (o - (k + 1)) + 1 := by omega
        rw [this]
        rfl
  rw [key h 0, List.range_eq_range']
  rfl
/-- is o to be added? -/
def frs (h : List (List (Option Nat))) (l : List Nat) (o : Nat) : Bool := !l.contains o && (cel h o).any (inN l)
def lfStep (h : List (List (Option Nat))) (l : List Nat) (o : Nat) : List Nat := if frs h l o then l ++ [o] else l
def lfLoop (h : List (List (Option Nat))) : Nat → List Nat → List Nat
  | 0, l => l
  | n + 1, l => if ((List.range h.length).foldl (lfStep h) l).length = l.length then (List.range h.length).foldl (lfStep h) l else lfLoop h n ((List.range h.length).foldl (lfStep h) l)
def BSet (n : Nat) (l : List Nat) : Prop := l.Nodup ∧ ∀ x ∈ l, x < n
theorem lfStep_len (h l o) : l.length ≤ (lfStep h l o).length := by unfold lfStep; split <;> simp
theorem lfFold_len (h) : ∀ (os l : List Nat), l.length ≤ (os.foldl (lfStep h) l).length
  | [], l => Nat.le_refl _
  | o :: os, l => Nat.le_trans (lfStep_len h l o) (lfFold_len h os _)
theorem lfStep_set {h l o n} (hl : BSet n l) (ho : o < n) : BSet n (lfStep h l o) := by
  unfold lfStep
  split
  · rename_i hf
    unfold frs at hf
    simp at hf
    refine ⟨List.nodup_append.mpr ⟨hl.1, by simp, ?_⟩, ?_⟩
    · intro a ha b hb
      simp at hb
      subst hb
      rintro rfl
      exact hf.1 ha
    · intro x hx
      simp at hx
      rcases hx with hx | rfl
      · exact hl.2 x hx
      · exact ho
  · exact hl
theorem lfFold_set {h n} : ∀ {os l : List Nat}, BSet n l → (∀ o ∈ os, o < n) → BSet n (os.foldl (lfStep h) l)
  | [], l, hl, _ => hl
  | o :: os, l, hl, ho => lfFold_set (os := os) (lfStep_set hl (ho o (by simp))) fun x hx => ho x (by simp [hx])
/-- .. of the fields that are known -/
theorem some_compT {nf call ms i j} {g : GE} {m : Nat} {lk : Bool} (r : List (Option Nat)) (l : List Nat) (hr : r.length ≤ 1000) (hi : i < g.length) (hj : g[j]? = some (some (.ref m))) (hij : i ≠ j) (it : Ex) (n) (S : Sto) (hS : S[m]? = some ⟨lk, .dct false (l.map encT)⟩) (hit : itE (EV nf call (n+7) ms) it g S = .ok (r.map encF, none) S) :
    EV nf call (n+8) ms (.comp false (.var i) (.v i) it [.cmp .isin (.var i) (.var j)] [i]) g S = .ok (.lst ((r.filter (inN l)).map encF)) S := by
  refine ev_compP (n := n+7) r encF (inN l) encF hit (by omega) (fun a ha acc => ⟨_, by simp; rfl, ?_, fun _ => ?_⟩) (by simp)
  · have h1 : (g.set i (some (encF a)))[j]? = some (some (.ref m)) := by rw [List.getElem?_set_ne hij, hj]
    have h2 : (g.set i (some (encF a)))[i]? = some (some (encF a)) := by rw [List.getElem?_set_self hi]
    have h3 : (S ++ [⟨false, .lst acc⟩])[m]? = some ⟨lk, .dct false (l.map encT)⟩ := by
      rw [List.getElem?_append_left (List.getElem?_eq_some_iff.mp hS).1, hS]
    have h4 := member_T h3 a
    simp [-mb_ref, h1, h2, h4]
    cases inN l a <;> rfl
  · have h2 : (g.set i (some (encF a)))[i]? = some (some (encF a)) := by rw [List.getElem?_set_self hi]
    simp [h2]
def lf : List MP.St := [.ite (.and [.cmp .notin (.var 5) (.var 3), .comp false (.var 7) (.v 7) (.var 6) [.cmp .isin (.var 7) (.var 3)] [7]]) [.asg (.sub (.var 3) (.var 5)) (.con (.bl true)), .asg (.p (.v 4)) (.con (.bl true))] []]
theorem lf_for (k : Nat) (S : Sto) (ms : List Nat) (h) (hh : OkH h) (R C : Option D) : ∀ (os : List Nat) (l : List Nat) (b : Bool) (a5 a6 : Option D), (∀ o ∈ os, o < h.length) → BSet h.length l →
    ∃ b5 b6, forL (exP prg.sub prg.fns.length (callK prg k) (S.length :: ms) 38) (.tup [.v 5, .v 6]) lf (os.map fun o : Nat => .tup [.int (o : Int), encC (cel h o)]) [some (encH h), R, C, some (.ref S.length), some (.bl b), a5, a6, none, none] (S ++ [⟨false, .dct false (l.map encT)⟩])
      = .ok .next [some (encH h), R, C, some (.ref S.length), some (.bl (b || decide ((os.foldl (lfStep h) l).length ≠ l.length))), b5, b6, none, none] (S ++ [⟨false, .dct false ((os.foldl (lfStep h) l).map encT)⟩])
  | [], l, b, a5, a6, _, _ => ⟨a5, a6, by simp⟩
  | o :: os, l, b, a5, a6, ho, hl => by
    have hol := ho o (by simp)
    have hc := (hh.cell hol).1
    have hll := nodup_len _ _ hl.1 hl.2
    have hhl := hh.1
    have c1 := some_compT (nf := prg.fns.length) (call := callK prg k) (ms := S.length :: ms) (i := 7) (j := 3) (m := S.length) (lk := false) (g := [some (encH h), R, C, some (.ref S.length), some (.bl b), some (.int (o : Int)), some (encC (cel h o)), none, none]) (cel h o) l (by omega) (by simp) rfl (by omega) (.var 6) 28 (S ++ [⟨false, .dct false (l.map encT)⟩]) (by rw [getA0]; rfl) (by simp)
    have m1 : cmpop.member (S ++ [⟨false, .dct false (l.map encT)⟩]) (.int (o : Int)) (.ref S.length) = some (l.contains o) := member_TI (by rw [getA0]; rfl) o
    have hle : l.length ≤ 16777215 := by omega
    cases h1 : frs h l o with
    | false =>
      have e0 : lfStep h l o = l := by simp [lfStep, h1]
      obtain ⟨b5, b6, e⟩ := lf_for k S ms h hh R C os l b (some (.int o)) (some (encC (cel h o))) (fun x hx => ho x (by simp [hx])) hl
      refine ⟨b5, b6, ?_⟩
      rw [List.foldl_cons, e0, ← e, List.map_cons, forL_cons]
      unfold frs at h1
      cases h2 : l.contains o with
      | true => simp at h2; simp [-mb_ref, lf, m1, h2]
      | false =>
        rw [h2] at h1
        simp at h1 h2
        have h3 : (cel h o).any (inN l) = false := by simpa using h1
        simp [-mb_ref, -tr_lst, lf, m1, h2, c1, tr_filter, h3]
    | true =>
      have e0 : lfStep h l o = l ++ [o] := by simp [lfStep, h1]
      have hl' : BSet h.length (l ++ [o]) := e0 ▸ lfStep_set (h := h) hl hol
      obtain ⟨b5, b6, e⟩ := lf_for k S ms h hh R C os (l ++ [o]) true (some (.int o)) (some (encC (cel h o))) (fun x hx => ho x (by simp [hx])) hl'
      refine ⟨b5, b6, ?_⟩
      have e9 : (b || decide ((List.foldl (lfStep h) l (o :: os)).length ≠ l.length)) = (true || decide ((List.foldl (lfStep h) (l ++ [o]) os).length ≠ (l ++ [o]).length)) := by
        rw [List.foldl_cons, e0]
        have := lfFold_len h os (l ++ [o])
        simp at this ⊢
        right
        omega
      rw [e9, List.foldl_cons, e0, ← e, List.map_cons, forL_cons]
      unfold frs at h1
      rw [Bool.and_eq_true] at h1
      have h2 : l.contains o = false := by simpa using h1.1
      have h3 := h1.2
      have p1 := putK_T l o h2
      simp at h2
      simp [-mb_ref, -tr_lst, lf, m1, h2, c1, tr_filter, h3, p1, hle]
end W58

set_option linter.all false
set_option maxRecDepth 100000
namespace W58
open MP PySem Mk58
def lfb : List MP.St := [.asg (.p (.v 4)) (.con (.bl false)), .for_ (.tup [.v 5, .v 6]) (.enum (.var 0)) lf]
theorem lf_whl (k : Nat) (S : Sto) (ms : List Nat) (h) (hh : OkH h) (R C : Option D) : ∀ (n t : Nat) (l : List Nat) (a5 a6 : Option D), n ≤ t → h.length + 1 ≤ n + l.length → BSet h.length l →
    ∃ b5 b6, whlL (TV prg.fns.length (callK prg k) 39 (S.length :: ms)) (exP prg.sub prg.fns.length (callK prg k) (S.length :: ms) 39) (.var 4) lfb (t+1) [some (encH h), R, C, some (.ref S.length), some (.bl true), a5, a6, none, none] (S ++ [⟨false, .dct false (l.map encT)⟩])
      = .ok .next [some (encH h), R, C, some (.ref S.length), some (.bl false), b5, b6, none, none] (S ++ [⟨false, .dct false ((lfLoop h n l).map encT)⟩]) ∧ BSet h.length (lfLoop h n l)
  | 0, t, l, a5, a6, _, h2, h3 => by have := nodup_len _ _ h3.1 h3.2; omega
  | n + 1, 0, l, a5, a6, h1, h2, h3 => by omega
  | n + 1, t + 1, l, a5, a6, h1, h2, h3 => by
    obtain ⟨b5, b6, e⟩ := lf_for k S ms h hh R C (List.range h.length) l false a5 a6 (by simp) h3
    have h4 := lfFold_set (h := h) (os := List.range h.length) h3 (by simp)
    have h5 := lfFold_len h (List.range h.length) l
    by_cases hq : ((List.range h.length).foldl (lfStep h) l).length = l.length
    · refine ⟨b5, b6, ?_, ?_⟩
      · rw [lfLoop, if_pos hq, whl_step]
        simp only [hq] at e
        simp at e
        simp [lfb, enumH, e, isDV, unl_none]
        rw [whl_step]
        simp
      · rw [lfLoop, if_pos hq]; exact h4
    · obtain ⟨c5, c6, e2, e3⟩ := lf_whl k S ms h hh R C n t ((List.range h.length).foldl (lfStep h) l) b5 b6 (by omega) (by omega) h4
      refine ⟨c5, c6, ?_, ?_⟩
      · rw [lfLoop, if_neg hq, ← e2, whl_step]
        simp [hq] at e
        simp [lfb, enumH, e, isDV, unl_none]
      · rw [lfLoop, if_neg hq]; exact e3
def leastF (h : List (List (Option Nat))) (cell : Nat) : List Nat := lfLoop h (h.length + 1) [cell]
def encO (o : Option (List Nat)) : D := match o with | none => .non | some l => encN l
theorem least_free' {k} (hk : 5 ≤ k) (ms S) (h r) (cell : Nat) (hh : OkH h) (hr : OkR h r) (hc : cell < h.length) :
    callK prg k 15 [encH h, encR r, .int cell] ms S = .ok (encO (if r.any (inN (leastF h cell)) then none else some (sortN (leastF h cell)))) S := by
  obtain ⟨k, rfl⟩ := lv hk
  rw [ck (i := ⟨"least_free", 3, 9, true, b15⟩) rfl rfl rfl]
  have hhl := hh.1
  obtain ⟨c5, c6, e, e2⟩ := lf_whl (k+4) S ms h hh (some (encR r)) (some (.int cell)) (h.length + 1) 999999 [cell] none none (by omega) (by simp) ⟨by simp, by simpa using hc⟩
  have ht : turns = 999999 + 1 := Eq.trans rfl rfl
  have c1 := some_compT (nf := prg.fns.length) (call := callK prg (k+4)) (ms := S.length :: ms) (i := 8) (j := 3) (m := S.length) (lk := false) (g := [some (encH h), some (encR r), some (.int cell), some (.ref S.length), some (.bl false), c5, c6, none, none]) r (leastF h cell) (by have := hr.1; omega) (by simp) rfl (by omega) (.var 1) 31 (S ++ [⟨false, .dct false ((leastF h cell).map encT)⟩]) (by rw [getA0]; rfl) (by simp)
  have s1 : biop (S ++ [⟨false, .dct false ((leastF h cell).map encT)⟩]) .sorted [.ref S.length] = some (.lst ((sortN (leastF h cell)).map fun n : Nat => .int (n : Int))) := sorted_T (by rw [getA0]; rfl)
  simp only [lfb, lf, List.map_cons, List.map_nil, encT] at e
  change _ = RS.ok _ _ (S ++ [⟨false, .dct false ((leastF h cell).map encT)⟩]) at e
  cases hq : r.any (inN (leastF h cell)) with
  | true =>
    simp [-tr_lst, -List.any_eq_true, b15, check_both' (k := k+4) (by omega) _ _ h r hh hr, check_cell' (k := k+4) (by omega) _ _ h cell hc, ht, e, c1, tr_filter, hq, encO]
  | false =>
    simp [-tr_lst, -List.any_eq_true, -bi_sorted, b15, check_both' (k := k+4) (by omega) _ _ h r hh hr, check_cell' (k := k+4) (by omega) _ _ h cell hc, ht, e, c1, tr_filter, hq, s1]
    rw [unbox_below (by simp)]
    rfl
theorem depth_of' {k} (hk : 5 ≤ k) (ms S) (h r) (hh : OkH h) (hr : OkR h r) : callK prg k 18 [encH h, encR r] ms S = .ok (.tup ((List.range h.length).map fun c => match (ways h r).lookup c with | some w => .int ((w.length : Int) - 1) | none => .non)) S := by
  obtain ⟨k, rfl⟩ := lv hk
  rw [ck (i := ⟨"depth_of", 2, 4, true, b18⟩) rfl rfl rfl]
  have hhl := hh.1
  have o1 := ok62_nat (show h.length ≤ 1000000 by omega)
  have hb : ∀ n c, below (n : Nat) 60 (match (ways h r).lookup c with | some w => .int ((w.length : Int) - 1) | none => .non) = true := by
    intro n c; cases (ways h r).lookup c <;> rfl
  have c1 : ∀ n S, EV prg.fns.length (callK prg (k+4)) (n+8) (S.length :: ms) (.comp false (.ite (.cmp .isin (.var 3) (.var 2)) (.bin .sub (.bi false .len [.ix (.var 2) (.var 3)]) (.con (.int 1))) (.con .non)) (.v 3) (.rng [.bi false .len [.var 0]]) [] [3]) [some (encH h), some (encR r), some (encW (ways h r)), none] S
      = .ok (.lst ((List.range h.length).map fun c => match (ways h r).lookup c with | some w => .int ((w.length : Int) - 1) | none => .non)) S := fun n S =>
    ev_compM (n := n+7) (List.range h.length) (fun n : Nat => .int (n : Int)) _ (by simp [o1, rangeD0]) (by simp; omega) (fun a ha acc => ⟨_, by simp; rfl, by
      cases hw : (ways h r).lookup a with
      | none => simp [hw]
      | some w => simp [-ix_eq, hw, ixW _ _ hw]⟩) (fun a _ => hb _ a)
  simp [b18, check_both' (k := k+4) (by omega) _ _ h r hh hr, first_ways' (k := k+4) (by omega) _ _ h r hh hr, c1]
  rw [unbox_below (by simp; intro x hx; cases (ways h r).lookup x <;> rfl)]
end W58

set_option linter.all false
set_option maxRecDepth 100000
namespace W58
open MP PySem Mk58
theorem compL2_pure {E : EvF} {T : TtF} {elt : Ex} {tg tg1 : Pat} {it1 : Ex} {ifs1 : List Ex} {own1 : List Nat} {g : GE} {S : Sto} {α β : Type} (enc : α → D) (sub : α → List β) (encI : β → D) (q : β → Bool) (f : β → D) : ∀ (l : List α) (acc : List D), acc.length + (l.flatMap sub).length ≤ 16777216 →
    (∀ a ∈ l, ∀ acc, ∃ g1, asgN tg (enc a) g = some g1 ∧ itE E it1 g1 (S ++ [⟨false, .lst acc⟩]) = .ok ((sub a).map encI, none) (S ++ [⟨false, .lst acc⟩]) ∧
      ∀ b ∈ sub a, ∀ acc, ∃ g2, asgN tg1 (encI b) (wipeE g1 own1) = some g2 ∧ ttAnd T ifs1 g2 (S ++ [⟨false, .lst acc⟩]) = .ok (q b) (S ++ [⟨false, .lst acc⟩]) ∧
        (q b = true → E elt g2 (S ++ [⟨false, .lst acc⟩]) = .ok (f b) (S ++ [⟨false, .lst acc⟩]))) →
    compL2 E T elt tg [] tg1 it1 ifs1 own1 g S.length (l.map enc) (S ++ [⟨false, .lst acc⟩]) = .ok () (S ++ [⟨false, .lst (acc ++ (((l.flatMap sub).filter q).map f))⟩])
  | [], acc, _, _ => by simp [compL2]
  | a :: l, acc, hl, H => by
    obtain ⟨g1, h1, h2, h3⟩ := H a (by simp) acc
    simp only [List.flatMap_cons, List.length_append] at hl
    have hle : ((sub a).filter q).length ≤ (sub a).length := List.length_filter_le _ _
    have ih := compL2_pure enc sub encI q f l (acc ++ ((sub a).filter q).map f) (by simp only [List.length_append, List.length_map]; omega) (fun x hx => H x (by simp [hx]))
    have c := compLA_pure (E := E) (T := T) (elt := elt) (tg := tg1) (ifs := ifs1) (g := wipeE g1 own1) (S := S) encI q f (sub a) acc (by omega) h3
    rw [List.map_cons]
    unfold compL2
    rw [h1]
    simp only [ttAnd_nil, noX_ok, bind_ok, if_true, h2, c, ih]
    simp [List.flatMap_cons]
theorem ev_comp2M {nf call n ms elt tg it tg1 it1 ifs1 own own1 g S} {α β : Type} (l : List α) (enc : α → D) (sub : α → List β) (encI : β → D) (q : β → Bool) (f : β → D)
    (hi : itE (EV nf call n ms) it g S = .ok (l.map enc, none) S) (hl : (l.flatMap sub).length ≤ 16777216)
    (H : ∀ a ∈ l, ∀ acc, ∃ g1, asgN tg (enc a) (wipeE g own) = some g1 ∧ itE (EV nf call n (S.length :: ms)) it1 g1 (S ++ [⟨false, .lst acc⟩]) = .ok ((sub a).map encI, none) (S ++ [⟨false, .lst acc⟩]) ∧
      ∀ b ∈ sub a, ∀ acc, ∃ g2, asgN tg1 (encI b) (wipeE g1 own1) = some g2 ∧ ttAnd (TV nf call n (S.length :: ms)) ifs1 g2 (S ++ [⟨false, .lst acc⟩]) = .ok (q b) (S ++ [⟨false, .lst acc⟩]) ∧
        (q b = true → (EV nf call n (S.length :: ms)) elt g2 (S ++ [⟨false, .lst acc⟩]) = .ok (f b) (S ++ [⟨false, .lst acc⟩])))
    (hb : ∀ b, below S.length 60 (f b) = true) :
    (EV nf call (n+1) ms) (.comp2 false elt tg it [] tg1 it1 ifs1 own own1) g S = .ok (.lst (((l.flatMap sub).filter q).map f)) S := by
  rw [ev_comp2, hi, bind_ok]
  unfold compD
  simp only [lockN]
  rw [compL2_pure enc sub encI q f l [] (by simpa using hl) H]
  simp only [bind_ok, List.nil_append]
  unfold compEnd
  rw [getA0]
  simp only [List.getElem?_cons_zero, Bool.false_eq_true, if_false]
  rw [if_pos, takeA, lockN]
  simp only [lenA, List.length_cons, List.length_nil, Nat.zero_add, decide_true, Bool.true_and, List.all_eq_true, List.mem_map, List.mem_filter, forall_exists_index, and_imp, deep_eq]
  rintro x a ha hp rfl
  exact hb a
def countW (h : List (List (Option Nat))) (r : List (Option Nat)) (cell : Nat) : Nat := (r.filter (· == some cell)).length + (((ways h r).flatMap fun p => cel h p.1).filter (· == some cell)).length
theorem flat_len (h : List (List (Option Nat))) (hh : OkH h) : ∀ (w : W), (∀ p ∈ w, p.1 < h.length) → (w.flatMap fun p => cel h p.1).length ≤ 6 * w.length
  | [], _ => by simp
  | p :: w, hw => by
    have h1 := (hh.cell (hw p (by simp))).1
    have h2 := flat_len h hh w fun q hq => hw q (by simp [hq])
    simp only [List.flatMap_cons, List.length_append, List.length_cons]
    omega
theorem ways_count' {k} (hk : 5 ≤ k) (ms S) (h r) (cell : Nat) (hh : OkH h) (hr : OkR h r) (hc : cell < h.length) :
    callK prg k 16 [encH h, encR r, .int cell] ms S = .ok (.int (countW h r cell : Nat)) S := by
  obtain ⟨k, rfl⟩ := lv hk
  rw [ck (i := ⟨"ways_count", 3, 8, true, b16⟩) rfl rfl rfl]
  have hhl := hh.1
  have hw := ways_inv h r hh hr
  have hwl := hw.le
  have hfl := flat_len h hh (ways h r) hw.lt
  have c1 : ∀ n S, EV prg.fns.length (callK prg (k+4)) (n+8) (S.length :: ms) (.comp false (.var 5) (.v 5) (.var 1) [.cmp .eq (.var 5) (.var 2)] [5]) [some (encH h), some (encR r), some (.int cell), some (encW (ways h r)), none, none, none, none] S
      = .ok (.lst ((r.filter (· == some cell)).map encF)) S := fun n S =>
    ev_compP (n := n+7) r encF (· == some cell) encF (by simp) (by have := hr.1; omega) (fun a ha acc => ⟨_, by simp; rfl, by
      simp
      cases hq : a == some cell <;> simp at hq <;> simp [hq], fun _ => by simp⟩) (by simp)
  have c2 : ∀ n a5 a4 S, EV prg.fns.length (callK prg (k+4)) (n+8) (S.length :: ms) (.comp2 false (.var 7) (.v 6) (.var 3) [] (.v 7) (.ix (.var 0) (.var 6)) [.cmp .eq (.var 7) (.var 2)] [6, 7] [7]) [some (encH h), some (encR r), some (.int cell), some (encW (ways h r)), a4, a5, none, none] S
      = .ok (.lst ((((ways h r).flatMap fun p => cel h p.1).filter (· == some cell)).map encF)) S := fun n a5 a4 S =>
    ev_comp2M (n := n+7) (ways h r) (fun p => .int (p.1 : Int)) (fun p => cel h p.1) encF (· == some cell) encF (by simp) (by omega) (fun p hp acc => ⟨_, by simp; rfl, by
      simp [-ix_eq, ixH _ h (hw.lt p hp)], fun b hb acc => ⟨_, by simp; rfl, by
      simp
      cases hq : b == some cell <;> simp at hq <;> simp [hq], fun _ => by simp⟩⟩) (by simp)
  simp [b16, check_both' (k := k+4) (by omega) _ _ h r hh hr, check_cell' (k := k+4) (by omega) _ _ h cell hc, first_ways' (k := k+4) (by omega) _ _ h r hh hr, c1, c2, countW]
end W58

set_option linter.all false
set_option maxRecDepth 100000
namespace W58
open MP PySem Mk58
abbrev nints (l : List Nat) : List D := l.map fun n : Nat => .int (n : Int)
theorem insN_len (x) : ∀ l, (insN x l).length = l.length + 1
  | [] => rfl
  | y :: l => by unfold insN; split <;> simp [insN_len x l]
theorem sortN_len : ∀ l, (sortN l).length = l.length
  | [] => rfl
  | x :: l => by rw [sortN, insN_len, sortN_len l]; rfl
theorem insN_mem {x a : Nat} : ∀ {l : List Nat}, a ∈ insN x l ↔ a = x ∨ a ∈ l
  | [] => by simp [insN]
  | y :: l => by
    unfold insN
    split
    · rw [List.mem_cons, insN_mem, List.mem_cons]
      constructor
      · rintro (h | h | h) <;> simp [h]
      · rintro (h | h | h) <;> simp [h]
    · simp
theorem sortN_mem {a : Nat} : ∀ {l : List Nat}, a ∈ sortN l ↔ a ∈ l
  | [] => by simp [sortN]
  | x :: l => by rw [sortN, insN_mem, sortN_mem, List.mem_cons]
theorem insN_asc {x : Nat} : ∀ {l : List Nat}, l.Pairwise (· < ·) → x ∉ l → (insN x l).Pairwise (· < ·)
  | [], _, _ => by simp [insN]
  | y :: l, h, hx => by
    simp only [List.mem_cons, not_or] at hx
    have h' := List.pairwise_cons.mp h
    unfold insN
    split
    · rename_i hlt
      refine List.pairwise_cons.mpr ⟨?_, insN_asc h'.2 hx.2⟩
      intro a ha
      rcases insN_mem.mp ha with rfl | ha
      · exact hlt
      · exact h'.1 a ha
    · rename_i hlt
      refine List.pairwise_cons.mpr ⟨?_, h⟩
      intro a ha
      rcases List.mem_cons.mp ha with rfl | ha
      · omega
      · have := h'.1 a ha; omega
theorem sortN_asc : ∀ {l : List Nat}, l.Nodup → (sortN l).Pairwise (· < ·)
  | [], _ => by simp [sortN]
  | x :: l, h => by
    have h' := List.nodup_cons.mp h
    exact insN_asc (sortN_asc h'.2) (fun hx => h'.1 (sortN_mem.mp hx))
/-- ascending lists with the same items -/
theorem asc_ext : ∀ {l k : List Nat}, l.Pairwise (· < ·) → k.Pairwise (· < ·) → (∀ a, a ∈ l ↔ a ∈ k) → l = k
  | [], [], _, _, _ => rfl
  | [], b :: k, _, _, h => by have := (h b).mpr (by simp); cases this
  | a :: l, [], _, _, h => by have := (h a).mp (by simp); cases this
  | a :: l, b :: k, hl, hk, h => by
    have hl' := List.pairwise_cons.mp hl
    have hk' := List.pairwise_cons.mp hk
    have e : a = b := by
      have h1 := (h a).mp (by simp)
      have h2 := (h b).mpr (by simp)
      rcases List.mem_cons.mp h1 with e | h1
      · exact e
      · rcases List.mem_cons.mp h2 with e | h2
        · exact e.symm
        · have := hl'.1 b h2; have := hk'.1 a h1; omega
    subst e
    congr 1
    apply asc_ext hl'.2 hk'.2
    intro x
    constructor
    · intro hx
      have := hl'.1 x hx
      rcases List.mem_cons.mp ((h x).mp (by simp [hx])) with e | h2
      · omega
      · exact h2
    · intro hx
      have := hk'.1 x hx
      rcases List.mem_cons.mp ((h x).mpr (by simp [hx])) with e | h2
      · omega
      · exact h2
theorem any_int (n m : Nat) (l : List Nat) : (nints l).any (fun x => eqD (n+1) x (.int m)) = l.contains m := any_encF n (some m) l
@[simp 1100] theorem mb_L (S l) (n : Nat) : cmpop.member S (.int n) (.lst (nints l)) = some (l.contains n) := by
  rw [member_seq (sq_lst S _), any_int]; simp
/-! dicts whose keys are tuples of nints -/
def encQ (l : List Nat) : D × D := (encN l, .bl true)
theorem sameN (a b : List Nat) : sameD 60 (encN a) (encN b) = (a == b) := by
  show eqD.eqDs (sameD 59) _ _ = _
  have key : ∀ (a b : List Nat), eqD.eqDs (sameD 59) (nints a) (nints b) = (a == b) := by
    intro a
    induction a with
    | nil => intro b; cases b <;> rfl
    | cons x a ih =>
      intro b
      cases b with
      | nil => rfl
      | cons y b =>
        show (((x : Int) == (y : Int)) && eqD.eqDs (sameD 59) (nints a) (nints b)) = _
        rw [ih]
        by_cases h : x = y
        · subst h; simp
        · have e1 : ((x : Int) == (y : Int)) = false := by simp; omega
          have e2 : (x == y) = false := by simp [h]
          rw [e1, List.cons_beq_cons, e2]
  exact key a b
def addT (ks : List (List Nat)) (r : List Nat) : List (List Nat) := if ks.contains r then ks else ks ++ [r]
theorem putK_Q (ks : List (List Nat)) (r : List Nat) : putK (encN r) (.bl true) (ks.map encQ) = (addT ks r).map encQ := by
  have h1 : (findK (encN r) (ks.map encQ)).isSome = ks.contains r := by
    induction ks with
    | nil => rfl
    | cons a ks ih =>
      simp only [List.map_cons, encQ, findK, deep_eq, sameN, List.contains_cons]
      by_cases h : a = r
      · subst h; simp
      · simp [h, ih, show (r == a) = false by simp; exact fun e => h e.symm]
  unfold putK addT
  rw [h1]
  cases h : ks.contains r with
  | true =>
    simp only [if_true]
    rw [List.map_map]
    apply List.map_congr_left
    intro a ha
    simp only [Function.comp, encQ, deep_eq, sameN]
    split
    · rename_i e; simp at e; rw [e]
    · rfl
  | false => simp [encQ]
theorem addT_len (ks r) : (addT ks r).length ≤ ks.length + 1 := by unfold addT; split <;> simp
theorem insD_mem {x a : D} : ∀ {l : List D}, a ∈ insD x l → a = x ∨ a ∈ l
  | [], h => by simp [insD] at h; exact .inl h
  | y :: l, h => by
    unfold insD at h
    split at h
    · simpa using h
    · rcases List.mem_cons.mp h with rfl | h
      · simp
      · rcases insD_mem h with h | h
        · exact .inl h
        · simp [h]
theorem isortD_mem {a : D} : ∀ {l : List D}, a ∈ isortD l → a ∈ l
  | [], h => by simp [isortD] at h
  | x :: l, h => by
    rcases insD_mem h with rfl | h
    · simp
    · simp [isortD_mem h]
theorem sortD_Q (ks : List (List Nat)) (h : ∀ k ∈ ks, k ≠ []) : sortD (ks.map encN) = some (isortD (ks.map encN)) := by
  unfold sortD
  have : (ks.map encN).all isTI = true := by
    rw [List.all_eq_true]
    intro d hd
    obtain ⟨k, hk, rfl⟩ := List.mem_map.mp hd
    cases k with
    | nil => exact absurd rfl (h _ hk)
    | cons a k =>
      simp [encN, isTI, isI]
  rw [this]
  simp
theorem keys_Q (ks : List (List Nat)) : (ks.map encQ).map (·.1) = ks.map encN := by simp [encQ, Function.comp_def]
theorem sorted_Q {T : Sto} {m : Nat} {lk : Bool} {ks : List (List Nat)} (hT : T[m]? = some ⟨lk, .dct true (ks.map encQ)⟩) (h : ∀ k ∈ ks, k ≠ []) : biop T .sorted [.ref m] = some (.lst (isortD (ks.map encN))) := by
  rw [bi_sorted]
  simp only [lo_ref, dc_ref, hT, keys_Q, sortD_Q ks h]
  rfl
/-! rings -/
def rch (h : List (List (Option Nat))) (c : Nat) : List Nat := sortN (keys (ways h [some c]))
def ringR (h : List (List (Option Nat))) (c : Nat) : List Nat := (rch h c).filter fun o => (rch h o).contains c
def ringStep (h : List (List (Option Nat))) (ks : List (List Nat)) (c : Nat) : List (List Nat) := if (decide (1 < (ringR h c).length) || (cel h c).contains (some c)) then addT ks (ringR h c) else ks
theorem rch_inv {h} (hh : OkH h) {c} (hc : c < h.length) : Inv h.length (ways h [some c]) := ways_inv h _ hh ⟨by simp, by simp [OkF]; omega⟩
theorem rch_lt {h} (hh : OkH h) {c} (hc : c < h.length) : ∀ o ∈ rch h c, o < h.length := by
  intro o ho
  unfold rch at ho
  rw [sortN_mem] at ho
  obtain ⟨p, hp, rfl⟩ := List.mem_map.mp ho
  exact (rch_inv hh hc).lt p hp
theorem rch_len {h} (hh : OkH h) {c} (hc : c < h.length) : (rch h c).length ≤ h.length := by
  have := (rch_inv hh hc).le
  unfold rch
  rw [sortN_len]
  simpa [keys] using this
@[simp] theorem all_int (l : List Nat) (n m : Nat) : (nints l).all (below m (n+1)) = true := by simp
def rg : List MP.St := [.asg (.p (.v 4)) (.bi false .tuple [.comp false (.var 5) (.v 5) (.ix (.var 1) (.var 3)) [.cmp .isin (.var 3) (.ix (.var 1) (.var 5))] [5]]), .ite (.or [.cmp .gt (.bi false .len [.var 4]) (.con (.int 1)), .cmp .isin (.var 3) (.ix (.var 0) (.var 3))]) [.asg (.sub (.var 2) (.var 4)) (.con (.bl true))] []]
def ahd (h : List (List (Option Nat))) (f : Nat → List Nat) : D := .lst ((List.range h.length).map fun c => .lst (nints (f c)))
theorem ix_ahd (S h f) {c : Nat} (hc : c < h.length) : ixop S (ahd h f) (.int c) = some (.lst (nints (f c))) := by
  have := ixN_nat hc
  simp [ahd, this, hc]
theorem rg_comp (k : Nat) (ms : List Nat) (h) (hh : OkH h) (c : Nat) (hc : c < h.length) (a2 a4 a5) (n S) : EV prg.fns.length (callK prg k) (n+8) ms (.comp false (.var 5) (.v 5) (.ix (.var 1) (.var 3)) [.cmp .isin (.var 3) (.ix (.var 1) (.var 5))] [5]) [some (encH h), some (ahd h (rch h)), a2, some (.int (c : Int)), a4, a5] S
    = .ok (.lst (nints (ringR h c))) S := by
  have hl := rch_len hh hc
  have hhl := hh.1
  refine ev_compP (n := n+7) (rch h c) (fun n : Nat => .int (n : Int)) (fun o => (rch h o).contains c) (fun n : Nat => .int (n : Int)) (by simp [-ix_eq, ix_ahd S h (rch h) hc]) (by omega) (fun o ho acc => ⟨_, by simp; rfl, ?_, fun _ => by simp⟩) (by simp)
  have ho' := rch_lt hh hc o ho
  simp [-ix_eq, -List.contains_eq_mem, -mb_lst, ix_ahd _ h (rch h) ho']
  cases (rch h o).contains c <;> rfl
theorem rg_for (k : Nat) (S : Sto) (ms : List Nat) (h) (hh : OkH h) : ∀ (cs : List Nat) (ks : List (List Nat)) (a3 a4 : Option D), (∀ c ∈ cs, c < h.length) → ks.length + cs.length ≤ 1000 →
    ∃ b3 b4, forL (exP prg.sub prg.fns.length (callK prg k) (S.length :: ms) 39) (.v 3) rg (nints cs) [some (encH h), some (ahd h (rch h)), some (.ref S.length), a3, a4, none] (S ++ [⟨false, .dct true (ks.map encQ)⟩])
      = .ok .next [some (encH h), some (ahd h (rch h)), some (.ref S.length), b3, b4, none] (S ++ [⟨false, .dct true ((cs.foldl (ringStep h) ks).map encQ)⟩])
  | [], ks, a3, a4, _, _ => ⟨a3, a4, rfl⟩
  | c :: cs, ks, a3, a4, hcs, hl => by
    have hc := hcs c (by simp)
    simp only [List.length_cons] at hl
    have hle : ks.length ≤ 16777215 := by omega
    have hst : (ringStep h ks c).length + cs.length ≤ 1000 := by
      unfold ringStep
      have := addT_len ks (ringR h c)
      split <;> omega
    obtain ⟨b3, b4, e⟩ := rg_for k S ms h hh cs (ringStep h ks c) (some (.int c)) (some (encN (ringR h c))) (fun x hx => hcs x (by simp [hx])) hst
    refine ⟨b3, b4, ?_⟩
    rw [List.foldl_cons, ← e, show nints (c :: cs) = .int (c : Int) :: nints cs from rfl, forL_cons]
    have c2 := fun ms a2 a4 a5 n S => rg_comp k ms h hh c hc a2 a4 a5 n S
    have p1 := putK_Q ks (ringR h c)
    have kq : isKey true (encN (ringR h c)) = true := by unfold encN; rw [key_tup]; simp
    cases h1 : decide (1 < (ringR h c).length) with
    | true =>
      have e3 : ringStep h ks c = addT ks (ringR h c) := by simp [ringStep, h1]
      simp at h1
      have hi : (1 : Int) < (ringR h c).length := by omega
      rw [e3]
      simp only [encN] at p1 kq
      simp [-ix_eq, -key_tup, rg, c2, hi, p1, hle, kq, encN]
    | false =>
      have h1' := h1
      simp at h1
      have hi : ¬ (1 : Int) < (ringR h c).length := by omega
      cases h2 : (cel h c).contains (some c) with
      | true =>
        have e3 : ringStep h ks c = addT ks (ringR h c) := by unfold ringStep; rw [h1', h2]; rfl
        rw [e3]
        simp only [encN] at p1 kq
        simp [-ix_eq, -key_tup, -List.contains_eq_mem, rg, c2, hi, p1, hle, kq, encN, ixH _ h hc, h2]
      | false =>
        have e3 : ringStep h ks c = ks := by unfold ringStep; rw [h1', h2]; rfl
        rw [e3]
        simp [-ix_eq, -List.contains_eq_mem, rg, c2, hi, encN, ixH _ h hc, h2]
theorem encN_ints (l : List Nat) : encN l = .tup (nints l) := rfl
def ringKeys (h : List (List (Option Nat))) : List (List Nat) := (List.range h.length).foldl (ringStep h) []
def encRings (ks : List (List Nat)) : D := .tup (isortD (ks.map encN))
theorem self_ways (h : List (List (Option Nat))) (hh : OkH h) {c : Nat} (hc : c < h.length) : c ∈ rch h c := by
  unfold rch
  rw [sortN_mem]
  have key : ∀ (n a : Nat) (w : W), c ∈ keys w → c ∈ keys (wloop h n a w) := by
    have add : ∀ (pre) (r : List (Option Nat)) (w : W) (i : Nat), c ∈ keys w → c ∈ keys (addAll pre w i r) := by
      intro pre r
      induction r with
      | nil => intro w i hw; exact hw
      | cons f r ih =>
        intro w i hw
        apply ih
        unfold addW
        cases f with
        | none => exact hw
        | some n =>
          simp only
          split
          · exact hw
          · unfold keys at hw ⊢
            rw [List.map_append]
            exact List.mem_append_left _ hw
    intro n
    induction n with
    | zero => intro a w hw; exact hw
    | succ n ih =>
      intro a w hw
      rw [wloop]
      split
      · exact hw
      · exact ih _ _ (add _ _ _ _ hw)
  exact key _ _ _ (by simp [keys, addAll, addW])
theorem ringR_self {h} (hh : OkH h) {c : Nat} (hc : c < h.length) : c ∈ ringR h c := by
  unfold ringR
  rw [List.mem_filter]
  exact ⟨self_ways h hh hc, by simpa using self_ways h hh hc⟩
theorem ringKeys_ne {h} (hh : OkH h) : ∀ (cs : List Nat) (ks : List (List Nat)), (∀ c ∈ cs, c < h.length) → (∀ k ∈ ks, k ≠ []) → ∀ k ∈ cs.foldl (ringStep h) ks, k ≠ []
  | [], ks, _, hk => hk
  | c :: cs, ks, hc, hk => by
    apply ringKeys_ne hh cs _ (fun x hx => hc x (by simp [hx]))
    unfold ringStep
    split
    · unfold addT
      split
      · exact hk
      · intro k hkk
        simp at hkk
        rcases hkk with hkk | rfl
        · exact hk k hkk
        · exact List.ne_nil_of_mem (ringR_self hh (hc c (by simp)))
    · exact hk
theorem rings' {k} (hk : 5 ≤ k) (ms S) (h) (hh : OkH h) : callK prg k 17 [encH h] ms S = .ok (encRings (ringKeys h)) S := by
  obtain ⟨k, rfl⟩ := lv hk
  rw [ck (i := ⟨"rings", 1, 6, true, b17⟩) rfl rfl rfl]
  have hhl := hh.1
  have o1 := ok62_nat (show h.length ≤ 1000000 by omega)
  have c1 : ∀ n S, EV prg.fns.length (callK prg (k+4)) (n+8) (S.length :: ms) (.comp false (.call 7 [.var 0, .lst false [.var 3]]) (.v 3) (.rng [.bi false .len [.var 0]]) [] [3]) [some (encH h), none, none, none, none, none] S = .ok (ahd h (rch h)) S := fun n S =>
    ev_compM (n := n+7) (List.range h.length) (fun n : Nat => .int (n : Int)) (fun c => .lst (nints (rch h c))) (by simp [o1, rangeD0]) (by simp; omega) (fun a ha acc => ⟨_, by simp; rfl, by
      simp [reached_from' (k := k+4) (by omega) _ _ h a hh (by simpa using ha)]
      rfl⟩) (by simp)
  obtain ⟨b3, b4, e⟩ := rg_for (k+4) S ms h hh (List.range h.length) [] none none (by simp) (by simp; omega)
  have s1 : biop (S ++ [⟨false, .dct true ((ringKeys h).map encQ)⟩]) .sorted [.ref S.length] = some (.lst (isortD ((ringKeys h).map encN))) := sorted_Q (by rw [getA0]; rfl) (ringKeys_ne hh _ _ (by simp) (by simp))
  change _ = RS.ok _ _ (S ++ [⟨false, .dct true ((ringKeys h).map encQ)⟩]) at e
  simp only [rg, List.map_nil] at e
  simp [-bi_sorted, b17, check_heap' (k := k+4) (by omega) _ _ h hh, c1, o1, rangeD0, e, isDV, unl_none, s1]
  rw [unbox_below (by
    simp
    intro x hx
    have := isortD_mem hx
    obtain ⟨l, _, rfl⟩ := List.mem_map.mp this
    simp)]
  rfl
end W58

set_option linter.all false
set_option maxRecDepth 100000
namespace W58
open MP PySem Mk58
@[simp] theorem lockA (b x : Bool) (bd : Bd) (S : Sto) (O : List Ob) : lockAt b (some S.length) (S ++ ⟨x, bd⟩ :: O) = S ++ ⟨b, bd⟩ :: O := by
  unfold lockAt
  simp only [getA0, List.getElem?_cons_zero, setA0, List.set_cons_zero]
/-- a new list of the store by a comprehension -/
theorem ev_compB {nf call n ms elt tg it ifs own g S} {α : Type} (l : List α) (enc : α → D) (p : α → Bool) (f : α → D)
    (hi : itE (EV nf call n ms) it g S = .ok (l.map enc, none) S) (hl : l.length ≤ 16777216)
    (H : ∀ a ∈ l, ∀ acc, ∃ g1, asgN tg (enc a) (wipeE g own) = some g1 ∧ ttAnd (TV nf call n (S.length :: ms)) ifs g1 (S ++ [⟨false, .lst acc⟩]) = .ok (p a) (S ++ [⟨false, .lst acc⟩]) ∧
      (p a = true → (EV nf call n (S.length :: ms)) elt g1 (S ++ [⟨false, .lst acc⟩]) = .ok (f a) (S ++ [⟨false, .lst acc⟩]))) :
    (EV nf call (n+1) ms) (.comp true elt tg it ifs own) g S = .ok (.ref S.length) (S ++ [⟨false, .lst ((l.filter p).map f)⟩]) := by
  rw [ev_comp, hi, bind_ok]
  unfold compD
  simp only [lockN]
  rw [compLA_pure enc p f l [] (by simpa using hl) H]
  simp only [bind_ok, List.nil_append]
  unfold compEnd
  rw [getA0]
  simp only [List.getElem?_cons_zero, if_true, lockN]
/-- a comprehension over a list of the store -/
theorem ev_compK {nf call n ms elt tg i own g} {S0 : Sto} {O : List Ob} {α : Type} (l : List α) (enc : α → D) (f : α → D) (hg : g[i]? = some (some (.ref S0.length))) (hl : l.length ≤ 16777216)
    (H : ∀ a ∈ l, ∀ acc, ∃ g1, asgN tg (enc a) (wipeE g own) = some g1 ∧
      (EV nf call n ((S0 ++ ⟨true, .lst (l.map enc)⟩ :: O).length :: ms)) elt g1 ((S0 ++ ⟨true, .lst (l.map enc)⟩ :: O) ++ [⟨false, .lst acc⟩]) = .ok (f a) ((S0 ++ ⟨true, .lst (l.map enc)⟩ :: O) ++ [⟨false, .lst acc⟩]))
    (hb : ∀ a ∈ l, ∀ m, below m 60 (f a) = true) :
    (EV nf call (n+1) ms) (.comp false elt tg (.var i) [] own) g (S0 ++ ⟨false, .lst (l.map enc)⟩ :: O) = .ok (.lst (l.map f)) (S0 ++ ⟨false, .lst (l.map enc)⟩ :: O) := by
  have hi : itE (EV nf call n ms) (.var i) g (S0 ++ ⟨false, .lst (l.map enc)⟩ :: O) = .ok (l.map enc, some S0.length) (S0 ++ ⟨false, .lst (l.map enc)⟩ :: O) := by
    simp [hg]
  rw [ev_comp, hi, bind_ok]
  unfold compD
  simp only [lockA]
  have c := compLA_pure (E := EV nf call n ((S0 ++ ⟨true, .lst (l.map enc)⟩ :: O).length :: ms)) (T := TV nf call n ((S0 ++ ⟨true, .lst (l.map enc)⟩ :: O).length :: ms)) (elt := elt) (tg := tg) (ifs := []) (g := wipeE g own) (S := S0 ++ ⟨true, .lst (l.map enc)⟩ :: O) enc (fun _ => true) f l [] (by simpa using hl) (fun a ha acc => by
    obtain ⟨g1, h1, h2⟩ := H a ha acc
    exact ⟨g1, h1, rfl, fun _ => h2⟩)
  rw [c]
  simp only [bind_ok, List.nil_append]
  unfold compEnd
  rw [getA0]
  simp only [List.getElem?_cons_zero, Bool.false_eq_true, if_false]
  rw [if_pos, takeA, lockA]
  · congr 2
    rw [List.filter_eq_self.mpr fun _ _ => rfl]
  · simp only [lenA, List.length_cons, List.length_nil, Nat.zero_add, decide_true, Bool.true_and, List.all_eq_true, List.mem_map, List.mem_filter, forall_exists_index, and_imp, deep_eq]
    rintro x a ha hp rfl
    exact hb a ha _
/-! _law_led -/
def addN (l g : List Nat) : List Nat := g.foldl (fun l n => if l.contains n then l else l ++ [n]) l
theorem putK_T' (l : List Nat) (n : Nat) : putK (.int n) (.bl true) (l.map encT) = (if l.contains n then l else l ++ [n]).map encT := by
  cases h : l.contains n with
  | false => simpa using putK_T l n h
  | true =>
    have h1 := findK_T l n
    rw [h] at h1
    unfold putK
    rw [h1]
    simp only [if_true]
    rw [List.map_map]
    apply List.map_congr_left
    intro a ha
    simp only [Function.comp, encT, deep_eq, sameD_int]
    split
    · rename_i e; simp at e; simp [e]
    · rfl
theorem mergeD_T : ∀ (g l : List Nat), mergeD (l.map encT) (g.map encT) = (addN l g).map encT
  | [], l => rfl
  | n :: g, l => by
    rw [List.map_cons]
    show mergeD (putK (.int n) (.bl true) (l.map encT)) (g.map encT) = _
    rw [putK_T', mergeD_T g]
    rfl
theorem pairsOf_T : ∀ (g : List Nat), pairsOf (g.map fun n : Nat => .tup [.int (n : Int), .bl true]) = some (g.map encT)
  | [] => rfl
  | n :: g => by rw [List.map_cons, pairsOf, pairsOf_T g]; rfl
theorem dict_T (S : Sto) (g : List Nat) : biop S .dict [.lst (g.map fun n : Nat => .tup [.int (n : Int), .bl true])] = some (.dct false (((addN [] g).map encT).map (·.1)) (((addN [] g).map encT).map (·.2))) := by
  rw [bi_dict]
  simp only [lo_lst, pairsOf_T]
  have h1 : (g.map encT).all (fun p => isKey false p.1) = true := by simp [encT]
  rw [h1]
  have := mergeD_T g []
  simp only [List.map_nil] at this
  simp only [this, if_true]
theorem zip_T (l : List (D × D)) : (l.map (·.1)).zip (l.map (·.2)) = l := by
  induction l with
  | nil => rfl
  | cons p l ih => simp [ih]
/-- the somes -/
def somes (c : List (Option Nat)) : List Nat := c.filterMap id
theorem somes_map (c : List (Option Nat)) : (c.filter fun f => !f.isNone).map encF = nints (somes c) := by
  induction c with
  | nil => rfl
  | cons f c ih => cases f <;> simp [List.filter_cons, somes] at ih ⊢ <;> exact ih
abbrev KG := List Nat × List Nat
def ledStep (s : KG) (f : Option Nat) : KG := match f with
  | none => s
  | some n => if s.1.contains n then s else (s.1 ++ [n], s.2 ++ [n])
def stKG (s : KG) : List Ob := [⟨false, .lst (nints s.2)⟩, ⟨false, .dct false (s.1.map encT)⟩]
def ld : List MP.St := [.ite (.and [.cmp .isnn (.var 5) (.con .non), .cmp .notin (.var 5) (.var 3)]) [.asg (.sub (.var 3) (.var 5)) (.con (.bl true)), .ex (.bm .append (.var 2) [.var 5])] []]
theorem ledStep_len (s f) : (ledStep s f).1.length ≤ s.1.length + 1 ∧ (ledStep s f).2.length ≤ s.2.length + 1 := by
  unfold ledStep
  cases f with
  | none => simp
  | some n => simp only; split <;> simp
theorem ld_for (k : Nat) (S : Sto) (ms : List Nat) (H B a4 a6 : Option D) : ∀ (r : List (Option Nat)) (s : KG) (a5 : Option D), s.1.length + r.length ≤ 1000 → s.2.length + r.length ≤ 1000 → ∃ b5,
    forL (exP prg.sub prg.fns.length (callK prg k) (S.length :: ms) 39) (.v 5) ld (r.map encF) [H, B, some (.ref S.length), some (.ref (S.length + 1)), a4, a5, a6] (S ++ stKG s)
      = .ok .next [H, B, some (.ref S.length), some (.ref (S.length + 1)), a4, b5, a6] (S ++ stKG (r.foldl ledStep s))
  | [], s, a5, _, _ => ⟨a5, rfl⟩
  | f :: r, s, a5, h1, h2 => by
    simp only [List.length_cons] at h1 h2
    have hs := ledStep_len s f
    obtain ⟨b5, e⟩ := ld_for k S ms H B a4 a6 r (ledStep s f) (some (encF f)) (by omega) (by omega)
    refine ⟨b5, ?_⟩
    rw [List.foldl_cons, ← e, List.map_cons, forL_cons]
    cases f with
    | none => simp [ld, ledStep]
    | some n =>
      have hle : s.1.length ≤ 16777215 := by omega
      have hle2 : s.2.length ≤ 16777215 := by omega
      have m1 : cmpop.member (S ++ stKG s) (.int (n : Int)) (.ref (S.length + 1)) = some (s.1.contains n) := member_TI (lk := false) (by rw [getA]; rfl) n
      cases hk : s.1.contains n with
      | true =>
        have e0 : ledStep s (some n) = s := by unfold ledStep; simp only [hk, if_true]
        rw [e0]
        simp [-mb_ref, -List.contains_eq_mem, ld, m1, hk]
      | false =>
        have e0 : ledStep s (some n) = (s.1 ++ [n], s.2 ++ [n]) := by unfold ledStep; simp only [hk]; rfl
        rw [e0]
        have p1 := putK_T s.1 n hk
        simp only [stKG] at m1
        simp [-mb_ref, -List.contains_eq_mem, ld, m1, hk, stKG, p1, hle, hle2]
end W58

set_option linter.all false
set_option maxRecDepth 100000
namespace W58
open MP PySem Mk58
/-- known: no cell twice; gained: known cells, at most six more -/
structure InvL (n : Nat) (s : KG) : Prop where
  set : BSet n s.1
  sub : ∀ x ∈ s.2, x ∈ s.1
  len : s.2.length ≤ s.1.length + 6
theorem InvL.step {n s f} (h : InvL n s) (hf : OkF n f) : InvL n (ledStep s f) := by
  unfold ledStep
  cases f with
  | none => exact h
  | some k =>
    simp only
    split
    · exact h
    · rename_i hk
      have hk' : k ∉ s.1 := by simpa using hk
      refine ⟨⟨?_, ?_⟩, ?_, ?_⟩
      · simp only
        rw [List.nodup_append]
        refine ⟨h.set.1, by simp, ?_⟩
        intro a ha b hb
        simp at hb
        subst hb
        rintro rfl
        exact hk' ha
      · intro x hx
        simp at hx
        rcases hx with hx | rfl
        · exact h.set.2 x hx
        · exact hf x rfl
      · intro x hx
        simp at hx ⊢
        rcases hx with hx | rfl
        · exact .inl (h.sub x hx)
        · exact .inr rfl
      · have := h.len
        simp
        omega
theorem InvL.fold {n} : ∀ {r : List (Option Nat)} {s : KG}, InvL n s → (∀ f ∈ r, OkF n f) → InvL n (r.foldl ledStep s)
  | [], s, h, _ => h
  | f :: r, s, h, hr => InvL.fold (r := r) (h.step (hr f (by simp))) fun f hf => hr f (by simp [hf])
theorem ledStep_pre (s f) : s.2 <+: (ledStep s f).2 := by
  unfold ledStep
  cases f with
  | none => exact List.prefix_rfl
  | some n => simp only; split <;> first | exact List.prefix_rfl | exact List.prefix_append _ _
theorem ledFold_pre : ∀ (r : List (Option Nat)) (s : KG), s.2 <+: (r.foldl ledStep s).2
  | [], s => List.prefix_rfl
  | f :: r, s => (ledStep_pre s f).trans (ledFold_pre r _)
def ledLoop (h : List (List (Option Nat))) : Nat → Nat → KG → KG
  | 0, _, s => s
  | n + 1, a, s => match s.2[a]? with
    | none => s
    | some x => ledLoop h n (a + 1) ((cel h x).foldl ledStep s)
def ldb : List MP.St := [.for_ (.v 5) (.ix (.var 0) (.ix (.var 2) (.var 4))) ld, .asg (.p (.v 4)) (.bin .add (.var 4) (.con (.int 1)))]
theorem ld_for38 (k : Nat) (S : Sto) (ms : List Nat) (H B a4 a6 : Option D) : ∀ (r : List (Option Nat)) (s : KG) (a5 : Option D), s.1.length + r.length ≤ 1000 → s.2.length + r.length ≤ 1000 → ∃ b5,
    forL (exP prg.sub prg.fns.length (callK prg k) (S.length :: ms) 38) (.v 5) ld (r.map encF) [H, B, some (.ref S.length), some (.ref (S.length + 1)), a4, a5, a6] (S ++ stKG s)
      = .ok .next [H, B, some (.ref S.length), some (.ref (S.length + 1)), a4, b5, a6] (S ++ stKG (r.foldl ledStep s))
  | [], s, a5, _, _ => ⟨a5, rfl⟩
  | f :: r, s, a5, h1, h2 => by
    simp only [List.length_cons] at h1 h2
    have hs := ledStep_len s f
    obtain ⟨b5, e⟩ := ld_for38 k S ms H B a4 a6 r (ledStep s f) (some (encF f)) (by omega) (by omega)
    refine ⟨b5, ?_⟩
    rw [List.foldl_cons, ← e, List.map_cons, forL_cons]
    cases f with
    | none => simp [ld, ledStep]
    | some n =>
      have hle : s.1.length ≤ 16777215 := by omega
      have hle2 : s.2.length ≤ 16777215 := by omega
      have m1 : cmpop.member (S ++ stKG s) (.int (n : Int)) (.ref (S.length + 1)) = some (s.1.contains n) := member_TI (lk := false) (by rw [getA]; rfl) n
      cases hk : s.1.contains n with
      | true =>
        have e0 : ledStep s (some n) = s := by unfold ledStep; simp only [hk, if_true]
        rw [e0]
        simp [-mb_ref, -List.contains_eq_mem, ld, m1, hk]
      | false =>
        have e0 : ledStep s (some n) = (s.1 ++ [n], s.2 ++ [n]) := by unfold ledStep; simp only [hk]; rfl
        rw [e0]
        have p1 := putK_T s.1 n hk
        simp only [stKG] at m1
        simp [-mb_ref, -List.contains_eq_mem, ld, m1, hk, stKG, p1, hle, hle2]
theorem ld_whl (k : Nat) (S : Sto) (ms : List Nat) (h) (hh : OkH h) (B a6 : Option D) : ∀ (n t a : Nat) (s : KG) (a5 : Option D), n ≤ t → a + n = h.length + 7 → InvL h.length s → a ≤ s.2.length → ∃ b4 b5,
    whlL (TV prg.fns.length (callK prg k) 39 (S.length :: ms)) (exP prg.sub prg.fns.length (callK prg k) (S.length :: ms) 39) (.cmp .lt (.var 4) (.bi false .len [.var 2])) ldb t [some (encH h), B, some (.ref S.length), some (.ref (S.length + 1)), some (.int a), a5, a6] (S ++ stKG s)
      = .ok .next [some (encH h), B, some (.ref S.length), some (.ref (S.length + 1)), b4, b5, a6] (S ++ stKG (ledLoop h n a s)) ∧ InvL h.length (ledLoop h n a s)
  | 0, t, a, s, a5, _, h1, h2, h3 => by
    have := nodup_len _ _ h2.set.1 h2.set.2
    have := h2.len
    omega
  | n + 1, 0, a, s, a5, h0, h1, h2, h3 => by omega
  | n + 1, t + 1, a, s, a5, h0, h1, h2, h3 => by
    have hkl := nodup_len _ _ h2.set.1 h2.set.2
    have hgl := h2.len
    have hhl := hh.1
    have hstl : (stKG s)[0]? = some ⟨false, .lst (nints s.2)⟩ := rfl
    by_cases hlt : a < s.2.length
    · have hg : s.2[a]? = some s.2[a] := List.getElem?_eq_getElem hlt
      generalize s.2[a] = x at hg
      have hx := h2.set.2 x (h2.sub x (List.mem_of_getElem? hg))
      obtain ⟨hc6, hcf⟩ := hh.cell hx
      obtain ⟨b5, e⟩ := ld_for38 k S ms (some (encH h)) B (some (.int a)) a6 (cel h x) s a5 (by omega) (by omega)
      have hpre := (ledFold_pre (cel h x) s).length_le
      obtain ⟨c4, c5, e2, e3⟩ := ld_whl k S ms h hh B a6 n t (a + 1) ((cel h x).foldl ledStep s) b5 (by omega) (by omega) (h2.fold hcf) (by omega)
      refine ⟨c4, c5, ?_, ?_⟩
      · rw [ledLoop, hg]
        dsimp only
        rw [← e2, whl_step]
        have hia : ixN s.2.length (a : Int) = some a := ixN_nat hlt
        have i1 : ixop (S ++ stKG s) (.ref S.length) (.int (a : Int)) = some (.int (x : Int)) := by
          simp [-getElem?_pos, hstl, hia, hg]
        simp [-ix_eq, ldb, hstl, hlt, i1, ixH _ h hx, isDV, unl_none, e]
      · rw [ledLoop, hg]; exact e3
    · have hnone : s.2[a]? = none := List.getElem?_eq_none (by omega)
      refine ⟨some (.int a), a5, ?_, ?_⟩
      · rw [ledLoop, hnone, whl_step]
        simp [hstl, hlt]
      · rw [ledLoop, hnone]; exact h2
theorem addN_eq (l : List Nat) : ∀ g : List Nat, addN l g = (g.map some).foldl (fun l f => (ledStep (l, []) f).1) l := by
  intro g
  induction g generalizing l with
  | nil => rfl
  | cons n g ih =>
    show addN (if l.contains n then l else l ++ [n]) g = _
    rw [ih]
    simp only [List.map_cons, List.foldl_cons]
    congr 1
    unfold ledStep
    simp only
    split <;> rfl
theorem addN_set {n : Nat} : ∀ {g l : List Nat}, BSet n l → (∀ x ∈ g, x < n) → BSet n (addN l g) ∧ (∀ x ∈ l, x ∈ addN l g) ∧ (∀ x ∈ g, x ∈ addN l g) ∧ (∀ x ∈ addN l g, x ∈ l ∨ x ∈ g)
  | [], l, hl, _ => ⟨hl, fun _ h => h, by simp, fun _ h => .inl h⟩
  | a :: g, l, hl, hg => by
    have ha := hg a (by simp)
    have key : BSet n (if l.contains a then l else l ++ [a]) := by
      split
      · exact hl
      · rename_i hk
        have hk' : a ∉ l := by simpa using hk
        refine ⟨List.nodup_append.mpr ⟨hl.1, by simp, ?_⟩, ?_⟩
        · intro x hx b hb
          simp at hb
          subst hb
          rintro rfl
          exact hk' hx
        · intro x hx
          simp at hx
          rcases hx with hx | rfl
          · exact hl.2 x hx
          · exact ha
    obtain ⟨i1, i2, i3, i4⟩ := addN_set (g := g) key fun x hx => hg x (by simp [hx])
    have hm : a ∈ (if l.contains a then l else l ++ [a]) := by
      split
      · rename_i hk; simpa using hk
      · simp
    refine ⟨i1, fun x hx => i2 x (by split <;> simp [hx]), fun x hx => ?_, fun x hx => ?_⟩
    · rcases List.mem_cons.mp hx with rfl | hx
      · exact i2 _ hm
      · exact i3 x hx
    · rcases i4 x hx with h | h
      · split at h
        · exact .inl h
        · simp at h
          rcases h with h | rfl
          · exact .inl h
          · exact .inr (by simp)
      · exact .inr (by simp [h])
def led0 (c : List (Option Nat)) : KG := (addN [] (somes c), somes c)
theorem somes_ok {n : Nat} {c : List (Option Nat)} (hc : ∀ f ∈ c, OkF n f) : ∀ x ∈ somes c, x < n := by
  intro x hx
  unfold somes at hx
  simp at hx
  exact hc _ hx x rfl
theorem led0_inv {n : Nat} {c : List (Option Nat)} (h6 : c.length ≤ 6) (hc : ∀ f ∈ c, OkF n f) : InvL n (led0 c) := by
  obtain ⟨a, b, d, e⟩ := addN_set (n := n) (g := somes c) (l := []) ⟨by simp, by simp⟩ (somes_ok hc)
  refine ⟨a, d, ?_⟩
  have : (somes c).length ≤ c.length := List.length_filterMap_le _ _
  show (somes c).length ≤ _
  omega
def ledS (h : List (List (Option Nat))) (c : List (Option Nat)) : KG := ledLoop h (h.length + 7) 0 (led0 c)
theorem law_led' {k} (hk : 1 ≤ k) (ms S) (h) (c : List (Option Nat)) (hh : OkH h) (h6 : c.length ≤ 6) (hc : ∀ f ∈ c, OkF h.length f) :
    callK prg k 23 [encH h, encC c] ms S = .ok (.lst (nints (sortN (ledS h c).1))) S := by
  obtain ⟨k, rfl⟩ := lv hk
  rw [ck (i := ⟨"_law_led", 2, 7, true, b23⟩) rfl rfl rfl]
  have hhl := hh.1
  have hg : (somes c).length ≤ 6 := Nat.le_trans (List.length_filterMap_le _ _) h6
  have c1 : ∀ n, EV prg.fns.length (callK prg k) (n+8) (S.length :: ms) (.comp true (.var 6) (.v 6) (.var 1) [.cmp .isnn (.var 6) (.con .non)] [6]) [some (encH h), some (encC c), none, none, none, none, none] S = .ok (.ref S.length) (S ++ [⟨false, .lst (nints (somes c))⟩]) := fun n => by
    rw [ev_compB (n := n+7) c encF (fun f => !f.isNone) encF (by simp) (by omega) (fun a ha acc => ⟨_, by simp; rfl, by
      simp
      cases a <;> rfl, fun _ => by simp⟩), somes_map]
  have c2 : ∀ n, EV prg.fns.length (callK prg k) (n+8) (S.length :: ms) (.comp false (.tup [.var 6, .con (.bl true)]) (.v 6) (.var 2) [] [6]) [some (encH h), some (encC c), some (.ref S.length), none, none, none, none] (S ++ [⟨false, .lst (nints (somes c))⟩]) = .ok (.lst ((somes c).map fun n : Nat => .tup [.int (n : Int), .bl true])) (S ++ [⟨false, .lst (nints (somes c))⟩]) := fun n =>
    ev_compK (n := n+7) (S0 := S) (O := []) (somes c) (fun n : Nat => .int (n : Int)) _ (by rfl) (by omega) (fun a ha acc => ⟨_, by simp; rfl, by simp⟩) (by simp)
  have d1 := fun T => dict_T T (somes c)
  have ht : turns = 999999 + 1 := Eq.trans rfl rfl
  obtain ⟨b4, b5, e, e2⟩ := ld_whl k S ms h hh (some (encC c)) none (h.length + 7) turns 0 (led0 c) none (by unfold turns; omega) (by omega) (led0_inv h6 hc) (by simp)
  have z0 : ((0 : Nat) : Int) = 0 := rfl
  change _ = RS.ok _ _ (S ++ stKG (ledS h c)) at e
  have hz := zip_T ((addN [] (somes c)).map encT)
  have s1 : biop (S ++ stKG (ledS h c)) .sorted [.ref (S.length + 1)] = some (.lst (nints (sortN (ledS h c).1))) := sorted_T (by rw [getA]; rfl)
  simp only [led0, stKG, ldb, ld, z0] at e s1
  simp only [List.map_map] at d1 hz
  simp [-bi_sorted, -bi_dict, -biE_false, -List.map_map, b23, c1, c2, biE, d1, hz, e]
  rw [s1]
  simp
  rw [unbox_below (by simp)]
end W58

set_option linter.all false
set_option maxRecDepth 100000
namespace W58
open MP PySem Mk58
/-! _law_ways -/
theorem drop_fld {c : List (Option Nat)} {i : Nat} (h : i < c.length) : c.drop i = fld c i :: c.drop (i + 1) := by
  rw [List.drop_eq_getElem_cons h]
  congr 1
  unfold fld
  rw [List.getD_eq_getElem?_getD, List.getElem?_eq_getElem h]
  rfl
def lw1 : List MP.St := [.ite (.and [.cmp .isnn (.ix (.var 1) (.var 5)) (.con .non), .cmp .notin (.ix (.var 1) (.var 5)) (.var 2)]) [.asg (.sub (.var 2) (.ix (.var 1) (.var 5))) (.tup [.var 5]), .ex (.bm .append (.var 3) [.ix (.var 1) (.var 5)])] []]
theorem addW_len' (w f way) : (addW w f way).length ≤ w.length + 1 := by
  unfold addW
  cases f with
  | none => simp
  | some n => simp only; split <;> simp
theorem lw_for (k : Nat) (S : Sto) (ms : List Nat) (H : Option D) (r : List (Option Nat)) (a4 a6 a7 : Option D) : ∀ (m i : Nat) (w : W) (a5 : Option D), i + m = r.length → w.length + m ≤ 1000 → ∃ b5,
    forL (exP prg.sub prg.fns.length (callK prg k) (S.length :: ms) 39) (.v 5) lw1 (nints (List.range' i m)) [H, some (encR r), some (.ref S.length), some (.ref (S.length + 1)), a4, a5, a6, a7] (S ++ stW w)
      = .ok .next [H, some (encR r), some (.ref S.length), some (.ref (S.length + 1)), a4, b5, a6, a7] (S ++ stW (addAll [] w i (r.drop i)))
  | 0, i, w, a5, h1, _ => ⟨a5, by rw [List.drop_eq_nil_of_le (by omega)]; rfl⟩
  | m + 1, i, w, a5, h1, hl => by
    have hi : i < r.length := by omega
    have h3 := addW_len' w (fld r i) ([] ++ [i])
    obtain ⟨b5, e⟩ := lw_for k S ms H r a4 a6 a7 m (i + 1) (addW w (fld r i) ([] ++ [i])) (some (.int i)) (by omega) (by omega)
    refine ⟨b5, ?_⟩
    rw [drop_fld hi, addAll, ← e, List.range'_succ, show nints (i :: List.range' (i+1) m) = .int (i : Int) :: nints (List.range' (i+1) m) from rfl, forL_cons]
    have i1 := fun T => ixR T r hi
    have hle : w.length ≤ 16777215 := by omega
    cases hf : fld r i with
    | none => rw [hf] at i1; simp [-ix_eq, lw1, addW, i1]
    | some n =>
      rw [hf] at i1
      cases hk : w.lookup n with
      | some l => simp [-ix_eq, lw1, addW, stW, findK_enc, hk, i1]
      | none =>
        have hp : putK (.int n) (.tup [.int i]) (w.map encP) = w.map encP ++ [(.int n, .tup [.int i])] := by
          have := putK_enc w n [i] hk
          simpa [encN, encP] using this
        simp [-ix_eq, lw1, addW, stW, findK_enc, hk, hp, hle, encP, encN, i1]
def lw2 : List MP.St := [.ite (.and [.cmp .isnn (.ix (.ix (.var 0) (.var 6)) (.var 7)) (.con .non), .cmp .notin (.ix (.ix (.var 0) (.var 6)) (.var 7)) (.var 2)]) [.asg (.sub (.var 2) (.ix (.ix (.var 0) (.var 6)) (.var 7))) (.bin .add (.ix (.var 2) (.var 6)) (.tup [.var 7])), .ex (.bm .append (.var 3) [.ix (.ix (.var 0) (.var 6)) (.var 7)])] []]
theorem ixT {T : Sto} {m : Nat} {lk : Bool} {w : W} (hT : T[m]? = some ⟨lk, .dct false (w.map encP)⟩) {n : Nat} {l : List Nat} (h : w.lookup n = some l) : ixop T (.ref m) (.int n) = some (encN l) := by
  simp [hT, findK_enc, h]
theorem lw_for2 (k : Nat) (S : Sto) (ms : List Nat) (h : List (List (Option Nat))) (R : Option D) (a4 a5 : Option D) (here : Nat) (hh : here < h.length) (pre : List Nat) (hpre : pre.length ≤ 100) : ∀ (m i : Nat) (w : W) (a7 : Option D), i + m = (cel h here).length → w.length + m ≤ 1000 → w.lookup here = some pre → ∃ b7,
    forL (exP prg.sub prg.fns.length (callK prg k) (S.length :: ms) 38) (.v 7) lw2 (nints (List.range' i m)) [some (encH h), R, some (.ref S.length), some (.ref (S.length + 1)), a4, a5, some (.int here), a7] (S ++ stW w)
      = .ok .next [some (encH h), R, some (.ref S.length), some (.ref (S.length + 1)), a4, a5, some (.int here), b7] (S ++ stW (addAll pre w i ((cel h here).drop i)))
  | 0, i, w, a7, h1, _, _ => ⟨a7, by rw [List.drop_eq_nil_of_le (by omega)]; rfl⟩
  | m + 1, i, w, a7, h1, hl, hw => by
    have hi : i < (cel h here).length := by omega
    have h3 := addW_len' w (fld (cel h here) i) (pre ++ [i])
    obtain ⟨b7, e⟩ := lw_for2 k S ms h R a4 a5 here hh pre hpre m (i + 1) (addW w (fld (cel h here) i) (pre ++ [i])) (some (.int i)) (by omega) (by omega) (addW_lookup hw)
    refine ⟨b7, ?_⟩
    rw [drop_fld hi, addAll, ← e, List.range'_succ, show nints (i :: List.range' (i+1) m) = .int (i : Int) :: nints (List.range' (i+1) m) from rfl, forL_cons]
    have i0 := fun T => ixH T h hh
    have i1 := fun T => ixC T (cel h here) hi
    have hle : w.length ≤ 16777215 := by omega
    have hle2 : pre.length ≤ 16777215 := by omega
    have j1 : ixop (S ++ stW w) (.ref S.length) (.int here) = some (encN pre) := ixT (lk := false) (by rw [getA0]; rfl) hw
    cases hf : fld (cel h here) i with
    | none => rw [hf] at i1; simp [-ix_eq, lw2, addW, i0, i1]
    | some n =>
      rw [hf] at i1
      cases hk : w.lookup n with
      | some l => simp [-ix_eq, lw2, addW, stW, findK_enc, hk, i0, i1]
      | none =>
        have hp : putK (.int n) (.tup (pre.map (fun n : Nat => .int (n : Int)) ++ [.int i])) (w.map encP) = w.map encP ++ [(.int n, .tup (pre.map (fun n : Nat => .int (n : Int)) ++ [.int i]))] := by
          have := putK_enc w n (pre ++ [i]) hk
          simpa [encN, encP] using this
        simp only [stW, encN] at j1
        simp [-ix_eq, lw2, addW, stW, findK_enc, hk, hp, hle, hle2, encP, encN, i0, i1, j1]
def lwb : List MP.St := [.asg (.p (.v 6)) (.ix (.var 3) (.var 4)), .for_ (.v 7) (.rng [.bi false .len [.ix (.var 0) (.var 6)]]) lw2, .asg (.p (.v 4)) (.bin .add (.var 4) (.con (.int 1)))]
theorem lw_whl (k : Nat) (S : Sto) (ms : List Nat) (R : Option D) (a5 : Option D) (h) (hh : OkH h) : ∀ (n t at_ : Nat) (w : W) (a6 a7 : Option D), n ≤ t → at_ + n = h.length + 1 → Inv h.length w → at_ ≤ w.length → ∃ b4 b6 b7,
    whlL (TV prg.fns.length (callK prg k) 39 (S.length :: ms)) (exP prg.sub prg.fns.length (callK prg k) (S.length :: ms) 39) (.cmp .lt (.var 4) (.bi false .len [.var 3])) lwb t [some (encH h), R, some (.ref S.length), some (.ref (S.length + 1)), some (.int at_), a5, a6, a7] (S ++ stW w)
      = .ok .next [some (encH h), R, some (.ref S.length), some (.ref (S.length + 1)), b4, a5, b6, b7] (S ++ stW (wloop h n at_ w)) ∧ Inv h.length (wloop h n at_ w)
  | 0, t, at_, w, a6, a7, _, h1, h2, h3 => by have := h2.le; omega
  | n + 1, 0, at_, w, a6, a7, h0, h1, h2, h3 => by omega
  | n + 1, t + 1, at_, w, a6, a7, h0, h1, h2, h3 => by
    have hstl : (stW w)[1]? = some ⟨false, .lst (w.map fun p => .int (p.1 : Int))⟩ := rfl
    by_cases hlt : at_ < w.length
    · have hg : w[at_]? = some w[at_] := List.getElem?_eq_getElem hlt
      generalize w[at_] = p at hg
      obtain ⟨here, pre⟩ := p
      have hm : (here, pre) ∈ w := List.mem_of_getElem? hg
      have hlu : w.lookup here = some pre := mem_lookup h2.nd hm
      have hlen := h2.len _ _ hg
      have hwl := h2.le
      have hhl := hh.1
      have hhere : here < h.length := h2.lt _ hm
      obtain ⟨hc6, hcf⟩ := hh.cell hhere
      simp only at hlen
      obtain ⟨i1, i2⟩ := h2.addAll (pre := pre) (r := cel h here) (k := 0) hcf (by omega)
      obtain ⟨b7, e⟩ := lw_for2 k S ms h R (some (.int at_)) a5 here hhere pre (by omega) (cel h here).length 0 w a7 (by omega) (by omega) hlu
      obtain ⟨c4, c6, c7, e2, e3⟩ := lw_whl k S ms R a5 h hh n t (at_ + 1) (addAll pre w 0 (cel h here)) (some (.int here)) b7 (by omega) (by omega) i1 (by omega)
      refine ⟨c4, c6, c7, ?_, ?_⟩
      · rw [wloop, hg]
        dsimp only
        rw [show h.getD here [] = cel h here from rfl, ← e2, whl_step]
        have hia : ixN w.length (at_ : Int) = some at_ := ixN_nat hlt
        have i1 : ixop (S ++ stW w) (.ref (S.length + 1)) (.int (at_ : Int)) = some (.int (here : Int)) := by
          simp [-getElem?_pos, hstl, hia, hg]
        rw [← List.range_eq_range', List.drop_zero] at e
        simp [-ix_eq, lwb, hstl, hlt, i1, ixH _ h hhere, isDV, unl_none, ok62_nat (show (cel h here).length ≤ 1000000 by omega), rangeD0, e]
      · rw [wloop, hg]; exact e3
    · have hnone : w[at_]? = none := List.getElem?_eq_none (by omega)
      refine ⟨some (.int at_), a6, a7, ?_, ?_⟩
      · rw [wloop, hnone, whl_step]
        simp [hstl, hlt]
      · rw [wloop, hnone]; exact h2
theorem law_ways' {k} (hk : 1 ≤ k) (ms S) (h r) (hh : OkH h) (hr : OkR h r) : callK prg k 25 [encH h, encR r] ms S = .ok (encW (ways h r)) S := by
  obtain ⟨k, rfl⟩ := lv hk
  rw [ck (i := ⟨"_law_ways", 2, 8, true, b25⟩) rfl rfl rfl]
  obtain ⟨h8, hr2⟩ := hr
  have i0 := (inv0 h.length).addAll (pre := []) (r := r) (k := 0) hr2 (by simp)
  obtain ⟨b5, e1⟩ := lw_for k S ms (some (encH h)) r (some (.int 0)) none none r.length 0 [] none (by omega) (by simp; omega)
  obtain ⟨c4, c6, c7, e2, e3⟩ := lw_whl k S ms (some (encR r)) b5 h hh (h.length + 1) turns 0 (addAll [] [] 0 r) none none (by have := hh.1; unfold turns; omega) (by omega) i0.1 (by omega)
  have hub := ub_dct (m := S.length) (n := 59) (k := S.length) (S := S ++ stW (ways h r)) (lk := false) (t := false) (l := (ways h r).map encP) (by rw [getA0]; rfl) (by omega) below_encP
  have z0 : ((0 : Nat) : Int) = 0 := rfl
  rw [← List.range_eq_range', List.drop_zero] at e1
  simp only [stW, lw1, lw2, lwb, List.map_nil, z0] at e1 e2 hub
  simp [b25, unl_none, e1, e2, isDV, ok62_nat (show r.length ≤ 1000000 by omega), rangeD0, putAll]
  unfold ways at hub ⊢
  rw [hub]
  simp [encW, encP, Function.comp_def]
end W58

set_option linter.all false
set_option maxRecDepth 100000
namespace W58
open MP PySem Mk58
/-! dict values whose values are True -/
def encD (l : List Nat) : D := .dct false (nints l) (l.map fun _ => .bl true)
@[simp] theorem dc_encD (S l) : dctOf S (encD l) = some (false, l.map encT) := by
  simp only [encD, dc_dct]
  congr 2
  induction l with
  | nil => rfl
  | cons a l ih => simp [encT] at ih ⊢; exact ih
@[simp] theorem sq_encD (S l) : seqOf S (encD l) = none := rfl
@[simp] theorem bl_encD (m n l) : below m (n+2) (encD l) = true := by simp [encD]
@[simp] theorem mb_D (S l) (n : Nat) : cmpop.member S (.int n) (encD l) = some (l.contains n) := by
  rw [member_dct (sq_encD S l) (dc_encD S l)]
  simp [-List.contains_eq_mem, findK_T]
@[simp 1100] theorem sorted_D (S l) : biop S .sorted [encD l] = some (.lst (nints (sortN l))) := by
  rw [bi_sorted, show lstOf S (encD l) = none from rfl]
  simp only [dc_encD, keys_T, sortD_int]
  rfl
theorem addN_id : ∀ (g l : List Nat), (l ++ g).Nodup → addN l g = l ++ g
  | [], l, _ => by simp [addN]
  | a :: g, l, h => by
    have ha : a ∉ l := by
      intro hm
      have := (List.nodup_append.mp h).2.2 a hm a (by simp)
      exact this rfl
    show addN (if l.contains a then l else l ++ [a]) g = _
    rw [if_neg (by simpa using ha), addN_id g (l ++ [a]) (by simpa using h)]
    simp
theorem dict_D (S : Sto) (g : List Nat) (h : g.Nodup) : biop S .dict [.lst (g.map fun n : Nat => .tup [.int (n : Int), .bl true])] = some (encD g) := by
  rw [dict_T, addN_id g [] (by simpa using h)]
  simp [encD, encT, Function.comp_def]
def ledL (h : List (List (Option Nat))) (c : Nat) : List Nat := sortN (ledS h (cel h c)).1
theorem ledS_inv {h} (hh : OkH h) {c : List (Option Nat)} (h6 : c.length ≤ 6) (hc : ∀ f ∈ c, OkF h.length f) : InvL h.length (ledS h c) := by
  obtain ⟨_, _, _, e⟩ := ld_whl 0 [] [] h hh none none (h.length + 7) (h.length + 7) 0 (led0 c) none (by omega) (by omega) (led0_inv h6 hc) (by simp)
  exact e
theorem ledL_set {h} (hh : OkH h) {c : Nat} (hc : c < h.length) : IsSet h.length (ledL h c) := by
  obtain ⟨a, b⟩ := hh.cell hc
  have := (ledS_inv hh a b).set
  exact ⟨sortN_asc this.1, fun x hx => this.2 x (sortN_mem.mp hx)⟩
theorem asc_nodup {l : List Nat} (h : l.Pairwise (· < ·)) : l.Nodup := h.imp fun h => by omega
def lawRing (h : List (List (Option Nat))) (c : Nat) : List Nat := (sortN (ledL h c)).filter fun o => (ledL h o).contains c
def lringStep (h : List (List (Option Nat))) (ks : List (List Nat)) (c : Nat) : List (List Nat) := if (ledL h c).contains c then addT ks (lawRing h c) else ks
def ahdD (h : List (List (Option Nat))) (f : Nat → List Nat) : D := .lst ((List.range h.length).map fun c => encD (f c))
theorem ix_ahdD (S h f) {c : Nat} (hc : c < h.length) : ixop S (ahdD h f) (.int c) = some (encD (f c)) := by
  have := ixN_nat hc
  simp [ahdD, this, hc]
def lr : List MP.St := [.ite (.cmp .isin (.var 3) (.ix (.var 1) (.var 3))) [.asg (.sub (.var 2) (.bi false .tuple [.comp false (.var 4) (.v 4) (.bi false .sorted [.ix (.var 1) (.var 3)]) [.cmp .isin (.var 3) (.ix (.var 1) (.var 4))] [4]])) (.con (.bl true))] []]
theorem lr_comp (k : Nat) (ms : List Nat) (h) (hh : OkH h) (c : Nat) (hc : c < h.length) (a2 a4) (n S) : EV prg.fns.length (callK prg k) (n+8) ms (.comp false (.var 4) (.v 4) (.bi false .sorted [.ix (.var 1) (.var 3)]) [.cmp .isin (.var 3) (.ix (.var 1) (.var 4))] [4]) [some (encH h), some (ahdD h (ledL h)), a2, some (.int (c : Int)), a4] S
    = .ok (.lst (nints (lawRing h c))) S := by
  have hl := (ledL_set hh hc).len
  have hhl := hh.1
  refine ev_compP (n := n+7) (sortN (ledL h c)) (fun n : Nat => .int (n : Int)) (fun o => (ledL h o).contains c) (fun n : Nat => .int (n : Int)) (by simp [-ix_eq, -bi_sorted, ix_ahdD S h (ledL h) hc]) (by rw [sortN_len]; omega) (fun o ho acc => ⟨_, by simp; rfl, ?_, fun _ => by simp⟩) (by simp)
  have ho' := (ledL_set hh hc).2 o (sortN_mem.mp ho)
  simp [-ix_eq, -List.contains_eq_mem, -mb_lst, ix_ahdD _ h (ledL h) ho']
  cases (ledL h o).contains c <;> rfl
theorem lr_for (k : Nat) (S : Sto) (ms : List Nat) (h) (hh : OkH h) : ∀ (cs : List Nat) (ks : List (List Nat)) (a3 : Option D), (∀ c ∈ cs, c < h.length) → ks.length + cs.length ≤ 1000 →
    ∃ b3, forL (exP prg.sub prg.fns.length (callK prg k) (S.length :: ms) 39) (.v 3) lr (nints cs) [some (encH h), some (ahdD h (ledL h)), some (.ref S.length), a3, none] (S ++ [⟨false, .dct true (ks.map encQ)⟩])
      = .ok .next [some (encH h), some (ahdD h (ledL h)), some (.ref S.length), b3, none] (S ++ [⟨false, .dct true ((cs.foldl (lringStep h) ks).map encQ)⟩])
  | [], ks, a3, _, _ => ⟨a3, rfl⟩
  | c :: cs, ks, a3, hcs, hl => by
    have hc := hcs c (by simp)
    simp only [List.length_cons] at hl
    have hle : ks.length ≤ 16777215 := by omega
    have hst : (lringStep h ks c).length + cs.length ≤ 1000 := by
      unfold lringStep
      have := addT_len ks (lawRing h c)
      split <;> omega
    obtain ⟨b3, e⟩ := lr_for k S ms h hh cs (lringStep h ks c) (some (.int c)) (fun x hx => hcs x (by simp [hx])) hst
    refine ⟨b3, ?_⟩
    rw [List.foldl_cons, ← e, show nints (c :: cs) = .int (c : Int) :: nints cs from rfl, forL_cons]
    have c2 := fun a2 a4 n T => lr_comp k (S.length :: ms) h hh c hc a2 a4 n T
    have p1 := putK_Q ks (lawRing h c)
    have kq : isKey true (encN (lawRing h c)) = true := by unfold encN; rw [key_tup]; simp
    cases h1 : (ledL h c).contains c with
    | true =>
      have e3 : lringStep h ks c = addT ks (lawRing h c) := by unfold lringStep; rw [h1]; rfl
      rw [e3]
      simp only [encN] at p1 kq
      simp [-ix_eq, -key_tup, -List.contains_eq_mem, lr, ix_ahdD _ h (ledL h) hc, h1, c2, p1, hle, kq, encN]
    | false =>
      have e3 : lringStep h ks c = ks := by unfold lringStep; rw [h1]; rfl
      rw [e3]
      simp [-ix_eq, -List.contains_eq_mem, lr, ix_ahdD _ h (ledL h) hc, h1]
def lringKeys (h : List (List (Option Nat))) : List (List Nat) := (List.range h.length).foldl (lringStep h) []
theorem lringKeys_ne {h : List (List (Option Nat))} : ∀ (cs : List Nat) (ks : List (List Nat)), (∀ k ∈ ks, k ≠ []) → ∀ k ∈ cs.foldl (lringStep h) ks, k ≠ []
  | [], ks, hk => hk
  | c :: cs, ks, hk => by
    apply lringKeys_ne cs _
    unfold lringStep
    split
    · rename_i hcc
      unfold addT
      split
      · exact hk
      · intro k hkk
        simp at hkk
        rcases hkk with hkk | rfl
        · exact hk k hkk
        · have : c ∈ lawRing h c := by
            unfold lawRing
            rw [List.mem_filter]
            exact ⟨sortN_mem.mpr (by simpa using hcc), hcc⟩
          exact List.ne_nil_of_mem this
    · exact hk
theorem law_rings' {k} (hk : 5 ≤ k) (ms S) (h) (hh : OkH h) : callK prg k 26 [encH h] ms S = .ok (encRings (lringKeys h)) S := by
  obtain ⟨k, rfl⟩ := lv hk
  rw [ck (i := ⟨"_law_rings", 1, 5, true, b26⟩) rfl rfl rfl]
  have hhl := hh.1
  have o1 := ok62_nat (show h.length ≤ 1000000 by omega)
  have c0 : ∀ n m2 S (c : Nat) (a1 a2 a4), c < h.length → EV prg.fns.length (callK prg (k+4)) (n+8) m2 (.comp false (.tup [.var 4, .con (.bl true)]) (.v 4) (.call 23 [.var 0, .ix (.var 0) (.var 3)]) [] [4]) [some (encH h), a1, a2, some (.int (c : Int)), a4] S = .ok (.lst ((ledL h c).map fun n : Nat => .tup [.int (n : Int), .bl true])) S := fun n m2 S c a1 a2 a4 hc => by
    obtain ⟨x6, xf⟩ := hh.cell hc
    have hl := (ledL_set hh hc).len
    exact ev_compM (n := n+7) (ledL h c) (fun n : Nat => .int (n : Int)) _ (by simp [-ix_eq, ixH _ h hc, law_led' (k := k+4) (by omega) _ _ h (cel h c) hh x6 xf, ledL]) (by omega) (fun a ha acc => ⟨_, by simp; rfl, by simp⟩) (by simp)
  have c1 : ∀ n S, EV prg.fns.length (callK prg (k+4)) (n+12) (S.length :: ms) (.comp false (.bi false .dict [.comp false (.tup [.var 4, .con (.bl true)]) (.v 4) (.call 23 [.var 0, .ix (.var 0) (.var 3)]) [] [4]]) (.v 3) (.rng [.bi false .len [.var 0]]) [] [3]) [some (encH h), none, none, none, none] S = .ok (ahdD h (ledL h)) S := fun n S =>
    ev_compM (n := n+11) (List.range h.length) (fun n : Nat => .int (n : Int)) (fun c => encD (ledL h c)) (by simp [o1, rangeD0]) (by simp; omega) (fun a ha acc => ⟨_, by simp; rfl, by
      have hc : a < h.length := by simpa using ha
      simp [-bi_dict, c0 _ _ _ a _ _ _ hc, dict_D _ _ (asc_nodup (ledL_set hh hc).1)]⟩) (by simp)
  obtain ⟨b3, e⟩ := lr_for (k+4) S ms h hh (List.range h.length) [] none (by simp) (by simp; omega)
  have s1 : biop (S ++ [⟨false, .dct true ((lringKeys h).map encQ)⟩]) .sorted [.ref S.length] = some (.lst (isortD ((lringKeys h).map encN))) := sorted_Q (by rw [getA0]; rfl) (lringKeys_ne _ _ (by simp))
  change _ = RS.ok _ _ (S ++ [⟨false, .dct true ((lringKeys h).map encQ)⟩]) at e
  simp only [lr, List.map_nil] at e
  simp [-bi_sorted, b26, c1, o1, rangeD0, e, isDV, unl_none, s1]
  rw [unbox_below (by
    simp
    intro x hx
    have := isortD_mem hx
    obtain ⟨l, _, rfl⟩ := List.mem_map.mp this
    simp)]
  rfl
end W58

set_option linter.all false
set_option maxRecDepth 100000

namespace W58
open MP PySem Mk58
/-! _law_behind -/
def fresh (h : List (List (Option Nat))) (l : List Nat) : List Nat := (List.range h.length).filter (frs h l)
def behLoop (h : List (List (Option Nat))) : Nat → List Nat → List Nat
  | 0, l => l
  | n + 1, l => if (fresh h l).isEmpty then l else behLoop h n (addN l (fresh h l))
@[simp] theorem bm_update (ms S n ks vs) : bmop ms S .update (.ref n) [.dct false ks vs] = (match S[n]? with
    | some ⟨false, .dct false l⟩ => if (ks.zip vs).all (fun p => writable ms n p.1 && writable ms n p.2) && lineOk (l.length + ks.length) then .ok .non (S.set n ⟨false, .dct false (mergeD l (ks.zip vs))⟩) else .bad
    | _ => .bad) := Eq.trans rfl rfl
theorem fresh_nd (h l) : (fresh h l).Nodup := List.nodup_range.sublist List.filter_sublist
theorem fresh_lt {h l} : ∀ x ∈ fresh h l, x < h.length := by
  intro x hx
  unfold fresh at hx
  simpa using (List.mem_filter.mp hx).1
theorem fresh_len (h l) : (fresh h l).length ≤ h.length := by
  have := List.length_filter_le (frs h l) (List.range h.length)
  simpa [fresh] using this
def bh : List MP.St := [.asg (.p (.v 4)) (.comp false (.var 5) (.v 5) (.rng [.bi false .len [.var 0]]) [.and [.cmp .notin (.var 5) (.var 2), .comp false (.var 6) (.v 6) (.ix (.var 0) (.var 5)) [.cmp .isin (.var 6) (.var 2)] [6]]] [5]), .ite (.not (.var 4)) [.brk] [], .ex (.bm .update (.var 2) [.bi false .dict [.comp false (.tup [.var 5, .con (.bl true)]) (.v 5) (.var 4) [] [5]]])]
theorem bh_comp (k : Nat) (ms : List Nat) (S : Sto) (h) (hh : OkH h) (l : List Nat) (a1 a3 a4 : Option D) (n) : EV prg.fns.length (callK prg k) (n+12) ms (.comp false (.var 5) (.v 5) (.rng [.bi false .len [.var 0]]) [.and [.cmp .notin (.var 5) (.var 2), .comp false (.var 6) (.v 6) (.ix (.var 0) (.var 5)) [.cmp .isin (.var 6) (.var 2)] [6]]] [5]) [some (encH h), a1, some (.ref S.length), a3, a4, none, none] (S ++ [⟨false, .dct false (l.map encT)⟩])
    = .ok (.lst (nints (fresh h l))) (S ++ [⟨false, .dct false (l.map encT)⟩]) := by
  have hhl := hh.1
  have o1 := ok62_nat (show h.length ≤ 1000000 by omega)
  refine ev_compP (n := n+11) (List.range h.length) (fun n : Nat => .int (n : Int)) (frs h l) (fun n : Nat => .int (n : Int)) (by simp [o1, rangeD0]) (by simp; omega) (fun o ho acc => ⟨[some (encH h), a1, some (.ref S.length), a3, a4, some (.int o), none], by simp, ?_, fun _ => by simp⟩) (by simp)
  have ho' : o < h.length := by simpa using ho
  have hc := (hh.cell ho').1
  have m1 : cmpop.member (S ++ [⟨false, .dct false (l.map encT)⟩, ⟨false, .lst acc⟩]) (.int (o : Int)) (.ref S.length) = some (l.contains o) := member_TI (lk := false) (by rw [getA0]; rfl) o
  have c1 := fun M => some_compT (nf := prg.fns.length) (call := callK prg k) (ms := M) (i := 6) (j := 2) (m := S.length) (lk := false) (g := [some (encH h), a1, some (.ref S.length), a3, a4, some (.int (o : Int)), none]) (cel h o) l (by omega) (by simp) rfl (by omega) (.ix (.var 0) (.var 5)) (n+2) (S ++ [⟨false, .dct false (l.map encT)⟩, ⟨false, .lst acc⟩]) (by rw [getA0]; rfl) (by simp [-ix_eq, ixH _ h ho'])
  have hf : frs h l o = (!l.contains o && (cel h o).any (inN l)) := rfl
  rw [hf]
  cases h2 : l.contains o with
  | true => simp [-mb_ref, -List.contains_eq_mem, m1, h2]
  | false =>
    cases h3 : (cel h o).any (inN l) with
    | true => simp [-mb_ref, -List.contains_eq_mem, -tr_lst, -List.any_eq_true, m1, h2, c1, tr_filter, h3]
    | false => simp [-mb_ref, -List.contains_eq_mem, -tr_lst, -List.any_eq_true, m1, h2, c1, tr_filter, h3]
@[simp] theorem bl_encT1 (m n x) : below m (n+1) (encT x).1 = true := rfl
@[simp] theorem bl_encT2 (m n x) : below m (n+1) (encT x).2 = true := rfl
theorem ints_isEmpty (l : List Nat) : (nints l).isEmpty = l.isEmpty := by cases l <;> rfl
theorem addN_len {n} {l g : List Nat} (hl : BSet n l) (hg : ∀ x ∈ g, x < n) : (addN l g).length ≤ n := nodup_len _ _ (addN_set hl hg).1.1 (addN_set hl hg).1.2
theorem zip_D (g : List Nat) : (nints g).zip (g.map fun _ => D.bl true) = g.map encT := by
  induction g with
  | nil => rfl
  | cons a g ih => simp only [List.map_cons, List.zip_cons_cons, ih]; rfl
theorem bh_for (k : Nat) (S : Sto) (ms : List Nat) (h) (hh : OkH h) (a1 : Option D) : ∀ (ds : List Nat) (l : List Nat) (a3 a4 : Option D), BSet h.length l →
    ∃ b3 b4, forL (exP prg.sub prg.fns.length (callK prg k) (S.length :: ms) 39) (.v 3) bh (nints ds) [some (encH h), a1, some (.ref S.length), a3, a4, none, none] (S ++ [⟨false, .dct false (l.map encT)⟩])
      = .ok .next [some (encH h), a1, some (.ref S.length), b3, b4, none, none] (S ++ [⟨false, .dct false ((behLoop h ds.length l).map encT)⟩]) ∧ BSet h.length (behLoop h ds.length l)
  | [], l, a3, a4, hl => ⟨a3, a4, rfl, hl⟩
  | d :: ds, l, a3, a4, hl => by
    have hhl := hh.1
    have c1 := fun a3 a4 n => bh_comp k (S.length :: ms) S h hh l a1 a3 a4 n
    have hfl := fresh_len h l
    have hll := nodup_len _ _ hl.1 hl.2
    cases he : (fresh h l).isEmpty with
    | true =>
      refine ⟨some (.int d), some (.lst (nints (fresh h l))), ?_, ?_⟩
      · rw [show nints (d :: ds) = .int (d : Int) :: nints ds from rfl, forL_cons, List.length_cons, behLoop, he]
        simp [-List.isEmpty_iff, -tr_lst, bh, c1, show truth (S ++ [⟨false, .dct false (l.map encT)⟩]) (.lst (nints (fresh h l))) = some (!(fresh h l).isEmpty) by rw [tr_lst, ints_isEmpty], he]
      · rw [List.length_cons, behLoop, he]; exact hl
    | false =>
      obtain ⟨b3, b4, e, e2⟩ := bh_for k S ms h hh a1 ds (addN l (fresh h l)) (some (.int d)) (some (.lst (nints (fresh h l)))) (addN_set hl fresh_lt).1
      refine ⟨b3, b4, ?_, ?_⟩
      · rw [show nints (d :: ds) = .int (d : Int) :: nints ds from rfl, forL_cons, List.length_cons, behLoop, he]
        simp only [Bool.false_eq_true, if_false]
        rw [← e]
        have c2 : ∀ n a3 S, EV prg.fns.length (callK prg k) (n+8) (S.length :: ms) (.comp false (.tup [.var 5, .con (.bl true)]) (.v 5) (.var 4) [] [5]) [some (encH h), a1, some (.ref S.length), a3, some (.lst (nints (fresh h l))), none, none] (S ++ [⟨false, .dct false (l.map encT)⟩]) = .ok (.lst ((fresh h l).map fun n : Nat => .tup [.int (n : Int), .bl true])) (S ++ [⟨false, .dct false (l.map encT)⟩]) := fun n a3 S =>
          ev_compM (n := n+7) (fresh h l) (fun n : Nat => .int (n : Int)) _ (by simp) (by omega) (fun a ha acc => ⟨_, by simp; rfl, by simp⟩) (by simp)
        have d1 := fun T => dict_D T (fresh h l) (fresh_nd h l)
        simp only [encD] at d1
        have hle : l.length + (fresh h l).length ≤ 16777216 := by omega
        have mm := mergeD_T (fresh h l) l
        have hz := zip_D (fresh h l)
        have hall : ((fresh h l).map encT).all (fun p => ((S.length :: ms).all fun m => decide (m ≤ S.length) || below m 60 p.1) && ((S.length :: ms).all fun m => decide (m ≤ S.length) || below m 60 p.2)) = true := by
          rw [List.all_eq_true]
          intro p hp
          obtain ⟨x, _, rfl⟩ := List.mem_map.mp hp
          simp [encT]
        simp [-List.isEmpty_iff, -tr_lst, -bi_dict, bh, c1, show truth (S ++ [⟨false, .dct false (l.map encT)⟩]) (.lst (nints (fresh h l))) = some (!(fresh h l).isEmpty) by rw [tr_lst, ints_isEmpty], he, c2, d1, hz, hle, mm]
      · rw [List.length_cons, behLoop, he]; exact e2
end W58

set_option linter.all false
set_option maxRecDepth 100000
namespace W58
open MP PySem Mk58
def behF (h : List (List (Option Nat))) (cell : Nat) : List Nat := behLoop h h.length [cell]
theorem law_behind' {k} (hk : 1 ≤ k) (ms S) (h) (cell : Nat) (hh : OkH h) (hc : cell < h.length) : callK prg k 27 [encH h, .int cell] ms S = .ok (encN (sortN (behF h cell))) S := by
  obtain ⟨k, rfl⟩ := lv hk
  rw [ck (i := ⟨"_law_behind", 2, 7, true, b27⟩) rfl rfl rfl]
  have hhl := hh.1
  have o1 := ok62_nat (show h.length ≤ 1000000 by omega)
  obtain ⟨b3, b4, e, e2⟩ := bh_for k S ms h hh (some (.int cell)) (List.range h.length) [cell] none none ⟨by simp, by simpa using hc⟩
  rw [List.length_range] at e
  change _ = RS.ok _ _ (S ++ [⟨false, .dct false ((behF h cell).map encT)⟩]) at e
  simp only [bh, List.map_cons, List.map_nil, encT] at e
  have s1 : biop (S ++ [⟨false, .dct false ((behF h cell).map encT)⟩]) .sorted [.ref S.length] = some (.lst (nints (sortN (behF h cell)))) := sorted_T (by rw [getA0]; rfl)
  change _ = RS.ok _ _ (S ++ [⟨false, .dct false ((behF h cell).map encT)⟩]) at e
  simp [-bi_sorted, b27, o1, rangeD0, e, isDV, unl_none, s1]
  rw [unbox_below (by simp)]
  rfl
theorem le_for (k : Nat) (S : Sto) (ms : List Nat) (h) (hh : OkH h) (R Wy : D) : ∀ (l : List Nat) (here : Option Nat) (a4 : Option D), OkF h.length here → 
    ∃ b4, forL (exP prg.sub prg.fns.length (callK prg k) ms 39) (.v 4) [.asg (.p (.v 3)) (.ite (.and [.cmp .isnn (.var 3) (.con .non), .cmp .lt (.var 4) (.bi false .len [.ix (.var 0) (.var 3)])]) (.ix (.ix (.var 0) (.var 3)) (.var 4)) (.con .non))] (nints l) [some (encH h), some R, some Wy, some (encF here), a4] S
      = .ok .next [some (encH h), some R, some Wy, some (encF (l.foldl (stepF h) here)), b4] S
  | [], here, a4, _ => ⟨a4, rfl⟩
  | n :: l, here, a4, ho => by
    obtain ⟨b4, e⟩ := le_for k S ms h hh R Wy l (stepF h here n) (some (.int n)) (stepF_ok hh ho n)
    refine ⟨b4, ?_⟩
    rw [List.foldl_cons, ← e, show nints (n :: l) = .int (n : Int) :: nints l from rfl, forL_cons]
    cases here with
    | none => simp [stepF]
    | some c =>
      have hc := ho c rfl
      by_cases hn : n < (cel h c).length
      · simp [-ix_eq, ixH S h hc, ixC S _ hn, hn, stepF]
      · simp [-ix_eq, ixH S h hc, hn, stepF, fld_big hn]
theorem law_end' {k} (hk : 1 ≤ k) (ms S) (h r) (hh : OkH h) (hr : OkR h r) (way : List Nat) (hw : way ≠ []) : callK prg k 28 [encH h, encR r, encN way] ms S = .ok (encF (endOf h r way)) S := by
  obtain ⟨k, rfl⟩ := lv hk
  rw [ck (i := ⟨"_law_end", 3, 5, true, b28⟩) rfl rfl rfl]
  obtain ⟨a, l, rfl⟩ : ∃ a l, way = a :: l := by cases way with | nil => exact absurd rfl hw | cons a l => exact ⟨a, l, rfl⟩
  have c1 : EV prg.fns.length (callK prg k) 39 (S.length :: ms) (.ite (.cmp .lt (.ix (.var 2) (.con (.int 0))) (.bi false .len [.var 1])) (.ix (.var 1) (.ix (.var 2) (.con (.int 0)))) (.con .non)) [some (encH h), some (encR r), some (encN (a :: l)), none, none] S = .ok (encF (fld r a)) S := by
    have i0 : ixop S (encN (a :: l)) (.int 0) = some (.int (a : Int)) := ixNn S (a :: l) (i := 0) (by simp)
    by_cases ha : a < r.length
    · simp [-ix_eq, i0, ha, ixR S r ha]
    · simp [-ix_eq, i0, ha, fld_big ha]
  obtain ⟨b4, e⟩ := le_for k S (S.length :: ms) h hh (encR r) (encN (a :: l)) l (fld r a) none (OkF.getD hr.2 a)
  have sl : slop S (encN (a :: l)) (some 1) none = some (encN l) := by
    simp [encN, cut_tail]
  simp [-ix_eq, -ev_ite, b28, c1, sl, unl_none, isDV, e]
  rw [unbox_below (by simp)]
  rfl
def encS (o : Option Str) : D := match o with | none => .non | some s => .str s
theorem encS_none : encS none = .non := rfl
theorem encS_some (s) : encS (some s) = .str s := rfl
@[simp] theorem bl_encS (m n o) : below m (n+1) (encS o) = true := by cases o <;> rfl
theorem law_free_due' {k} (hk : 1 ≤ k) (ms S) (h r) (cell : Nat) (l : List Nat) (hh : OkH h) (hr : OkR h r) :
    callK prg k 31 [encH h, encR r, .int cell, encN l] ms S = .ok (encS (freeDue h r cell l)) S := by
  obtain ⟨k, rfl⟩ := lv hk
  rw [ck (i := ⟨"_law_free_due", 4, 8, true, b31⟩) rfl rfl rfl]
  have hhl := hh.1
  have o1 := ok62_nat (show h.length ≤ 1000000 by omega)
  have c1 := fun n S => some_comp (nf := prg.fns.length) (call := callK prg k) (ms := S.length :: ms) (i := 5) (j := 3) (g := [some (encH h), some (encR r), some (.int cell), some (encN l), none, none, none, none]) r l (by have := hr.1; omega) (by simp) rfl (by omega) (.var 1) n S (by simp)
  have c2 : ∀ n S, EV prg.fns.length (callK prg k) (n+12) (S.length :: ms) (.comp false (.var 6) (.v 6) (.rng [.bi false .len [.var 0]]) [.and [.cmp .notin (.var 6) (.var 3), .comp false (.var 7) (.v 7) (.ix (.var 0) (.var 6)) [.cmp .isin (.var 7) (.var 3)] [7]]] [6]) [some (encH h), some (encR r), some (.int cell), some (encN l), none, none, none, none] S = .ok (.lst (nints ((List.range h.length).filter fun o => !l.contains o && (cel h o).any (inN l)))) S := by
    intro n S
    refine ev_compP (n := n+11) (List.range h.length) (fun n : Nat => .int (n : Int)) _ (fun n : Nat => .int (n : Int)) (by simp [o1, rangeD0]) (by simp; omega) (fun o ho acc => ⟨[some (encH h), some (encR r), some (.int cell), some (encN l), none, none, some (.int o), none], by simp, ?_, fun _ => by simp⟩) (by simp)
    have ho' : o < h.length := by simpa using ho
    have hc := (hh.cell ho').1
    have c1 := fun M => some_comp (nf := prg.fns.length) (call := callK prg k) (ms := M) (i := 7) (j := 3) (g := [some (encH h), some (encR r), some (.int cell), some (encN l), none, none, some (.int (o : Int)), none]) (cel h o) l (by omega) (by simp) rfl (by omega) (.ix (.var 0) (.var 6)) (n+2) (S ++ [⟨false, .lst acc⟩]) (by simp [-ix_eq, ixH _ h ho'])
    cases h2 : l.contains o with
    | true => simp [-List.contains_eq_mem, h2]
    | false =>
      cases h3 : (cel h o).any (inN l) with
      | true => simp [-List.contains_eq_mem, -tr_lst, -List.any_eq_true, h2, c1, tr_filter, h3]
      | false => simp [-List.contains_eq_mem, -tr_lst, -List.any_eq_true, h2, c1, tr_filter, h3]
  unfold freeDue
  cases h1 : l.contains cell with
  | false => simp [-List.contains_eq_mem, b31, h1, encS]
  | true =>
    cases h2 : r.any (inN l) with
    | true => simp [-List.contains_eq_mem, -tr_lst, -List.any_eq_true, b31, h1, c1, tr_filter, h2, encS]
    | false =>
      have t1 : truth S (.lst (nints ((List.range h.length).filter fun o => !l.contains o && (cel h o).any (inN l)))) = some ((List.range h.length).any fun o => !l.contains o && (cel h o).any (inN l)) := by
        rw [tr_lst, filter_isEmpty]; simp
      cases h3 : (List.range h.length).any (fun o => !l.contains o && (cel h o).any (inN l)) with
      | true =>
        rw [h3] at t1
        simp [-List.contains_eq_mem, -tr_lst, -List.any_eq_true, b31, h1, c1, tr_filter, h2, c2, t1, encS]
      | false =>
        rw [h3] at t1
        simp [-List.contains_eq_mem, -tr_lst, -List.any_eq_true, b31, h1, c1, tr_filter, h2, c2, t1, encS]
end W58

set_option linter.all false
set_option maxRecDepth 100000
namespace W58
open MP PySem Mk58
theorem law_reason' {k} (hk : 2 ≤ k) {f : Nat} (hf : f < 34) (ms S) (H R C P : D) (o : Option Str) (e : ∀ ms S, callK prg (k-2) f [H, R, C, P] ms S = match o with | none => .ok .non S | some s => .exc 3 (.str s) S) :
    callK prg k 30 [.fn f, H, R, C, P] ms S = .ok (encS o) S := by
  obtain ⟨k, rfl⟩ := lv hk
  rw [show k + 2 - 2 = k by omega] at e
  have hlen : prg.fns.length = 34 := Eq.trans rfl rfl
  have b : ∀ ms S, callK prg (k+1) 29 [.fn f, H, R, C, P] ms S = match o with | none => .ok .non S | some s => .exc 3 (.str s) S := by
    intro ms S
    rw [ck (i := ⟨"_law_bare", 5, 5, true, b29⟩) rfl rfl rfl]
    cases o with
    | none => simp at e; simp [b29, hlen, hf, e]
    | some s => simp at e; simp [b29, hlen, hf, e]
  rw [ck (i := ⟨"_law_reason", 5, 7, true, b30⟩) rfl rfl rfl]
  have hs : prg.sub 3 3 = true := by decide
  cases o with
  | none => simp at b; simp [b30, b, encS]
  | some s => simp at b; simp [b30, b, hs, encS]
/-! the draws -/
def StO (o : Ob) : Prop := ∃ (xs : List Int) (cur pos seed : Int), o = ⟨false, .lst [.lst (xs.map .int), .int cur, .int pos, .int seed]⟩ ∧ 0 ≤ pos
theorem ix0 {S : Sto} {n : Nat} {l : List D} {lk} (h : S[n]? = some ⟨lk, .lst l⟩) {i : Nat} (hi : i < l.length) : ixop S (.ref n) (.int i) = l[i]? := by
  have := ixN_nat hi
  simp [-getElem?_pos, h, this]
theorem set_set (S : Sto) (n : Nat) (a b : Ob) : (S.set n a).set n b = S.set n b := by simp
theorem law_draw' {k} (hk : 1 ≤ k) (ms) (S : Sto) (n : Nat) (o : Ob) (hS : S[n]? = some o) (ho : StO o) (many : Nat) (hm : 0 < many) (hm2 : many ≤ 1000) :
    ∃ (v : Nat) (o' : Ob), callK prg k 20 [.ref n, .int many] ms S = .ok (.int v) (S.set n o') ∧ v < many ∧ StO o' := by
  obtain ⟨k, rfl⟩ := lv hk
  rw [ck (i := ⟨"_law_draw", 2, 3, true, b20⟩) rfl rfl rfl]
  obtain ⟨xs, cur, pos, seed, rfl, hp⟩ := ho
  have hn : n < S.length := (List.getElem?_eq_some_iff.mp hS).1
  have hget : ∀ o1 : Ob, (S.set n o1)[n]? = some o1 := fun o1 => List.getElem?_set_self hn
  have hT : ∀ o1 : Ob, (S.set n o1).take S.length = S.set n o1 := fun o1 => List.take_of_length_le (by simp)
  have q0 : ixN 4 0 = some 0 := by decide
  have q1 : ixN 4 1 = some 1 := by decide
  have q2 : ixN 4 2 = some 2 := by decide
  have q3 : ixN 4 3 = some 3 := by decide
  have hmd : smallDiv (many : Int) = true := by unfold smallDiv; simp; omega
  have h13 : smallDiv 13 = true := by decide
  have h48 : small64 48271 = true := by decide
  by_cases hc : cur = 0
  · by_cases hpl : (xs.length : Int) ≤ pos
    · refine ⟨(((seed * 48271 + 69621) % 2147483629 / 13) % many).toNat, ⟨false, .lst [.lst (xs.map .int), .int cur, .int pos, .int ((seed * 48271 + 69621) % 2147483629)]⟩, ?_, ?_, ⟨xs, cur, pos, _, rfl, hp⟩⟩
      · have := Int.emod_nonneg ((seed * 48271 + 69621) % 2147483629 / 13) (show (many : Int) ≠ 0 by omega)
        simp [hT, b20, hS, hget, hc, hpl, q0, q1, q2, q3, h13, h48, hm]

        omega
      · have := Int.emod_nonneg ((seed * 48271 + 69621) % 2147483629 / 13) (show (many : Int) ≠ 0 by omega)
        have := Int.emod_lt_of_pos ((seed * 48271 + 69621) % 2147483629 / 13) (show (0 : Int) < many by omega)
        omega
    · obtain ⟨p, rfl⟩ : ∃ p : Nat, pos = p := ⟨pos.toNat, by omega⟩
      have hlt : p < xs.length := by omega
      have hx : ixN xs.length (p : Int) = some p := ixN_nat hlt
      have hxx : xs[p]? = some xs[p] := List.getElem?_eq_getElem hlt
      generalize hz : xs[p] = z at hxx
      generalize ha : (if z < 0 then -z else z) = y
      refine ⟨(y % many).toNat, ⟨false, .lst [.lst (xs.map .int), .int (y / many), .int ((p : Int) + 1), .int seed]⟩, ?_, ?_, ⟨xs, _, _, _, rfl, by omega⟩⟩
      · have := Int.emod_nonneg y (show (many : Int) ≠ 0 by omega)
        simp [-getElem?_pos, hT, b20, hS, hget, hc, hpl, q0, q1, q2, q3, h13, h48, hm, hmd, hx, hxx, ha]
        omega
      · have := Int.emod_nonneg y (show (many : Int) ≠ 0 by omega)
        have := Int.emod_lt_of_pos y (show (0 : Int) < many by omega)
        omega
  · refine ⟨(cur % many).toNat, ⟨false, .lst [.lst (xs.map .int), .int (cur / many), .int pos, .int seed]⟩, ?_, ?_, ⟨xs, _, _, _, rfl, hp⟩⟩
    · have := Int.emod_nonneg cur (show (many : Int) ≠ 0 by omega)
      simp [hT, b20, hS, hget, hc, q0, q1, q2, q3, h13, h48, hm, hmd]
      omega
    · have := Int.emod_nonneg cur (show (many : Int) ≠ 0 by omega)
      have := Int.emod_lt_of_pos cur (show (0 : Int) < many by omega)
      omega
theorem law_pick' {k} (hk : 2 ≤ k) (ms) (S : Sto) (n : Nat) (o : Ob) (hS : S[n]? = some o) (ho : StO o) (l : List D) (hl : l ≠ []) (hl2 : l.length ≤ 1000) (hb : ∀ d ∈ l, ∀ m, below m 60 d = true) :
    ∃ (d : D) (o' : Ob), callK prg k 21 [.ref n, .lst l] ms S = .ok d (S.set n o') ∧ d ∈ l ∧ StO o' := by
  obtain ⟨k, rfl⟩ := lv hk
  rw [ck (i := ⟨"_law_pick", 2, 2, true, b21⟩) rfl rfl rfl]
  have hpos : 0 < l.length := List.length_pos_iff.mpr hl
  obtain ⟨v, o', e, hv, ho'⟩ := law_draw' (k := k+1) (by omega) (S.length :: ms) S n o hS ho l.length hpos hl2
  refine ⟨l[v], o', ?_, List.getElem_mem hv, ho'⟩
  have hx : ixN l.length (v : Int) = some v := ixN_nat hv
  simp [b21, e, hx, hv]
  rw [unbox_below (hb _ (List.getElem_mem hv) _)]
  simp [List.take_of_length_le]
/-- the state stands at n -/
def StK (m n : Nat) (S : Sto) : Prop := S.length = m ∧ ∃ o, S[n]? = some o ∧ StO o
theorem StK.set {m n S o} (h : StK m n S) (ho : StO o) : StK m n (S.set n o) := by
  obtain ⟨h1, o1, h2, _⟩ := h
  refine ⟨by simpa using h1, o, ?_, ho⟩
  exact List.getElem?_set_self (List.getElem?_eq_some_iff.mp h2).1
theorem StK.lt {m n S} (h : StK m n S) : n < S.length := by
  obtain ⟨h1, o1, h2, _⟩ := h
  exact (List.getElem?_eq_some_iff.mp h2).1
/-- a draw, with more behind the store -/
theorem drawK {k} (hk : 1 ≤ k) (ms) {m n : Nat} {S : Sto} (hS : StK m n S) (O : List Ob) (many : Nat) (hm : 0 < many) (hm2 : many ≤ 1000) :
    ∃ (v : Nat) (S' : Sto), callK prg k 20 [.ref n, .int many] ms (S ++ O) = .ok (.int v) (S' ++ O) ∧ v < many ∧ StK m n S' := by
  obtain ⟨h1, o, h2, h3⟩ := hS
  have hlt := (List.getElem?_eq_some_iff.mp h2).1
  obtain ⟨v, o', e, hv, ho⟩ := law_draw' hk ms (S ++ O) n o (by rw [List.getElem?_append_left hlt]; exact h2) h3 many hm hm2
  refine ⟨v, S.set n o', ?_, hv, StK.set ⟨h1, o, h2, h3⟩ ho⟩
  rw [e, List.set_append_left _ _ hlt]
theorem pickK {k} (hk : 2 ≤ k) (ms) {m n : Nat} {S : Sto} (hS : StK m n S) (O : List Ob) (l : List D) (hl : l ≠ []) (hl2 : l.length ≤ 1000) (hb : ∀ d ∈ l, ∀ m, below m 60 d = true) :
    ∃ (d : D) (S' : Sto), callK prg k 21 [.ref n, .lst l] ms (S ++ O) = .ok d (S' ++ O) ∧ d ∈ l ∧ StK m n S' := by
  obtain ⟨h1, o, h2, h3⟩ := hS
  have hlt := (List.getElem?_eq_some_iff.mp h2).1
  obtain ⟨v, o', e, hv, ho⟩ := law_pick' hk ms (S ++ O) n o (by rw [List.getElem?_append_left hlt]; exact h2) h3 l hl hl2 hb
  refine ⟨v, S.set n o', ?_, hv, StK.set ⟨h1, o, h2, h3⟩ ho⟩
  rw [e, List.set_append_left _ _ hlt]
end W58

set_option linter.all false
set_option maxRecDepth 100000
namespace W58
open MP PySem Mk58
theorem eqDs_refl {f : D → D → Bool} : ∀ {l : List D}, (∀ d ∈ l, f d d = true) → eqD.eqDs f l l = true
  | [], _ => rfl
  | d :: l, h => by
    unfold eqD.eqDs
    rw [h d (by simp), eqDs_refl fun x hx => h x (by simp [hx])]
    rfl
theorem eqD_refl : ∀ {n : Nat} {d : D}, isPure n d = true → eqD n d d = true
  | 0, _, h => by simp [isPure] at h
  | n + 1, d, h => by
    cases d with
    | tup l => simp [isPure] at h; exact eqDs_refl fun x hx => eqD_refl (h x hx)
    | lst l => simp [isPure] at h; exact eqDs_refl fun x hx => eqD_refl (h x hx)
    | non => rfl
    | bl b => simp [eqD]
    | int i => simp [eqD]
    | str s => simp [eqD]
    | _ => simp [isPure] at h
theorem sameD_refl : ∀ {n : Nat} {d : D}, isPure n d = true → sameD n d d = true
  | 0, _, h => by simp [isPure] at h
  | n + 1, d, h => by
    cases d with
    | tup l => simp [isPure] at h; exact eqDs_refl fun x hx => sameD_refl (h x hx)
    | lst l => simp [isPure] at h; exact eqDs_refl fun x hx => sameD_refl (h x hx)
    | non => rfl
    | bl b => simp [sameD]
    | int i => simp [sameD]
    | str s => simp [sameD]
    | _ => simp [isPure] at h
theorem law_same' {k} (hk : 1 ≤ k) (ms S) (l : List D) (hp : isPure 60 (.lst l) = true) (hf : fitsD (.lst l) = true) : callK prg k 22 [.lst l, .lst l] ms S = .ok (.bl true) S := by
  obtain ⟨k, rfl⟩ := lv hk
  rw [ck (i := ⟨"_law_same", 2, 2, true, b22⟩) rfl rfl rfl]
  have h1 := eqD_refl hp
  have h2 := sameD_refl hp
  simp [-pure_lst, b22, hp, hf, h1, h2]
theorem ckI {k f : Nat} {i : FnI} {args : List D} {ms : List Nat} {S : Sto} (hf : prg.fns[f]? = some i) (ha : args.length = i.ar) (hc : i.clean = false) :
    callK prg (k+1) f args ms S = finishI (exP prg.sub prg.fns.length (callK prg k) ms 40 i.body (args.map some ++ List.replicate (i.nloc - i.ar) none) S) := by
  show (match prg.fns[f]? with
    | none => _
    | some i => _) = _
  rw [hf]
  simp [ha, hc]
theorem st_for (k : Nat) (ms : List Nat) (S : Sto) (L : Option D) : ∀ (xs : List Int) (seed : Int) (a2 : Option D), ∃ seed' a2',
    forL (exP prg.sub prg.fns.length (callK prg k) ms 39) (.v 2) [.asg (.p (.v 1)) (.bin .add (.bin .mod (.bi false .int [.bin .add (.bin .mul (.var 1) (.con (.int 48271))) (.var 2)]) (.con (.int 2147483629))) (.con (.int 1)))] (xs.map .int) [L, some (.int seed), a2] S
      = .ok .next [L, some (.int seed'), a2'] S
  | [], seed, a2 => ⟨seed, a2, rfl⟩
  | x :: xs, seed, a2 => by
    obtain ⟨s', a2', e⟩ := st_for k ms S L xs ((seed * 48271 + x) % 2147483629 + 1) (some (.int x))
    refine ⟨s', a2', ?_⟩
    have h48 : small64 48271 = true := by decide
    rw [← e, List.map_cons, forL_cons]
    simp [h48]
theorem law_start' {k} (hk : 1 ≤ k) (ms S) (xs : List Int) : ∃ seed : Int, callK prg k 19 [.lst (xs.map .int)] ms S = .ok (.ref S.length) (S ++ [⟨false, .lst [.lst (xs.map .int), .int 0, .int 0, .int seed]⟩]) := by
  obtain ⟨k, rfl⟩ := lv hk
  obtain ⟨s', a2', e⟩ := st_for k ms S (some (.lst (xs.map .int))) xs 7 none
  refine ⟨s', ?_⟩
  rw [ckI (i := ⟨"_law_start", 1, 3, false, b19⟩) rfl rfl rfl]
  simp [b19, e, isDV, unl_none, finishI]
/-! a comprehension that draws -/
theorem compL_st {E : EvF} {T : TtF} {elt : Ex} {tg : Pat} {g : GE} {m : Nat} (P : Sto → Prop) (Q : D → Prop) (hP : ∀ S, P S → S.length = m) : ∀ (items : List D) (S : Sto) (acc : List D), P S → acc.length + items.length ≤ 16777216 →
    (∀ d ∈ items, ∀ S acc, P S → ∃ g1 S' x, asgN tg d g = some g1 ∧ E elt g1 (S ++ [⟨false, .lst acc⟩]) = .ok x (S' ++ [⟨false, .lst acc⟩]) ∧ P S' ∧ Q x) →
    ∃ S' l, compL E T elt tg [] g m items (S ++ [⟨false, .lst acc⟩]) = .ok () (S' ++ [⟨false, .lst (acc ++ l)⟩]) ∧ P S' ∧ (∀ x ∈ l, Q x) ∧ l.length = items.length
  | [], S, acc, h, _, _ => ⟨S, [], by simp [compL], h, by simp, rfl⟩
  | d :: r, S, acc, h, hl, H => by
    simp only [List.length_cons] at hl
    obtain ⟨g1, S1, x, h1, h2, h3, h4⟩ := H d (by simp) S acc h
    obtain ⟨S2, l, e, h5, h6, h7⟩ := compL_st (E := E) (T := T) (elt := elt) (tg := tg) (g := g) P Q hP r S1 (acc ++ [x]) h3 (by simp; omega) fun y hy => H y (by simp [hy])
    refine ⟨S2, x :: l, ?_, h5, ?_, by simp [h7]⟩
    · unfold compL
      rw [h1]
      have hm := hP S1 h3
      subst hm
      simp only [ttAnd_nil, noX_ok, bind_ok, if_true, h2]
      rw [getA0]
      simp only [List.getElem?_cons_zero]
      rw [xlineOk_le (by omega)]
      simp only [if_true]
      rw [setA0]
      simp only [List.set_cons_zero]
      rw [e]
      simp
    · intro y hy
      rcases List.mem_cons.mp hy with rfl | hy
      · exact h4
      · exact h6 y hy
theorem ev_compS {nf call n ms elt tg it own g S S1} {items : List D} {m : Nat} (P : Sto → Prop) (Q : D → Prop) (hP : ∀ S, P S → S.length = m) (hi : itE (EV nf call n ms) it g S = .ok (items, none) S1) (hS : P S1) (hl : items.length ≤ 16777216)
    (H : ∀ d ∈ items, ∀ S acc, P S → ∃ g1 S' x, asgN tg d (wipeE g own) = some g1 ∧ EV nf call n (m :: ms) elt g1 (S ++ [⟨false, .lst acc⟩]) = .ok x (S' ++ [⟨false, .lst acc⟩]) ∧ P S' ∧ Q x)
    (hb : ∀ x, Q x → below m 60 x = true) :
    ∃ S' l, EV nf call (n+1) ms (.comp false elt tg it [] own) g S = .ok (.lst l) S' ∧ P S' ∧ (∀ x ∈ l, Q x) ∧ l.length = items.length := by
  have hm := hP S1 hS
  obtain ⟨S2, l, e, h1, h2, h3⟩ := compL_st (E := EV nf call n (m :: ms)) (T := TV nf call n (m :: ms)) (elt := elt) (tg := tg) (g := wipeE g own) P Q hP items S1 [] hS (by simpa using hl) H
  refine ⟨S2, l, ?_, h1, h2, h3⟩
  rw [ev_comp, hi, bind_ok]
  unfold compD
  simp only [lockN, hm, e, bind_ok, List.nil_append]
  unfold compEnd
  rw [← hP S2 h1, getA0]
  simp only [List.getElem?_cons_zero, Bool.false_eq_true, if_false]
  rw [if_pos, takeA, lockN]
  simp only [lenA, List.length_cons, List.length_nil, Nat.zero_add, decide_true, Bool.true_and, List.all_eq_true, deep_eq]
  intro x hx
  rw [hP S2 h1]
  exact hb x (h2 x hx)
end W58

set_option linter.all false
set_option maxRecDepth 100000
namespace W58
open MP PySem Mk58
def FarV (v : D) : Prop := ∃ c : List (Option Nat), v = .lst (c.map encF) ∧ c.length ≤ 6 ∧ ∀ f ∈ c, OkF 40 f
def FldV (v : D) : Prop := ∃ f : Option Nat, v = encF f ∧ OkF 40 f
theorem fld_non : FldV .non := ⟨none, rfl, fun _ h => by cases h⟩
theorem fld_int {i : Int} (h0 : 0 ≤ i) (h1 : i < 40) : FldV (.int i) := ⟨some i.toNat, by simp [encF]; omega, fun k h => by cases h; omega⟩
theorem far_of : ∀ {l : List D}, (∀ x ∈ l, FldV x) → l.length ≤ 6 → FarV (.lst l)
  | [], _, _ => ⟨[], rfl, by simp, by simp⟩
  | d :: l, h, hl => by
    obtain ⟨f, rfl, hf⟩ := h d (by simp)
    obtain ⟨c, e, h2, h3⟩ := far_of (l := l) (fun x hx => h x (by simp [hx])) (by simp at hl; omega)
    cases e
    refine ⟨f :: c, rfl, by simp at hl ⊢; omega, ?_⟩
    intro x hx
    rcases List.mem_cons.mp hx with rfl | hx
    · exact hf
    · exact h3 x hx
theorem FldV.below {v : D} (h : FldV v) (m n : Nat) : MP.below m (n+1) v = true := by
  obtain ⟨f, rfl, _⟩ := h
  simp
abbrev gE (n m kd k : Nat) (far j : Option D) : GE := [some (.ref n), some (.int kd), some (.int 40), some (.ref m), some (.int k), far, j]
def g1 : MP.St := .asg (.p (.v 5)) (.lst false [.ite (.cmp .lt (.bin .add (.var 4) (.con (.int 1))) (.var 2)) (.bin .add (.var 4) (.con (.int 1))) (.call 21 [.var 0, .lst false [.con .non, .con (.int 0), .con (.int 20)]])])
def g2 : MP.St := .ite (.cmp .eq (.var 1) (.con (.int 1))) [.asg (.p (.v 5)) (.lst false [.ite (.cmp .lt (.bin .add (.var 4) (.con (.int 2))) (.var 2)) (.bin .add (.var 4) (.con (.int 2))) (.con .non), .ite (.cmp .gt (.var 4) (.con (.int 0))) (.bin .sub (.var 4) (.con (.int 1))) (.con .non)])] []
def g3 : MP.St := .ite (.cmp .eq (.var 1) (.con (.int 2))) [.asg (.p (.v 5)) (.lst false [.bin .add (.bin .mul (.bin .fdiv (.var 4) (.con (.int 5))) (.con (.int 5))) (.bin .mod (.bi false .int [.bin .add (.var 4) (.con (.int 1))]) (.con (.int 5))), .ite (.and [.cmp .lt (.bin .add (.var 4) (.con (.int 5))) (.var 2), .cmp .eq (.call 20 [.var 0, .con (.int 3)]) (.con (.int 0))]) (.bin .add (.var 4) (.con (.int 5))) (.con .non)])] []
def g4 : MP.St := .ite (.cmp .eq (.var 1) (.con (.int 3))) [.asg (.p (.v 5)) (.ite (.cmp .lt (.var 4) (.con (.int 7))) (.comp false (.bin .mod (.bi false .int [.bin .add (.bin .mul (.con (.int 6)) (.var 4)) (.var 6)]) (.con (.int 40))) (.v 6) (.rng [.con (.int 6)]) [] [6]) (.sl (.lst false [.con .non, .call 20 [.var 0, .var 2]]) none (some (.call 20 [.var 0, .con (.int 3)]))))] []
def g5 : MP.St := .ite (.cmp .eq (.var 1) (.con (.int 4))) [.asg (.p (.v 5)) (.comp false (.call 21 [.var 0, .lst false [.con .non, .con .non, .call 20 [.var 0, .var 2]]]) (.v 6) (.rng [.call 20 [.var 0, .con (.int 5)]]) [] [6])] []
variable {k0 : Nat} (hk0 : 2 ≤ k0) (ms : List Nat) {n m kd k : Nat} (hk : k < 40) {S : Sto} (hS : StK m n S) (O : List Ob)
include hk0 hk hS
theorem g1_ok (far : Option D) : ∃ S' far', stx prg.sub prg.fns.length (callK prg k0) ms 38 g1 (gE n m kd k far none) (S ++ O) = .ok .next (gE n m kd k (some far') none) (S' ++ O) ∧ StK m n S' ∧ FarV far' := by
  by_cases h : k + 1 < 40
  · refine ⟨S, .lst [.int ((k : Int) + 1)], ?_, hS, far_of (by simp; exact fld_int (by omega) (by omega)) (by simp)⟩
    have h' : (k : Int) + 1 < 40 := by omega
    simp [g1, h']
  · obtain ⟨d, S', e, hd, h2⟩ := pickK hk0 ms hS O [.non, .int 0, .int 20] (by simp) (by simp) (by simp)
    refine ⟨S', .lst [d], ?_, h2, far_of ?_ (by simp)⟩
    · have h' : ¬ (k : Int) + 1 < 40 := by omega
      simp [g1, h', e]
    · simp at hd ⊢
      rcases hd with rfl | rfl | rfl
      · exact fld_non
      · exact fld_int (by omega) (by omega)
      · exact fld_int (by omega) (by omega)
theorem g2_ok {far : D} (hf : FarV far) : ∃ S' far', stx prg.sub prg.fns.length (callK prg k0) ms 38 g2 (gE n m kd k (some far) none) (S ++ O) = .ok .next (gE n m kd k (some far') none) (S' ++ O) ∧ StK m n S' ∧ FarV far' := by
  by_cases hq : kd = 1
  · subst hq
    by_cases h : k + 2 < 40
    · have h' : (k : Int) + 2 < 40 := by omega
      by_cases hz : 0 < k
      · refine ⟨S, .lst [.int ((k : Int) + 2), .int ((k : Int) - 1)], ?_, hS, far_of (by simp; exact ⟨fld_int (by omega) (by omega), fld_int (by omega) (by omega)⟩) (by simp)⟩
        simp [g2, h', hz]
      · refine ⟨S, .lst [.int ((k : Int) + 2), .non], ?_, hS, far_of (by simp; exact ⟨fld_int (by omega) (by omega), fld_non⟩) (by simp)⟩
        simp [g2, h', hz]
    · have h' : ¬ (k : Int) + 2 < 40 := by omega
      by_cases hz : 0 < k
      · refine ⟨S, .lst [.non, .int ((k : Int) - 1)], ?_, hS, far_of (by simp; exact ⟨fld_non, fld_int (by omega) (by omega)⟩) (by simp)⟩
        simp [g2, h', hz]
      · omega
  · have hq' : ¬ (kd : Int) = 1 := by omega
    exact ⟨S, far, by simp [g2, hq'], hS, hf⟩
theorem g3_ok {far : D} (hf : FarV far) : ∃ S' far', stx prg.sub prg.fns.length (callK prg k0) ms 38 g3 (gE n m kd k (some far) none) (S ++ O) = .ok .next (gE n m kd k (some far') none) (S' ++ O) ∧ StK m n S' ∧ FarV far' := by
  by_cases hq : kd = 2
  · subst hq
    have s5 : smallDiv 5 = true := by decide
    have m5 : small64 5 = true := by decide
    have hv : FldV (.int ((k : Int) / 5 * 5 + ((k : Int) + 1) % 5)) := fld_int (by omega) (by omega)
    by_cases h : k + 5 < 40
    · have h' : (k : Int) + 5 < 40 := by omega
      obtain ⟨v, S', e, hv2, h2⟩ := drawK (k := k0) (by omega) ms hS O 3 (by omega) (by omega)
      have e' : callK prg k0 20 [.ref n, .int 3] ms (S ++ O) = .ok (.int v) (S' ++ O) := e
      by_cases hz : v = 0
      · subst hz
        refine ⟨S', .lst [.int ((k : Int) / 5 * 5 + ((k : Int) + 1) % 5), .int ((k : Int) + 5)], ?_, h2, far_of (by simp; exact ⟨hv, fld_int (by omega) (by omega)⟩) (by simp)⟩
        simp [g3, h', e', s5, m5]
      · refine ⟨S', .lst [.int ((k : Int) / 5 * 5 + ((k : Int) + 1) % 5), .non], ?_, h2, far_of (by simp; exact ⟨hv, fld_non⟩) (by simp)⟩
        have hz' : ¬ (v : Int) = 0 := by omega
        simp [g3, h', e', s5, m5, hz]
    · have h' : ¬ (k : Int) + 5 < 40 := by omega
      refine ⟨S, .lst [.int ((k : Int) / 5 * 5 + ((k : Int) + 1) % 5), .non], ?_, hS, far_of (by simp; exact ⟨hv, fld_non⟩) (by simp)⟩
      simp [g3, h', s5, m5]
  · have hq' : ¬ (kd : Int) = 2 := by omega
    exact ⟨S, far, by simp [g3, hq'], hS, hf⟩
theorem g4_ok {far : D} (hf : FarV far) : ∃ S' far', stx prg.sub prg.fns.length (callK prg k0) ms 38 g4 (gE n m kd k (some far) none) (S ++ O) = .ok .next (gE n m kd k (some far') none) (S' ++ O) ∧ StK m n S' ∧ FarV far' := by
  by_cases hq : kd = 3
  · subst hq
    by_cases h : k < 7
    · have h' : (k : Int) < 7 := by omega
      have m6 : small64 6 = true := by decide
      have o6 : ok62 6 = true := by decide
      have r6 : rangeD 0 1 6 = nints (List.range 6) := rangeD0 6
      have c1 : ∀ n1 S, EV prg.fns.length (callK prg k0) (n1+8) ms (.comp false (.bin .mod (.bi false .int [.bin .add (.bin .mul (.con (.int 6)) (.var 4)) (.var 6)]) (.con (.int 40))) (.v 6) (.rng [.con (.int 6)]) [] [6]) (gE n m 3 k (some far) none) S = .ok (.lst ((List.range 6).map fun j : Nat => .int ((6 * (k : Int) + j) % 40))) S := fun n1 S =>
        ev_compM (n := n1+7) (List.range 6) (fun n : Nat => .int (n : Int)) _ (by simp [o6, r6]) (by simp) (fun a ha acc => ⟨_, by simp; rfl, by simp [m6]⟩) (by simp)
      refine ⟨S, .lst ((List.range 6).map fun j : Nat => .int ((6 * (k : Int) + j) % 40)), by simp [g4, h', c1], hS, far_of ?_ (by simp)⟩
      intro x hx
      simp only [List.mem_map] at hx
      obtain ⟨j, _, rfl⟩ := hx
      exact fld_int (by omega) (by omega)
    · have h' : ¬ (k : Int) < 7 := by omega
      obtain ⟨v, S1, e1, hv1, h1⟩ := drawK (k := k0) (by omega) ms hS O 40 (by omega) (by omega)
      obtain ⟨w, S2, e2, hv2, h2⟩ := drawK (k := k0) (by omega) ms h1 O 3 (by omega) (by omega)
      have e1' : callK prg k0 20 [.ref n, .int 40] ms (S ++ O) = .ok (.int v) (S1 ++ O) := e1
      have e2' : callK prg k0 20 [.ref n, .int 3] ms (S1 ++ O) = .ok (.int w) (S2 ++ O) := e2
      refine ⟨S2, .lst (cut [.non, .int v] none (some w)), by simp [g4, h', e1', e2'], h2, far_of ?_ ?_⟩
      · intro x hx
        have : x ∈ [D.non, D.int (v : Int)] := by
          unfold cut at hx
          exact List.mem_of_mem_drop (List.mem_of_mem_take hx)
        simp at this
        rcases this with rfl | rfl
        · exact fld_non
        · exact fld_int (by omega) (by omega)
      · unfold cut
        simp
        omega
  · have hq' : ¬ (kd : Int) = 3 := by omega
    exact ⟨S, far, by simp [g4, hq'], hS, hf⟩
theorem g5_ok {far : D} (hf : FarV far) : ∃ S' far', stx prg.sub prg.fns.length (callK prg k0) ms 38 g5 (gE n m kd k (some far) none) (S ++ O) = .ok .next (gE n m kd k (some far') none) (S' ++ O) ∧ StK m n S' ∧ FarV far' := by
  by_cases hq : kd = 4
  · subst hq
    obtain ⟨v, S1, e1, hv1, h1⟩ := drawK (k := k0) (by omega) ms hS O 5 (by omega) (by omega)
    have e1' : callK prg k0 20 [.ref n, .int 5] ms (S ++ O) = .ok (.int v) (S1 ++ O) := e1
    have ov : ok62 (v : Int) = true := ok62_nat (by omega)
    obtain ⟨S2, l, e2, ⟨S3, rfl, h3⟩, h4, h5⟩ := ev_compS (nf := prg.fns.length) (call := callK prg k0) (n := 36) (ms := ms) (elt := .call 21 [.var 0, .lst false [.con .non, .con .non, .call 20 [.var 0, .var 2]]]) (tg := .v 6) (it := .rng [.call 20 [.var 0, .con (.int 5)]]) (own := [6]) (g := gE n m 4 k (some far) none) (S := S ++ O) (S1 := S1 ++ O) (items := nints (List.range v)) (m := m + O.length)
      (fun T => ∃ S, T = S ++ O ∧ StK m n S) FldV (by rintro _ ⟨S, rfl, h⟩; simp [h.1]) (by simp [e1', ov, rangeD0]) ⟨S1, rfl, h1⟩ (by simp; omega) (by
      rintro d hd _ acc ⟨T, rfl, hT⟩
      obtain ⟨w, T1, e2, hw, h6⟩ := drawK (k := k0) (by omega) ((m + O.length) :: ms) hT (O ++ [⟨false, .lst acc⟩]) 40 (by omega) (by omega)
      obtain ⟨x, T2, e3, hx, h7⟩ := pickK hk0 ((m + O.length) :: ms) h6 (O ++ [⟨false, .lst acc⟩]) [.non, .non, .int w] (by simp) (by simp) (by simp)
      have e2' : callK prg k0 20 [.ref n, .int 40] ((m + O.length) :: ms) (T ++ (O ++ [⟨false, .lst acc⟩])) = .ok (.int w) (T1 ++ (O ++ [⟨false, .lst acc⟩])) := e2
      refine ⟨_, T2 ++ O, x, by simp; rfl, ?_, ⟨T2, rfl, h7⟩, ?_⟩
      · simp [e2', e3]
      · simp at hx
        rcases hx with rfl | rfl
        · exact fld_non
        · exact fld_int (by omega) (by omega)) (fun x hx => hx.below _ _)
    refine ⟨S3, .lst l, ?_, h3, far_of h4 (by simp at h5; omega)⟩
    simp [g5, e2]
  · have hq' : ¬ (kd : Int) = 4 := by omega
    exact ⟨S, far, by simp [g5, hq'], hS, hf⟩
end W58

set_option linter.all false
set_option maxRecDepth 100000
namespace W58
open MP PySem Mk58
theorem getM {S : Sto} {m : Nat} (h : S.length = m) (O : List Ob) : (S ++ O)[m]? = O[0]? := by subst h; exact getA0 S O
theorem setM {S : Sto} {m : Nat} (h : S.length = m) (O : List Ob) (x : Ob) : (S ++ O).set m x = S ++ O.set 0 x := by subst h; exact setA0 S O x
def gb : List MP.St := [g1, g2, g3, g4, g5, .ex (.bm .append (.var 3) [.bi false .xtuple [.var 5]])]
def GoodC (c : List (Option Nat)) : Prop := c.length ≤ 6 ∧ ∀ f ∈ c, OkF 40 f
theorem gr_for {k0 : Nat} (hk0 : 2 ≤ k0) (ms : List Nat) {n m kd : Nat} : ∀ (ks : List Nat) (S : Sto) (acc : List (List (Option Nat))) (a4 far : Option D), (∀ k ∈ ks, k < 40) → StK m n S → (∀ c ∈ acc, GoodC c) → acc.length + ks.length ≤ 1000 →
    ∃ S' cs b4 b5, forL (exP prg.sub prg.fns.length (callK prg k0) (m :: ms) 39) (.v 4) gb (nints ks) [some (.ref n), some (.int kd), some (.int 40), some (.ref m), a4, far, none] (S ++ [⟨false, .lst (acc.map encC)⟩])
      = .ok .next [some (.ref n), some (.int kd), some (.int 40), some (.ref m), b4, b5, none] (S' ++ [⟨false, .lst ((acc ++ cs).map encC)⟩]) ∧ StK m n S' ∧ (∀ c ∈ cs, GoodC c) ∧ cs.length = ks.length
  | [], S, acc, a4, far, _, hS, _, _ => ⟨S, [], a4, far, by simp, hS, by simp, rfl⟩
  | k :: ks, S, acc, a4, far, hks, hS, hacc, hl => by
    have hk := hks k (by simp)
    simp only [List.length_cons] at hl
    obtain ⟨S1, f1, e1, h1, i1⟩ := g1_ok hk0 (m :: ms) hk (kd := kd) hS [⟨false, .lst (acc.map encC)⟩] far
    obtain ⟨S2, f2, e2, h2, i2⟩ := g2_ok hk0 (m :: ms) hk (kd := kd) h1 [⟨false, .lst (acc.map encC)⟩] i1
    obtain ⟨S3, f3, e3, h3, i3⟩ := g3_ok hk0 (m :: ms) hk (kd := kd) h2 [⟨false, .lst (acc.map encC)⟩] i2
    obtain ⟨S4, f4, e4, h4, i4⟩ := g4_ok hk0 (m :: ms) hk (kd := kd) h3 [⟨false, .lst (acc.map encC)⟩] i3
    obtain ⟨S5, f5, e5, h5, ⟨c, rfl, hc1, hc2⟩⟩ := g5_ok hk0 (m :: ms) hk (kd := kd) h4 [⟨false, .lst (acc.map encC)⟩] i4
    obtain ⟨S6, cs, b4, b5, e, h6, hcs, hl6⟩ := gr_for hk0 ms ks S5 (acc ++ [c]) (some (.int k)) (some (.lst (c.map encF))) (fun x hx => hks x (by simp [hx])) h5 (by
      intro x hx
      simp at hx
      rcases hx with hx | rfl
      · exact hacc x hx
      · exact ⟨hc1, hc2⟩) (by simp; omega)
    refine ⟨S6, c :: cs, b4, b5, ?_, h6, ?_, by simp [hl6]⟩
    · rw [show acc ++ c :: cs = acc ++ [c] ++ cs by simp, ← e, show nints (k :: ks) = .int (k : Int) :: nints ks from rfl, forL_cons]
      have gm := getM h5.1 [⟨false, .lst (acc.map encC)⟩]
      have sm := setM h5.1 [⟨false, .lst (acc.map encC)⟩]
      have hle : acc.length ≤ 16777215 := by omega
      have bc : ∀ m n, below m (n+2) (.xtp (c.map encF)) = true := fun m n => bl_encC c m n
      simp only [asg_v, optG_some, setEnv_eq, List.set_cons_succ, List.set_cons_zero, gb, ex_cons, e1, e2, e3, e4, e5, go_next, sx_ex]
      simp [gm, sm, hle, bc, encC]
    · intro x hx
      rcases List.mem_cons.mp hx with rfl | hx
      · exact ⟨hc1, hc2⟩
      · exact hcs x hx
theorem law_great' {k} (hk : 3 ≤ k) (ms) {n m : Nat} {S : Sto} (hS : StK m n S) : ∃ S' h, callK prg k 24 [.ref n] ms S = .ok (encH h) S' ∧ StK m n S' ∧ h.length = 40 ∧ OkH h := by
  obtain ⟨k, rfl⟩ := lv hk
  have hm := hS.1
  obtain ⟨kd, S1, e1, hv1, h1⟩ := drawK (k := k+2) (by omega) (m :: ms) hS [] 5 (by omega) (by omega)
  obtain ⟨S2, cs, b4, b5, e2, h2, hcs, hl⟩ := gr_for (k0 := k+2) (by omega) ms (kd := kd) (List.range 40) S1 [] none none (by simp) h1 (by simp) (by simp)
  simp only [List.append_nil, List.nil_append, List.map_nil] at e1 e2
  have e1' : callK prg (k+2) 20 [.ref n, .int 5] (m :: ms) S = .ok (.int kd) S1 := e1
  have o40 : ok62 40 = true := by decide
  have r40 : rangeD 0 1 40 = nints (List.range 40) := rangeD0 40
  refine ⟨S2, cs, ?_, h2, by simpa using hl, ?_⟩
  · rw [ck (i := ⟨"_law_great", 1, 7, true, b24⟩) rfl rfl rfl, hm]
    have gm := getM h2.1 [⟨false, .lst (cs.map encC)⟩]
    have tk : (S2 ++ [(⟨false, Bd.lst (cs.map encC)⟩ : Ob)]).take m = S2 := by rw [← h2.1]; exact takeA S2 _
    simp only [gb, g1, g2, g3, g4, g5] at e2
    simp [b24, e1', h1.1, putAll, o40, r40, e2, isDV, unl_none, gm]
    rw [unbox_below (by simp)]
    simp [tk, encH]
  · have h40 : cs.length = 40 := by simpa using hl
    refine ⟨by omega, fun c hc => ?_⟩
    rw [h40]
    exact hcs c hc
end W58

set_option linter.all false
set_option maxRecDepth 100000
namespace W58
open MP PySem Mk58
/-! slices of tuples of nints -/
theorem cut_to (l : List Nat) {a : Nat} (h : a ≤ l.length) : cut (nints l) none (some (a : Int)) = nints (l.take a) := by
  have h1 : ¬ (a : Int) < 0 := by omega
  unfold cut sx
  simp only [h1, if_false, Int.toNat_natCast, List.length_map, Nat.min_eq_left h, List.drop_zero, Nat.sub_zero, nints, List.map_take]
theorem cut_from (l : List Nat) {a : Nat} (h : a ≤ l.length) : cut (nints l) (some (a : Int)) none = nints (l.drop a) := by
  have h1 : ¬ (a : Int) < 0 := by omega
  unfold cut sx
  simp only [h1, if_false, Int.toNat_natCast, List.length_map, Nat.min_eq_left h, nints, List.map_drop]
  rw [List.take_of_length_le]
  simp
theorem cut_m1 (l : List Nat) (h : l ≠ []) : cut (nints l) none (some (-1)) = nints (l.take (l.length - 1)) := by
  have h0 : 0 < l.length := List.length_pos_iff.mpr h
  have h1 : (-1 : Int) < 0 := by omega
  have h2 : ((-1 : Int) + (l.length : Int)).toNat = l.length - 1 := by omega
  unfold cut sx
  simp only [h1, if_true, List.length_map, h2, List.drop_zero, Nat.sub_zero, nints, List.map_take]
theorem slN_to (S) (l : List Nat) {a : Nat} (h : a ≤ l.length) : slop S (encN l) none (some (a : Int)) = some (encN (l.take a)) := by
  rw [encN_ints, sl_tup, cut_to l h]; rfl
theorem slN_from (S) (l : List Nat) {a : Nat} (h : a ≤ l.length) : slop S (encN l) (some (a : Int)) none = some (encN (l.drop a)) := by
  rw [encN_ints, sl_tup, cut_from l h]; rfl
theorem slN_m1 (S) (l : List Nat) (h : l ≠ []) : slop S (encN l) none (some (-1)) = some (encN (l.take (l.length - 1))) := by
  rw [encN_ints, sl_tup, cut_m1 l h]; rfl
theorem addNN (S) (l k : List Nat) (h : l.length + k.length ≤ 1000) : binop S .add (encN l) (encN k) = some (encN (l ++ k)) := by
  have : l.length + k.length ≤ 16777216 := by omega
  simp [encN_ints, this]
/-! the papers -/
theorem pure_S {o : Option Str} (h : ∀ s, o = some s → s.cps.all (· < 0x110000) = true) (n) : isPure (n+1) (encS o) = true := by
  cases o with
  | none => rfl
  | some s => exact h s rfl
@[simp] theorem top_S (S o) : top S (encS o) = encS o := by cases o <;> rfl
theorem eqD_S (n o) : eqD (n+1) (encS o) (encS o) = true := by
  cases o with
  | none => rfl
  | some s => simp [encS, eqD]
theorem due_str {h r cell l s} (e : freeDue h r cell l = some s) : s.cps.all (· < 0x110000) = true := by
  unfold freeDue at e
  split at e
  · cases e; decide +kernel
  · split at e
    · cases e; decide +kernel
    · split at e
      · cases e; decide +kernel
      · cases e
def wayDue (h : List (List (Option Nat))) (r : List (Option Nat)) (cell : Nat) (way : List Nat) : Option Str := if endOf h r way = some cell then none else some ("end" : Str)
theorem wdue_str {h r cell l s} (e : wayDue h r cell l = some s) : s.cps.all (· < 0x110000) = true := by
  unfold wayDue at e
  split at e
  · cases e
  · cases e; decide +kernel
theorem reason_way {k} (hk : 7 ≤ k) (ms S) (h r) (cell : Nat) (way : List Nat) (hh : OkH h) (hr : OkR h r) (hc : cell < h.length) (hw : way ≠ []) (hl : way.length ≤ 1000) :
    callK prg k 30 [.fn 12, encH h, encR r, .int cell, encN way] ms S = .ok (encS (wayDue h r cell way)) S := by
  refine law_reason' (by omega) (by omega) ms S _ _ _ _ _ (fun ms S => ?_)
  rw [accept_way' (by omega) ms S h r cell way hh hr hc hw hl]
  unfold wayDue
  split <;> rfl
theorem reason_free {k} (hk : 7 ≤ k) (ms S) (h r) (cell : Nat) (l : List Nat) (hh : OkH h) (hr : OkR h r) (hc : cell < h.length) (hs : IsSet h.length l) :
    callK prg k 30 [.fn 14, encH h, encR r, .int cell, encN l] ms S = .ok (encS (freeDue h r cell l)) S := by
  refine law_reason' (by omega) (by omega) ms S _ _ _ _ _ (fun ms S => ?_)
  exact (accept_free' (by omega) ms S h r cell l hh hr hc hs).trans (by cases freeDue h r cell l <;> rfl)
def pw : List MP.St := [.ite (.cmp .ne (.call 30 [.con (.fn 12), .var 1, .var 2, .var 3, .var 7]) (.ite (.cmp .eq (.call 28 [.var 1, .var 2, .var 7]) (.var 3)) (.con .non) (.con (.str "end")))) [.ret (.con (.bl false))] []]
theorem pw_for {k} (hk : 7 ≤ k) (ms S) (h r) (cell : Nat) (hh : OkH h) (hr : OkR h r) (hc : cell < h.length) (a0 a4 a5 a6 : Option D) : ∀ (ws : List (List Nat)) (a7 : Option D), (∀ w ∈ ws, w ≠ [] ∧ w.length ≤ 1000) →
    ∃ b7, forL (exP prg.sub prg.fns.length (callK prg k) ms 38) (.v 7) pw (ws.map encN) [a0, some (encH h), some (encR r), some (.int cell), a4, a5, a6, a7] S = .ok .next [a0, some (encH h), some (encR r), some (.int cell), a4, a5, a6, b7] S
  | [], a7, _ => ⟨a7, rfl⟩
  | w :: ws, a7, hw => by
    obtain ⟨b7, e⟩ := pw_for hk ms S h r cell hh hr hc a0 a4 a5 a6 ws (some (encN w)) (fun x hx => hw x (by simp [hx]))
    refine ⟨b7, ?_⟩
    obtain ⟨h1, h2⟩ := hw w (by simp)
    have r1 := reason_way hk ms S h r cell w hh hr hc h1 h2
    have p1 : isPure 60 (D.str "end") = true := by decide +kernel
    rw [List.map_cons, forL_cons, ← e]
    by_cases q : endOf h r w = some cell
    · have d1 : wayDue h r cell w = none := by unfold wayDue; rw [if_pos q]
      rw [d1] at r1
      simp [pw, r1, law_end' (k := k) (by omega) ms S h r hh hr w h1, q, encS]
    · have d1 : wayDue h r cell w = some ("end" : Str) := by unfold wayDue; rw [if_neg q]
      rw [d1] at r1
      have e1 : eqD 60 (D.str "end") (D.str "end") = true := by decide +kernel
      simp [pw, r1, law_end' (k := k) (by omega) ms S h r hh hr w h1, q, encS, p1, e1]
def pf : List MP.St := [.ite (.cmp .ne (.call 30 [.con (.fn 14), .var 1, .var 2, .var 3, .var 7]) (.call 31 [.var 1, .var 2, .var 3, .var 7])) [.ret (.con (.bl false))] []]
theorem pf_for {k} (hk : 7 ≤ k) (ms S) (h r) (cell : Nat) (hh : OkH h) (hr : OkR h r) (hc : cell < h.length) (a0 a4 a5 a6 : Option D) : ∀ (ws : List (List Nat)) (a7 : Option D), (∀ w ∈ ws, IsSet h.length w) →
    ∃ b7, forL (exP prg.sub prg.fns.length (callK prg k) ms 39) (.v 7) pf (ws.map encN) [a0, some (encH h), some (encR r), some (.int cell), a4, a5, a6, a7] S = .ok .next [a0, some (encH h), some (encR r), some (.int cell), a4, a5, a6, b7] S
  | [], a7, _ => ⟨a7, rfl⟩
  | w :: ws, a7, hw => by
    obtain ⟨b7, e⟩ := pf_for hk ms S h r cell hh hr hc a0 a4 a5 a6 ws (some (encN w)) (fun x hx => hw x (by simp [hx]))
    refine ⟨b7, ?_⟩
    have h1 := hw w (by simp)
    have r1 := reason_free hk ms S h r cell w hh hr hc h1
    have r2 := law_free_due' (k := k) (by omega) ms S h r cell w hh hr
    have p1 := pure_S (o := freeDue h r cell w) (fun s e => due_str e) 59
    have e1 := eqD_S 59 (freeDue h r cell w)
    rw [List.map_cons, forL_cons, ← e]
    simp [pf, r1, r2, p1, e1]
theorem outW_set (n : Nat) (w : W) : IsSet n (outW n w) := by
  refine ⟨List.Pairwise.sublist List.filter_sublist List.pairwise_lt_range, fun x hx => ?_⟩
  simpa using (List.mem_filter.mp hx).1
theorem IsSet.sub {n : Nat} {l k : List Nat} (h : IsSet n l) (s : k.Sublist l) : IsSet n k := ⟨h.1.sublist s, fun x hx => h.2 x (s.subset hx)⟩
theorem take_drop_sub (l : List Nat) (a : Nat) : (l.take a ++ l.drop (a + 1)).Sublist l := by
  conv => rhs; rw [← List.take_append_drop a l]
  refine List.Sublist.append (List.Sublist.refl _) ?_
  rw [← List.drop_drop]
  exact List.drop_sublist _ _
theorem beh_set {h} (hh : OkH h) {cell : Nat} (hc : cell < h.length) : IsSet h.length (sortN (behF h cell)) := by
  obtain ⟨_, _, _, e⟩ := bh_for 0 [] [] h hh none (List.range h.length) [cell] none none ⟨by simp, by simpa using hc⟩
  rw [List.length_range] at e
  exact ⟨sortN_asc e.1, fun x hx => e.2 x (sortN_mem.mp hx)⟩
theorem papersW {k} (hk : 8 ≤ k) (ms) {n m : Nat} {S : Sto} (hS : StK m n S) (h r) (cell : Nat) (way : List Nat) (fr : D) (hh : OkH h) (hr : OkR h r) (hc : cell < h.length) (hw : way ≠ []) (hl : way.length ≤ 100) :
    ∃ S', callK prg k 32 [.ref n, encH h, encR r, .int cell, encN way, fr] ms S = .ok (.bl true) S' ∧ StK m n S' := by
  obtain ⟨k, rfl⟩ := lv hk
  have hp : 0 < way.length := List.length_pos_iff.mpr hw
  obtain ⟨at_, S1, e1, hv1, h1⟩ := drawK (k := k+7) (by omega) (S.length :: ms) hS [] way.length (by omega) (by omega)
  simp only [List.append_nil] at e1
  have hlast : ∃ w4, (w4 ≠ [] ∧ w4.length ≤ 1000) ∧ EV prg.fns.length (callK prg (k+7)) 37 (S.length :: ms) (.ite (.cmp .gt (.bi false .len [.var 4]) (.con (.int 1))) (.sl (.var 4) none (some (.neg (.con (.int 1))))) (.tup [.con (.int 7)])) [some (.ref n), some (encH h), some (encR r), some (.int cell), some (encN way), some fr, some (.int at_), none] S1 = .ok (encN w4) S1 := by
    by_cases q : 1 < way.length
    · have q' : (1 : Int) < way.length := by omega
      refine ⟨way.take (way.length - 1), ⟨?_, by simp; omega⟩, by simp [q', slN_m1 S1 way hw]⟩
      intro e0
      have := congrArg List.length e0
      simp at this
      omega
    · have q' : ¬ (1 : Int) < way.length := by omega
      exact ⟨[7], ⟨by simp, by simp⟩, by simp [q', encN]⟩
  obtain ⟨w4, hw4, e4⟩ := hlast
  have ix := ixNn S1 way hv1
  have t0 : ∀ S, binop S .add (encN way) (.tup [.int 0]) = some (encN (way ++ [0])) := fun S => addNN S way [0] (by simp; omega)
  have t1 : ∀ S, binop S .add (encN (way.take at_)) (.tup [.int (((way.getD at_ 0 : Nat) : Int) + 1)]) = some (encN (way.take at_ ++ [way.getD at_ 0 + 1])) := fun S => addNN S (way.take at_) [way.getD at_ 0 + 1] (by simp; omega)
  have t2 : ∀ S, binop S .add (encN (way.take at_ ++ [way.getD at_ 0 + 1])) (encN (way.drop (at_ + 1))) = some (encN (way.take at_ ++ [way.getD at_ 0 + 1] ++ way.drop (at_ + 1))) := fun S => addNN S _ _ (by simp; omega)
  have w2ok : way ++ [0] ≠ [] ∧ (way ++ [0]).length ≤ 1000 := ⟨by simp, by simp; omega⟩
  have w3ok : way.take at_ ++ [way.getD at_ 0 + 1] ++ way.drop (at_ + 1) ≠ [] ∧ (way.take at_ ++ [way.getD at_ 0 + 1] ++ way.drop (at_ + 1)).length ≤ 1000 := ⟨by simp, by simp; omega⟩
  generalize way ++ [0] = w2 at t0 w2ok
  generalize way.take at_ ++ [way.getD at_ 0 + 1] ++ way.drop (at_ + 1) = w3 at t2 w3ok
  generalize way.take at_ ++ [way.getD at_ 0 + 1] = w5 at t1 t2
  obtain ⟨b7, e5⟩ := pw_for (k := k+7) (by omega) (S.length :: ms) S1 h r cell hh hr hc (some (.ref n)) (some (encN way)) (some fr) (some (.int at_)) [way, w2, w3, w4] none (by
    intro w hw'
    simp only [List.mem_cons, List.not_mem_nil, or_false] at hw'
    rcases hw' with rfl | rfl | rfl | rfl
    · exact ⟨hw, by omega⟩
    · exact w2ok
    · exact w3ok
    · exact hw4)
  have s1 := fun S => slN_to S way (a := at_) (by omega)
  have s2 : ∀ S, slop S (encN way) (some ((at_ : Int) + 1)) none = some (encN (way.drop (at_ + 1))) := fun S => slN_from S way (a := at_ + 1) (by omega)
  have hset : IsSet h.length [cell] := ⟨by simp, by simpa using hc⟩
  have r1 : callK prg (k+7) 30 [.fn 14, encH h, encR r, .int cell, .tup [.int cell]] (S.length :: ms) S1 = .ok (encS (freeDue h r cell [cell])) S1 := reason_free (by omega) _ S1 h r cell [cell] hh hr hc hset
  have r2 : callK prg (k+7) 31 [encH h, encR r, .int cell, .tup [.int cell]] (S.length :: ms) S1 = .ok (encS (freeDue h r cell [cell])) S1 := law_free_due' (by omega) _ S1 h r cell [cell] hh hr
  have p1 := pure_S (o := freeDue h r cell [cell]) (fun s e => due_str e) 59
  have q1 := eqD_S 59 (freeDue h r cell [cell])
  have hlen : S1.length = S.length := by rw [h1.1, hS.1]
  refine ⟨S1, ?_, h1⟩
  rw [ck (i := ⟨"_law_papers_hold", 6, 8, true, b32⟩) rfl rfl rfl]
  simp only [List.map_cons, List.map_nil, pw] at e5
  simp [-ix_eq, -List.getD_eq_getElem?_getD, -ev_ite, b32, e1, ix, t0, t1, t2, s1, s2, e4, isDV, unl_none, e5, r1, r2, p1, q1]
  rw [← hlen, List.take_length]
end W58

set_option linter.all false
set_option maxRecDepth 100000
namespace W58
open MP PySem Mk58
theorem papersF {k} (hk : 8 ≤ k) (ms) {n m : Nat} {S : Sto} (hS : StK m n S) (h r) (cell : Nat) (fr : List Nat) (hh : OkH h) (hr : OkR h r) (hc : cell < h.length) (hf : fr ≠ []) (hs : IsSet h.length fr) :
    ∃ S', callK prg k 32 [.ref n, encH h, encR r, .int cell, .non, encN fr] ms S = .ok (.bl true) S' ∧ StK m n S' := by
  obtain ⟨k, rfl⟩ := lv hk
  have hp : 0 < fr.length := List.length_pos_iff.mpr hf
  have hhl := hh.1
  have hfl := hs.len
  obtain ⟨at_, S1, e1, hv1, h1⟩ := drawK (k := k+7) (by omega) (S.length :: ms) hS [] fr.length (by omega) (by omega)
  simp only [List.append_nil] at e1
  have t2 : ∀ S, binop S .add (encN (fr.take at_)) (encN (fr.drop (at_ + 1))) = some (encN (fr.take at_ ++ fr.drop (at_ + 1))) := fun S => addNN S _ _ (by simp; omega)
  have s1 := fun S => slN_to S fr (a := at_) (by omega)
  have s2 : ∀ S, slop S (encN fr) (some ((at_ : Int) + 1)) none = some (encN (fr.drop (at_ + 1))) := fun S => slN_from S fr (a := at_ + 1) (by omega)
  have w2 := hs.sub (take_drop_sub fr at_)
  generalize fr.take at_ ++ fr.drop (at_ + 1) = w2' at t2 w2
  have w3 : IsSet h.length (List.range h.length) := ⟨List.pairwise_lt_range, by simp⟩
  have w4 := beh_set hh hc
  have o1 := ok62_nat (show h.length ≤ 1000000 by omega)
  obtain ⟨b7, e5⟩ := pf_for (k := k+7) (by omega) (S.length :: ms) S1 h r cell hh hr hc (some (.ref n)) (some .non) (some (encN fr)) (some (.int at_)) [fr, w2', List.range h.length, sortN (behF h cell)] none (by
    intro w hw'
    simp only [List.mem_cons, List.not_mem_nil, or_false] at hw'
    rcases hw' with rfl | rfl | rfl | rfl
    · exact hs
    · exact w2
    · exact w3
    · exact w4)
  have hlen : S1.length = S.length := by rw [h1.1, hS.1]
  have hle : h.length ≤ 16777216 := by omega
  have rN : D.tup (nints (List.range h.length)) = encN (List.range h.length) := rfl
  refine ⟨S1, ?_, h1⟩
  rw [ck (i := ⟨"_law_papers_hold", 6, 8, true, b32⟩) rfl rfl rfl]
  simp only [List.map_cons, List.map_nil, pf] at e5
  simp [-ix_eq, -List.getD_eq_getElem?_getD, b32, e1, t2, s1, s2, o1, rangeD0, hle, rN, law_behind' (k := k+7) (by omega) _ _ h cell hh hc, isDV, unl_none, e5]
  rw [← hlen, List.take_length]

/-! ### the maths: reachable cells -/
/-- one step -/
def Stp (h : List (List (Option Nat))) (a b : Nat) : Prop := some b ∈ cel h a
inductive Rch (h : List (List (Option Nat))) : Nat → Nat → Prop
  | refl (a) : Rch h a a
  | tail {a b c} : Rch h a b → Stp h b c → Rch h a c
theorem Rch.trans {h a b c} (x : Rch h a b) (y : Rch h b c) : Rch h a c := by
  induction y with
  | refl => exact x
  | tail _ s ih => exact ih.tail s
theorem Rch.head {h a b c} (s : Stp h a b) (y : Rch h b c) : Rch h a c := (Rch.tail (.refl a) s).trans y
theorem Rch.cases_head {h a b} (x : Rch h a b) : a = b ∨ ∃ c, Stp h a c ∧ Rch h c b := by
  induction x with
  | refl => exact .inl rfl
  | tail x s ih =>
    rcases ih with rfl | ⟨d, h1, h2⟩
    · exact .inr ⟨_, s, .refl _⟩
    · exact .inr ⟨d, h1, h2.tail s⟩
theorem Rch.cases_tail {h a b} (x : Rch h a b) : a = b ∨ ∃ c, Rch h a c ∧ Stp h c b := by
  cases x with
  | refl => exact .inl rfl
  | tail x s => exact .inr ⟨_, x, s⟩
/-- by at least one step -/
def RchP (h : List (List (Option Nat))) (a b : Nat) : Prop := ∃ c, Stp h a c ∧ Rch h c b
/-! what the searches find -/
theorem addW_keys (w f way) (x : Nat) : x ∈ keys (addW w f way) ↔ x ∈ keys w ∨ f = some x := by
  unfold addW
  cases f with
  | none => simp
  | some n =>
    simp only
    cases hk : w.lookup n with
    | none => simp [keys, eq_comm]
    | some l =>
      simp only [Option.isSome_some, if_true]
      constructor
      · exact .inl
      · rintro (h | h)
        · exact h
        · cases h
          unfold keys
          exact List.mem_map.mpr ⟨_, lookup_mem hk, rfl⟩
theorem addAll_keys (pre) (x : Nat) : ∀ (r : List (Option Nat)) (w : W) (i : Nat), x ∈ keys (addAll pre w i r) ↔ x ∈ keys w ∨ some x ∈ r
  | [], w, i => by simp [addAll]
  | f :: r, w, i => by
    rw [addAll, addAll_keys pre x r, addW_keys]
    simp only [List.mem_cons]
    constructor
    · rintro ((h | h) | h)
      · exact .inl h
      · exact .inr (.inl h.symm)
      · exact .inr (.inr h)
    · rintro (h | h | h)
      · exact .inl (.inl h)
      · exact .inl (.inr h.symm)
      · exact .inr h
theorem addW_pre (w f way) : w <+: addW w f way := by
  unfold addW
  cases f with
  | none => exact List.prefix_rfl
  | some n => simp only; split <;> first | exact List.prefix_rfl | exact List.prefix_append _ _
theorem addAll_pre (pre) : ∀ (r : List (Option Nat)) (w : W) (i : Nat), w <+: addAll pre w i r
  | [], w, i => List.prefix_rfl
  | f :: r, w, i => (addW_pre w f _).trans (addAll_pre pre r _ _)
theorem pre_get {α : Type} {l k : List α} (h : l <+: k) {i : Nat} {a : α} (e : l[i]? = some a) : k[i]? = some a := by
  obtain ⟨t, rfl⟩ := h
  rw [List.getElem?_append_left (List.getElem?_eq_some_iff.mp e).1, e]
/-- the loop's result: closed, and nothing but what is reachable -/
theorem wloop_spec (h : List (List (Option Nat))) (hh : OkH h) (r : List (Option Nat)) : ∀ (n a : Nat) (w : W), a + n = h.length + 1 → Inv h.length w → a ≤ w.length →
    (∀ x ∈ keys w, ∃ f, some f ∈ r ∧ Rch h f x) → (∀ i p, i < a → w[i]? = some p → ∀ y, Stp h p.1 y → y ∈ keys w) → 
    (∀ x ∈ keys (wloop h n a w), ∃ f, some f ∈ r ∧ Rch h f x) ∧ (∀ x ∈ keys (wloop h n a w), ∀ y, Stp h x y → y ∈ keys (wloop h n a w)) ∧ (∀ x ∈ keys w, x ∈ keys (wloop h n a w))
  | 0, a, w, h1, h2, h3, _, _ => by have := h2.le; omega
  | n + 1, a, w, h1, h2, h3, h4, h5 => by
    rw [wloop]
    cases hg : w[a]? with
    | none =>
      dsimp only
      refine ⟨h4, fun x hx y hy => ?_, fun x hx => hx⟩
      have hla : w.length ≤ a := List.getElem?_eq_none_iff.mp hg
      obtain ⟨p, hp, rfl⟩ := List.mem_map.mp hx
      obtain ⟨i, hi, e⟩ := List.getElem_of_mem hp
      exact h5 i p (by omega) (by rw [List.getElem?_eq_getElem hi, e]) y hy
    | some p =>
      dsimp only
      obtain ⟨here, pre⟩ := p
      have hm : (here, pre) ∈ w := List.mem_of_getElem? hg
      have hlt := (List.getElem?_eq_some_iff.mp hg).1
      have hhere : here < h.length := h2.lt _ hm
      have hlen := h2.len _ _ hg
      simp only at hlen
      obtain ⟨hc6, hcf⟩ := hh.cell hhere
      obtain ⟨i1, i2⟩ := h2.addAll (pre := pre) (r := cel h here) (k := 0) hcf (by omega)
      have hk : here ∈ keys w := List.mem_map.mpr ⟨_, hm, rfl⟩
      obtain ⟨s1, s2, s3⟩ := wloop_spec h hh r n (a + 1) (addAll pre w 0 (cel h here)) (by omega) i1 (by omega) (by
        intro x hx
        rcases (addAll_keys pre x _ _ _).mp hx with hx | hx
        · exact h4 x hx
        · obtain ⟨f, f1, f2⟩ := h4 here hk
          exact ⟨f, f1, f2.tail hx⟩) (by
        intro i q hi hq y hy
        apply (addAll_keys pre y _ _ _).mpr
        by_cases hia : i < a
        · have hil : i < w.length := by omega
          have e1 : w[i]? = some w[i] := List.getElem?_eq_getElem hil
          have e2 := pre_get (addAll_pre pre (cel h here) w 0) e1
          rw [hq] at e2
          cases e2
          exact .inl (h5 i _ hia e1 y hy)
        · have : i = a := by omega
          subst this
          have e2 := pre_get (addAll_pre pre (cel h here) w 0) hg
          rw [hq] at e2
          cases e2
          exact .inr hy)
      refine ⟨s1, s2, fun x hx => s3 x ((addAll_keys pre x _ _ _).mpr (.inl hx))⟩
theorem keys_ways (h r) (hh : OkH h) (hr : OkR h r) (x : Nat) : x ∈ keys (ways h r) ↔ ∃ f, some f ∈ r ∧ Rch h f x := by
  have i0 := (inv0 h.length).addAll (pre := []) (r := r) (k := 0) hr.2 (by simp)
  obtain ⟨s1, s2, s3⟩ := wloop_spec h hh r (h.length + 1) 0 (addAll [] [] 0 r) (by omega) i0.1 (by omega) (by
    intro x hx
    rcases (addAll_keys [] x _ _ _).mp hx with hx | hx
    · simp [keys] at hx
    · exact ⟨x, hx, .refl x⟩) (by intro i p hi; omega)
  refine ⟨s1 x, ?_⟩
  rintro ⟨f, hf, hx⟩
  have hf' := s3 f ((addAll_keys [] f _ _ _).mpr (.inr hf))
  induction hx with
  | refl => exact hf'
  | tail _ s ih => exact s2 _ ih _ s
end W58

set_option linter.all false
set_option maxRecDepth 100000
namespace W58
open MP PySem Mk58
theorem ledStep_mem (s f) (x : Nat) : x ∈ (ledStep s f).1 ↔ x ∈ s.1 ∨ f = some x := by
  unfold ledStep
  cases f with
  | none => simp
  | some n =>
    simp only
    split
    · rename_i hk
      have hk' : n ∈ s.1 := by simpa using hk
      constructor
      · exact .inl
      · rintro (h | h)
        · exact h
        · cases h; exact hk'
    · simp [eq_comm]
theorem ledStep_sub {s : KG} {f} (h : ∀ x ∈ s.1, x ∈ s.2) : ∀ x ∈ (ledStep s f).1, x ∈ (ledStep s f).2 := by
  unfold ledStep
  cases f with
  | none => exact h
  | some n =>
    simp only
    split
    · exact h
    · intro x hx
      simp at hx ⊢
      rcases hx with hx | rfl
      · exact .inl (h x hx)
      · exact .inr rfl
theorem ledFold_mem (x : Nat) : ∀ (r : List (Option Nat)) (s : KG), x ∈ (r.foldl ledStep s).1 ↔ x ∈ s.1 ∨ some x ∈ r
  | [], s => by simp
  | f :: r, s => by
    rw [List.foldl_cons, ledFold_mem x r, ledStep_mem, List.mem_cons]
    constructor
    · rintro ((h | h) | h)
      · exact .inl h
      · exact .inr (.inl h.symm)
      · exact .inr (.inr h)
    · rintro (h | h | h)
      · exact .inl (.inl h)
      · exact .inl (.inr h.symm)
      · exact .inr h
theorem ledFold_sub : ∀ (r : List (Option Nat)) (s : KG), (∀ x ∈ s.1, x ∈ s.2) → ∀ x ∈ (r.foldl ledStep s).1, x ∈ (r.foldl ledStep s).2
  | [], s, h => h
  | f :: r, s, h => ledFold_sub r _ (ledStep_sub h)
theorem ledLoop_spec (h : List (List (Option Nat))) (hh : OkH h) (B : List (Option Nat)) : ∀ (n a : Nat) (s : KG), a + n = h.length + 7 → InvL h.length s → a ≤ s.2.length → (∀ x ∈ s.1, x ∈ s.2) →
    (∀ x ∈ s.1, ∃ f, some f ∈ B ∧ Rch h f x) → (∀ i x, i < a → s.2[i]? = some x → ∀ y, Stp h x y → y ∈ s.1) →
    (∀ x ∈ (ledLoop h n a s).1, ∃ f, some f ∈ B ∧ Rch h f x) ∧ (∀ x ∈ (ledLoop h n a s).1, ∀ y, Stp h x y → y ∈ (ledLoop h n a s).1) ∧ (∀ x ∈ s.1, x ∈ (ledLoop h n a s).1)
  | 0, a, s, h1, h2, h3, _, _, _ => by
    have := nodup_len _ _ h2.set.1 h2.set.2
    have := h2.len
    omega
  | n + 1, a, s, h1, h2, h3, h4, h5, h6 => by
    rw [ledLoop]
    cases hg : s.2[a]? with
    | none =>
      dsimp only
      refine ⟨h5, fun x hx y hy => ?_, fun x hx => hx⟩
      have hla : s.2.length ≤ a := List.getElem?_eq_none_iff.mp hg
      obtain ⟨i, hi, e⟩ := List.getElem_of_mem (h4 x hx)
      exact h6 i x (by omega) (by rw [List.getElem?_eq_getElem hi, e]) y hy
    | some x0 =>
      dsimp only
      have hm := h2.sub x0 (List.mem_of_getElem? hg)
      have hx0 := h2.set.2 x0 hm
      have hlt := (List.getElem?_eq_some_iff.mp hg).1
      obtain ⟨hc6, hcf⟩ := hh.cell hx0
      have hpre := (ledFold_pre (cel h x0) s).length_le
      obtain ⟨s1, s2, s3⟩ := ledLoop_spec h hh B n (a + 1) ((cel h x0).foldl ledStep s) (by omega) (h2.fold hcf) (by omega) (ledFold_sub _ _ h4) (by
        intro x hx
        rcases (ledFold_mem x _ _).mp hx with hx | hx
        · exact h5 x hx
        · obtain ⟨f, f1, f2⟩ := h5 x0 hm
          exact ⟨f, f1, f2.tail hx⟩) (by
        intro i q hi hq y hy
        apply (ledFold_mem y _ _).mpr
        by_cases hia : i < a
        · have hil : i < s.2.length := by omega
          have e1 : s.2[i]? = some s.2[i] := List.getElem?_eq_getElem hil
          have e2 := pre_get (ledFold_pre (cel h x0) s) e1
          rw [hq] at e2
          cases e2
          exact .inl (h6 i _ hia e1 y hy)
        · have : i = a := by omega
          subst this
          have e2 := pre_get (ledFold_pre (cel h x0) s) hg
          rw [hq] at e2
          cases e2
          exact .inr hy)
      exact ⟨s1, s2, fun x hx => s3 x ((ledFold_mem x _ _).mpr (.inl hx))⟩
theorem somes_mem (c : List (Option Nat)) (x : Nat) : x ∈ somes c ↔ some x ∈ c := by unfold somes; simp
theorem led_mem {h} (hh : OkH h) {c : Nat} (hc : c < h.length) (x : Nat) : x ∈ ledL h c ↔ RchP h c x := by
  obtain ⟨h6, hcf⟩ := hh.cell hc
  obtain ⟨_, _, a3, a4⟩ := addN_set (n := h.length) (g := somes (cel h c)) (l := []) ⟨by simp, by simp⟩ (somes_ok hcf)
  have hmem : ∀ y, y ∈ (led0 (cel h c)).1 ↔ some y ∈ cel h c := fun y => by
    constructor
    · intro hy
      rcases a4 y hy with h | h
      · cases h
      · exact (somes_mem _ _).mp h
    · intro hy
      exact a3 y ((somes_mem _ _).mpr hy)
  obtain ⟨s1, s2, s3⟩ := ledLoop_spec h hh (cel h c) (h.length + 7) 0 (led0 (cel h c)) (by omega) (led0_inv h6 hcf) (by simp) (fun y hy => (somes_mem _ _).mpr ((hmem y).mp hy)) (fun y hy => ⟨y, (hmem y).mp hy, .refl y⟩) (by intro i p hi; omega)
  unfold ledL
  rw [sortN_mem]
  constructor
  · intro hx
    obtain ⟨f, f1, f2⟩ := s1 x hx
    exact ⟨f, f1, f2⟩
  · rintro ⟨f, f1, f2⟩
    have hf := s3 f ((hmem f).mpr f1)
    show x ∈ (ledLoop h (h.length + 7) 0 (led0 (cel h c))).1
    induction f2 with
    | refl => exact hf
    | tail _ s ih => exact s2 _ ih _ s
theorem rch_mem {h} (hh : OkH h) {c : Nat} (hc : c < h.length) (x : Nat) : x ∈ rch h c ↔ Rch h c x := by
  unfold rch
  rw [sortN_mem, keys_ways h [some c] hh ⟨by simp, by simp [OkF]; omega⟩]
  simp
theorem rch_asc {h} (hh : OkH h) {c : Nat} (hc : c < h.length) : (rch h c).Pairwise (· < ·) := sortN_asc (rch_inv hh hc).nd
theorem Rch.lt {h} (hh : OkH h) {a b} (x : Rch h a b) (ha : a < h.length) : b < h.length := by
  induction x with
  | refl => exact ha
  | tail _ s ih => exact (hh.cell ih).2 _ s _ rfl
theorem ringR_mem {h} (hh : OkH h) {c : Nat} (hc : c < h.length) (o : Nat) : o ∈ ringR h c ↔ Rch h c o ∧ Rch h o c := by
  unfold ringR
  rw [List.mem_filter, rch_mem hh hc]
  constructor
  · rintro ⟨h1, h2⟩
    exact ⟨h1, (rch_mem hh (h1.lt hh hc) c).mp (by simpa using h2)⟩
  · rintro ⟨h1, h2⟩
    exact ⟨h1, by simpa using (rch_mem hh (h1.lt hh hc) c).mpr h2⟩
theorem lawRing_mem {h} (hh : OkH h) {c : Nat} (hc : c < h.length) (o : Nat) : o ∈ lawRing h c ↔ RchP h c o ∧ RchP h o c := by
  unfold lawRing
  rw [List.mem_filter, sortN_mem, led_mem hh hc]
  have lt : ∀ {o}, RchP h c o → o < h.length := by
    rintro o ⟨d, h1, h2⟩
    exact h2.lt hh ((hh.cell hc).2 _ h1 _ rfl)
  constructor
  · rintro ⟨h1, h2⟩
    exact ⟨h1, (led_mem hh (lt h1) c).mp (by simpa using h2)⟩
  · rintro ⟨h1, h2⟩
    exact ⟨h1, by simpa using (led_mem hh (lt h1) c).mpr h2⟩
theorem RchP.of_ne {h a b} (x : Rch h a b) (n : a ≠ b) : RchP h a b := by
  rcases x.cases_head with e | ⟨c, s, y⟩
  · exact absurd e n
  · exact ⟨c, s, y⟩
theorem RchP.rch {h a b} : RchP h a b → Rch h a b := fun ⟨_, s, y⟩ => y.head s
theorem two_of {l : List Nat} (h : 1 < l.length) (hd : l.Nodup) (c : Nat) : ∃ o ∈ l, o ≠ c := by
  match l, h with
  | a :: b :: l, _ =>
    by_cases e : a = c
    · refine ⟨b, by simp, ?_⟩
      have := (List.nodup_cons.mp hd).1
      rintro rfl
      apply this
      simp [e]
    · exact ⟨a, by simp, e⟩
theorem len_of {l : List Nat} {a b : Nat} (ha : a ∈ l) (hb : b ∈ l) (n : a ≠ b) : 1 < l.length := by
  match l, ha, hb with
  | [x], ha, hb => simp at ha hb; omega
  | x :: y :: l, _, _ => simp
theorem ringStep_eq {h} (hh : OkH h) {c : Nat} (hc : c < h.length) (ks) : ringStep h ks c = lringStep h ks c := by
  have hd : (ringR h c).Nodup := asc_nodup ((rch_asc hh hc).sublist List.filter_sublist)
  unfold ringStep lringStep
  by_cases hp : RchP h c c
  · have c1 : (ledL h c).contains c = true := by simpa using (led_mem hh hc c).mpr hp
    have c2 : (decide (1 < (ringR h c).length) || (cel h c).contains (some c)) = true := by
      obtain ⟨d, s, y⟩ := hp
      by_cases e : d = c
      · subst e
        have : (cel h d).contains (some d) = true := by simpa [Stp] using s
        rw [this]; simp
      · have : 1 < (ringR h c).length := len_of ((ringR_mem hh hc d).mpr ⟨(Rch.refl c).tail s, y⟩) ((ringR_mem hh hc c).mpr ⟨.refl c, .refl c⟩) e
        simp [this]
    have c3 : ringR h c = lawRing h c := by
      apply asc_ext
      · exact (rch_asc hh hc).sublist List.filter_sublist
      · exact (sortN_asc (asc_nodup (ledL_set hh hc).1)).sublist List.filter_sublist
      · intro o
        rw [ringR_mem hh hc, lawRing_mem hh hc]
        constructor
        · rintro ⟨h1, h2⟩
          by_cases e : c = o
          · subst e; exact ⟨hp, hp⟩
          · exact ⟨.of_ne h1 e, .of_ne h2 (Ne.symm e)⟩
        · rintro ⟨h1, h2⟩
          exact ⟨h1.rch, h2.rch⟩
    rw [c1, c2, c3]
  · have c1 : (ledL h c).contains c = false := by
      cases e : (ledL h c).contains c with
      | false => rfl
      | true => exact absurd ((led_mem hh hc c).mp (by simpa using e)) hp
    have c2 : (decide (1 < (ringR h c).length) || (cel h c).contains (some c)) = false := by
      cases e : (decide (1 < (ringR h c).length) || (cel h c).contains (some c)) with
      | false => rfl
      | true =>
        exfalso
        apply hp
        rw [Bool.or_eq_true] at e
        rcases e with e | e
        · obtain ⟨o, ho, hne⟩ := two_of (by simpa using e) hd c
          obtain ⟨h1, h2⟩ := (ringR_mem hh hc o).mp ho
          obtain ⟨d, s, y⟩ := RchP.of_ne h1 (Ne.symm hne)
          exact ⟨d, s, y.trans h2⟩
        · exact ⟨c, by simpa [Stp] using e, .refl c⟩
    rw [c1, c2]
    rfl
theorem ringKeys_eq {h} (hh : OkH h) : ringKeys h = lringKeys h := by
  unfold ringKeys lringKeys
  have : ∀ (cs : List Nat) (ks), (∀ c ∈ cs, c < h.length) → cs.foldl (ringStep h) ks = cs.foldl (lringStep h) ks := by
    intro cs
    induction cs with
    | nil => intro ks _; rfl
    | cons c cs ih =>
      intro ks hcs
      rw [List.foldl_cons, List.foldl_cons, ringStep_eq hh (hcs c (by simp))]
      exact ih _ fun x hx => hcs x (by simp [hx])
  exact this _ _ (by simp)
/-! what leads to a cell -/
def Closed (h : List (List (Option Nat))) (l : List Nat) : Prop := ∀ o, o < h.length → frs h l o = false
theorem inN_iff (l : List Nat) (f : Option Nat) : inN l f = true ↔ ∃ n, f = some n ∧ n ∈ l := by
  cases f <;> simp [inN]
theorem closed_mem {h : List (List (Option Nat))} (hh : OkH h) {l : List Nat} {c : Nat} (hl : Closed h l) (hc : c ∈ l) (hs : ∀ x ∈ l, x < h.length) : ∀ {x}, x < h.length → Rch h x c → x ∈ l := by
  intro x hx r
  have key : ∀ {a b}, Rch h a b → a < h.length → b ∈ l → a ∈ l := by
    intro a b r
    induction r with
    | refl => intro _ h; exact h
    | tail r s ih =>
      intro ha hb
      apply ih ha
      rename_i b' c'
      have hb' := r.lt hh ha
      have := hl b' hb'
      unfold frs at this
      cases hm : l.contains b' with
      | true => simpa using hm
      | false =>
        rw [hm] at this
        simp at this
        have h1 := this _ s
        rw [← Bool.not_eq_true] at h1
        exact absurd ((inN_iff l _).mpr ⟨_, rfl, hb⟩) h1
  exact key r hx hc
theorem lfStep_sub {h l o x} (hx : x ∈ l) : x ∈ lfStep h l o := by unfold lfStep; split <;> simp [hx]
theorem lfFold_sub {h x} : ∀ {os l : List Nat}, x ∈ l → x ∈ os.foldl (lfStep h) l
  | [], l, hx => hx
  | o :: os, l, hx => lfFold_sub (os := os) (lfStep_sub hx)
theorem lfStep_rch {h c l o} (hl : ∀ x ∈ l, Rch h x c) : ∀ x ∈ lfStep h l o, Rch h x c := by
  unfold lfStep
  split
  · rename_i hf
    unfold frs at hf
    rw [Bool.and_eq_true] at hf
    intro x hx
    simp at hx
    rcases hx with hx | rfl
    · exact hl x hx
    · obtain ⟨f, f1, f2⟩ := List.any_eq_true.mp hf.2
      obtain ⟨n, rfl, hn⟩ := (inN_iff l f).mp f2
      exact (hl n hn).head f1
  · exact hl
theorem lfFold_rch {h c} : ∀ {os l : List Nat}, (∀ x ∈ l, Rch h x c) → ∀ x ∈ os.foldl (lfStep h) l, Rch h x c
  | [], l, hl => hl
  | o :: os, l, hl => lfFold_rch (os := os) (lfStep_rch hl)
theorem lfFold_same {h} : ∀ {os l : List Nat}, (os.foldl (lfStep h) l).length = l.length → os.foldl (lfStep h) l = l ∧ ∀ o ∈ os, frs h l o = false
  | [], l, _ => ⟨rfl, by simp⟩
  | o :: os, l, e => by
    rw [List.foldl_cons] at e ⊢
    have h1 := lfFold_len h os (lfStep h l o)
    cases hf : frs h l o with
    | true =>
      have : (lfStep h l o).length = l.length + 1 := by unfold lfStep; rw [hf]; simp
      omega
    | false =>
      have e0 : lfStep h l o = l := by unfold lfStep; rw [hf]; rfl
      rw [e0] at e ⊢
      obtain ⟨i1, i2⟩ := lfFold_same e
      exact ⟨i1, fun x hx => by
        rcases List.mem_cons.mp hx with rfl | hx
        · exact hf
        · exact i2 x hx⟩
theorem lfLoop_spec {h : List (List (Option Nat))} {c : Nat} : ∀ (n : Nat) (l : List Nat), h.length + 1 ≤ n + l.length → BSet h.length l → c ∈ l → (∀ x ∈ l, Rch h x c) →
    Closed h (lfLoop h n l) ∧ c ∈ lfLoop h n l ∧ (∀ x ∈ lfLoop h n l, Rch h x c) ∧ BSet h.length (lfLoop h n l)
  | 0, l, h1, h2, _, _ => by have := nodup_len _ _ h2.1 h2.2; omega
  | n + 1, l, h1, h2, h3, h4 => by
    rw [lfLoop]
    split
    · rename_i e
      obtain ⟨e1, e2⟩ := lfFold_same e
      rw [e1]
      exact ⟨fun o ho => e2 o (by simpa using ho), h3, h4, h2⟩
    · rename_i e
      have := lfFold_len h (List.range h.length) l
      exact lfLoop_spec n _ (by omega) (lfFold_set h2 (by simp)) (lfFold_sub h3) (lfFold_rch h4)
theorem least_spec {h} (hh : OkH h) {c : Nat} (hc : c < h.length) : BSet h.length (leastF h c) ∧ ∀ x, x ∈ leastF h c ↔ x < h.length ∧ Rch h x c := by
  obtain ⟨a1, a2, a3, a4⟩ := lfLoop_spec (h := h) (c := c) (h.length + 1) [c] (by simp) ⟨by simp, by simpa using hc⟩ (by simp) (by simp; exact .refl c)
  exact ⟨a4, fun x => ⟨fun hx => ⟨a4.2 x hx, a3 x hx⟩, fun ⟨h1, h2⟩ => closed_mem hh a1 a2 a4.2 h1 h2⟩⟩
theorem behLoop_spec {h : List (List (Option Nat))} {c : Nat} : ∀ (n : Nat) (l : List Nat), h.length + 1 ≤ n + l.length → BSet h.length l → c ∈ l → (∀ x ∈ l, Rch h x c) →
    Closed h (behLoop h n l) ∧ c ∈ behLoop h n l ∧ (∀ x ∈ behLoop h n l, Rch h x c) ∧ BSet h.length (behLoop h n l)
  | 0, l, h1, h2, _, _ => by have := nodup_len _ _ h2.1 h2.2; omega
  | n + 1, l, h1, h2, h3, h4 => by
    rw [behLoop]
    cases he : (fresh h l).isEmpty with
    | true =>
      simp only [if_true]
      refine ⟨fun o ho => ?_, h3, h4, h2⟩
      have : fresh h l = [] := by simpa using he
      unfold fresh at this
      rw [List.filter_eq_nil_iff] at this
      have := this o (by simpa using ho)
      simpa using this
    | false =>
      simp only [Bool.false_eq_true, if_false]
      obtain ⟨i1, i2, i3, i4⟩ := addN_set (g := fresh h l) h2 fresh_lt
      have hnd : (l ++ fresh h l).Nodup := by
        rw [List.nodup_append]
        refine ⟨h2.1, fresh_nd h l, ?_⟩
        intro a ha b hb
        unfold fresh at hb
        have := (List.mem_filter.mp hb).2
        unfold frs at this
        simp at this
        rintro rfl
        exact this.1 ha
      have el := addN_id _ _ hnd
      refine behLoop_spec n _ ?_ i1 (i2 c h3) (fun x hx => ?_)
      · rw [el, List.length_append]
        have : (fresh h l) ≠ [] := by intro e; rw [e] at he; cases he
        have := List.length_pos_iff.mpr this
        omega
      · rcases i4 x hx with hx | hx
        · exact h4 x hx
        · unfold fresh at hx
          have := (List.mem_filter.mp hx).2
          unfold frs at this
          rw [Bool.and_eq_true] at this
          obtain ⟨f, f1, f2⟩ := List.any_eq_true.mp this.2
          obtain ⟨m, rfl, hm⟩ := (inN_iff l f).mp f2
          exact (h4 m hm).head f1
theorem beh_spec {h} (hh : OkH h) {c : Nat} (hc : c < h.length) : BSet h.length (behF h c) ∧ ∀ x, x ∈ behF h c ↔ x < h.length ∧ Rch h x c := by
  obtain ⟨a1, a2, a3, a4⟩ := behLoop_spec (h := h) (c := c) h.length [c] (by simp) ⟨by simp, by simpa using hc⟩ (by simp) (by simp; exact .refl c)
  exact ⟨a4, fun x => ⟨fun hx => ⟨a4.2 x hx, a3 x hx⟩, fun ⟨h1, h2⟩ => closed_mem hh a1 a2 a4.2 h1 h2⟩⟩
theorem least_beh {h} (hh : OkH h) {c : Nat} (hc : c < h.length) : sortN (leastF h c) = sortN (behF h c) := by
  obtain ⟨a1, a2⟩ := least_spec hh hc
  obtain ⟨b1, b2⟩ := beh_spec hh hc
  apply asc_ext (sortN_asc a1.1) (sortN_asc b1.1)
  intro x
  rw [sortN_mem, sortN_mem, a2, b2]
theorem inN_sort (l : List Nat) : inN (sortN l) = inN l := by
  funext f
  rw [Bool.eq_iff_iff, inN_iff, inN_iff]
  simp [sortN_mem]
theorem inN_least {h} (hh : OkH h) {c : Nat} (hc : c < h.length) : inN (leastF h c) = inN (sortN (behF h c)) := by
  rw [← inN_sort, least_beh hh hc]
/-! counts -/
theorem sum_insN (f : Nat → Nat) (x : Nat) : ∀ l : List Nat, ((insN x l).map f).sum = f x + (l.map f).sum
  | [] => by simp [insN]
  | y :: l => by
    unfold insN
    split
    · simp [sum_insN f x l]; omega
    · simp
theorem sum_sortN (f : Nat → Nat) : ∀ l : List Nat, ((sortN l).map f).sum = (l.map f).sum
  | [] => rfl
  | x :: l => by rw [sortN, sum_insN, sum_sortN f l]; simp
theorem countW_eq (h r) (cell : Nat) : countW h r cell = r.countP (· == some cell) + (((sortN (keys (ways h r))).map fun k => (cel h k).countP (· == some cell)).sum) := by
  rw [sum_sortN]
  unfold countW
  rw [List.countP_eq_length_filter]
  congr 1
  generalize ways h r = w
  induction w with
  | nil => rfl
  | cons p w ih => simp [keys, List.countP_eq_length_filter] at ih ⊢; omega
end W58

set_option linter.all false
set_option maxRecDepth 100000
namespace W58
open MP PySem Mk58
theorem wgts_le {f : D → Nat} {b : Nat} : ∀ {l : List D}, (∀ d ∈ l, f d ≤ b) → wgt.wgts f l ≤ (b + 1) * l.length
  | [], _ => by simp [wgt.wgts]
  | d :: l, h => by
    have h1 := h d (by simp)
    have h2 := wgts_le (f := f) (b := b) (l := l) fun x hx => h x (by simp [hx])
    simp only [wgt.wgts, List.length_cons, Nat.mul_add]
    omega
theorem wgt_int {n : Nat} {i : Int} (h0 : -1000000 ≤ i) (h1 : i ≤ 1000000) : wgt (n+1) (.int i) = 70 := by
  show (if small64 i = true then 70 else 1000000) = 70
  rw [if_pos (by unfold small64; simp; omega)]
theorem wgt_encN {n : Nat} {l : List Nat} (h : ∀ x ∈ l, x ≤ 1000000) : wgt (n+2) (encN l) ≤ 71 * l.length := by
  show wgt.wgts (wgt (n+1)) (nints l) ≤ _
  have := wgts_le (f := wgt (n+1)) (b := 70) (l := nints l) (by
    intro d hd
    obtain ⟨x, hx, rfl⟩ := List.mem_map.mp hd
    rw [wgt_int (by omega) (by have := h x hx; omega)]
    exact Nat.le_refl _)
  simpa using this
theorem isortD_len : ∀ l : List D, (isortD l).length = l.length := by
  have ins : ∀ (x : D) (l : List D), (insD x l).length = l.length + 1 := by
    intro x l
    induction l with
    | nil => rfl
    | cons y l ih => unfold insD; split <;> simp [ih]
  intro l
  induction l with
  | nil => rfl
  | cons x l ih => rw [isortD, ins, ih]; rfl
def Small (k : List Nat) : Prop := k.length ≤ 40 ∧ ∀ x ∈ k, x ≤ 1000000
theorem ringKeys_small {h} (hh : OkH h) : ∀ (cs : List Nat) (ks : List (List Nat)), (∀ c ∈ cs, c < h.length) → (∀ k ∈ ks, Small k) → (∀ k ∈ cs.foldl (ringStep h) ks, Small k) ∧ (cs.foldl (ringStep h) ks).length ≤ ks.length + cs.length
  | [], ks, _, hk => ⟨hk, by simp⟩
  | c :: cs, ks, hc, hk => by
    have hc' := hc c (by simp)
    have hs : Small (ringR h c) := by
      have h1 := rch_len hh hc'
      have h2 := hh.1
      refine ⟨?_, fun x hx => ?_⟩
      · have := List.length_filter_le (fun o => (rch h o).contains c) (rch h c)
        show ((rch h c).filter _).length ≤ 40
        omega
      · have := rch_lt hh hc' x (List.mem_filter.mp hx).1
        omega
    have key : (∀ k ∈ ringStep h ks c, Small k) ∧ (ringStep h ks c).length ≤ ks.length + 1 := by
      unfold ringStep
      split
      · refine ⟨?_, addT_len _ _⟩
        unfold addT
        split
        · exact hk
        · intro k hkk
          simp at hkk
          rcases hkk with hkk | rfl
          · exact hk k hkk
          · exact hs
      · exact ⟨hk, by omega⟩
    obtain ⟨i1, i2⟩ := ringKeys_small hh cs _ (fun x hx => hc x (by simp [hx])) key.1
    refine ⟨i1, ?_⟩
    rw [List.foldl_cons, List.length_cons]
    have := key.2
    omega
theorem pure_rings (ks : List (List Nat)) (n) : isPure (n+3) (encRings ks) = true := by
  unfold encRings
  rw [xpure_tup, List.all_eq_true]
  intro d hd
  obtain ⟨k, _, rfl⟩ := List.mem_map.mp (isortD_mem hd)
  simp
theorem wgt_rings {ks : List (List Nat)} (h : ∀ k ∈ ks, Small k) (hl : ks.length ≤ 40) (n) : wgt (n+3) (encRings ks) ≤ 113640 := by
  show wgt.wgts (wgt (n+2)) (isortD (ks.map encN)) ≤ _
  have := wgts_le (f := wgt (n+2)) (b := 2840) (l := isortD (ks.map encN)) (by
    intro d hd
    obtain ⟨k, hk, rfl⟩ := List.mem_map.mp (isortD_mem hd)
    have h1 := wgt_encN (n := n) (l := k) (h k hk).2
    have h2 := (h k hk).1
    omega)
  rw [isortD_len, List.length_map] at this
  have : (2840 + 1) * ks.length ≤ 2841 * 40 := Nat.mul_le_mul_left _ hl
  omega
/-- depths -/
def depD (w : W) (c : Nat) : D := match w.lookup c with | some l => .int ((l.length : Int) - 1) | none => .non
theorem depD_wgt {w : W} (hw : Inv 40 w) (c n) : wgt (n+1) (depD w c) ≤ 70 := by
  unfold depD
  cases e : w.lookup c with
  | none => simp [wgt]
  | some l =>
    have hm := lookup_mem e
    obtain ⟨i, hi, e2⟩ := List.getElem_of_mem hm
    have := hw.len i (c, l) (by rw [List.getElem?_eq_getElem hi, e2])
    have := hw.le
    simp only at *
    rw [wgt_int (by omega) (by omega)]
    exact Nat.le_refl _
theorem depD_pure (w : W) (c n) : isPure (n+1) (depD w c) = true := by
  unfold depD
  cases w.lookup c <;> rfl
theorem same1 {k} (hk : 1 ≤ k) (ms S) {h : List (List (Option Nat))} {r : List (Option Nat)} (hh : OkH h) (h40 : h.length = 40) (hr : OkR h r) :
    callK prg k 22 [.lst [encN (sortN (keys (ways h r))), encN (outW h.length (ways h r)), .tup ((List.range h.length).map (depD (ways h r))), encRings (ringKeys h)], .lst [encN (sortN (keys (ways h r))), encN (outW h.length (ways h r)), .tup ((List.range h.length).map (depD (ways h r))), encRings (ringKeys h)]] ms S = .ok (.bl true) S := by
  have hw := ways_inv h r hh hr
  have hwl := hw.le
  obtain ⟨r1, r2⟩ := ringKeys_small hh (List.range h.length) [] (by simp) (by simp)
  have q1 : wgt 59 (encN (sortN (keys (ways h r)))) ≤ 2840 := by
    have : wgt 59 (encN (sortN (keys (ways h r)))) ≤ 71 * (sortN (keys (ways h r))).length := wgt_encN (n := 57) (l := sortN (keys (ways h r))) (by
      intro x hx
      rw [sortN_mem] at hx
      obtain ⟨p, hp, rfl⟩ := List.mem_map.mp hx
      have := hw.lt p hp
      omega)
    rw [sortN_len] at this
    have h2 : (keys (ways h r)).length ≤ 40 := by simp [keys]; omega
    omega
  have q2 : wgt 59 (encN (outW h.length (ways h r))) ≤ 2840 := by
    have hs := outW_set h.length (ways h r)
    have : wgt 59 (encN (outW h.length (ways h r))) ≤ 71 * (outW h.length (ways h r)).length := wgt_encN (n := 57) (l := outW h.length (ways h r)) (fun x hx => by have := hs.2 x hx; omega)
    have := hs.len
    omega
  have q3 : wgt 59 (.tup ((List.range h.length).map (depD (ways h r)))) ≤ 2840 := by
    show wgt.wgts (wgt 58) _ ≤ _
    have := wgts_le (f := wgt 58) (b := 70) (l := (List.range h.length).map (depD (ways h r))) (by
      intro d hd
      obtain ⟨c, _, rfl⟩ := List.mem_map.mp hd
      exact depD_wgt (h40 ▸ hw) c 57)
    simp [h40] at this
    simpa [h40] using this
  have q4 : wgt 59 (encRings (ringKeys h)) ≤ 113640 := wgt_rings r1 (by simp only [List.length_nil, List.length_range] at r2; omega) 56
  refine law_same' hk ms S _ ?_ ?_
  · simp [pure_rings, depD_pure]
  · unfold fitsD
    rw [decide_eq_true_eq, deep_eq]
    show wgt 59 _ + 1 + (wgt 59 _ + 1 + (wgt 59 _ + 1 + (wgt 59 _ + 1 + 0))) ≤ 200000
    omega
/-- what judge_cell says -/
def judD (h : List (List (Option Nat))) (r : List (Option Nat)) (c : Nat) : D := match (ways h r).lookup c with
    | some way => .tup [.str "way", encN way]
    | none => .tup [.str "free", encN (outW h.length (ways h r))]
theorem way_ok {h r} (hh : OkH h) (hr : OkR h r) {c way} (e : (ways h r).lookup c = some way) : way ≠ [] ∧ way.length ≤ 40 := by
  have hw := ways_inv h r hh hr
  have hm := lookup_mem e
  obtain ⟨i, hi, e2⟩ := List.getElem_of_mem hm
  have := hw.len i (c, way) (by rw [List.getElem?_eq_getElem hi, e2])
  have := hw.le
  have := hh.1
  exact ⟨hw.ne _ hm, by simp only at *; omega⟩
/-- the numbers on a way -/
theorem addAll_small {b : Nat} {pre : List Nat} (hp : ∀ x ∈ pre, x ≤ b) : ∀ {r : List (Option Nat)} {w : W} {k : Nat}, (∀ p ∈ w, ∀ x ∈ p.2, x ≤ b) → k + r.length ≤ b + 1 → ∀ p ∈ addAll pre w k r, ∀ x ∈ p.2, x ≤ b
  | [], w, k, hw, _ => hw
  | f :: r, w, k, hw, hk => by
    simp only [List.length_cons] at hk
    refine addAll_small hp (r := r) ?_ (by omega)
    unfold addW
    cases f with
    | none => exact hw
    | some n =>
      simp only
      split
      · exact hw
      · intro p hpm x hx
        rcases List.mem_append.mp hpm with h | h
        · exact hw p h x hx
        · simp at h
          subst h
          simp at hx
          rcases hx with hx | rfl
          · exact hp x hx
          · omega
theorem ways_small {h r} (hh : OkH h) (hr : OkR h r) : ∀ p ∈ ways h r, ∀ x ∈ p.2, x ≤ 100 := by
  have i0 := (inv0 h.length).addAll (pre := []) (r := r) (k := 0) hr.2 (by simp)
  have b0 := addAll_small (b := 100) (pre := []) (by simp) (r := r) (w := []) (k := 0) (by simp) (by have := hr.1; omega)
  have key : ∀ (n a : Nat) (w : W), Inv h.length w → (∀ p ∈ w, ∀ x ∈ p.2, x ≤ 100) → ∀ p ∈ wloop h n a w, ∀ x ∈ p.2, x ≤ 100 := by
    intro n
    induction n with
    | zero => intro a w _ hw; exact hw
    | succ n ih =>
      intro a w hi hw
      rw [wloop]
      cases hg : w[a]? with
      | none => exact hw
      | some p =>
        have hm := List.mem_of_getElem? hg
        obtain ⟨c6, cf⟩ := hh.cell (hi.lt p hm)
        have hlen := hi.len _ _ hg
        have hlt := (List.getElem?_eq_some_iff.mp hg).1
        exact ih _ _ (hi.addAll (pre := p.2) (r := cel h p.1) (k := 0) cf (by omega)).1 (addAll_small (hw p hm) (r := cel h p.1) hw (by omega))
  exact key _ _ _ i0.1 b0
end W58

set_option linter.all false
set_option maxRecDepth 100000
namespace W58
open MP PySem Mk58
theorem judD_eq (h r c) : judD h r c = (match (ways h r).lookup c with
    | some way => D.tup [.str "way", encN way]
    | none => .tup [.str "free", encN (outW h.length (ways h r))]) := rfl
theorem judD_pure (h r c n) : isPure (n+3) (judD h r c) = true := by
  have p1 : isPure (n+2) (D.str "way") = true := by
    show (("way" : Str).cps.all (· < 0x110000)) = true
    decide +kernel
  have p2 : isPure (n+2) (D.str "free") = true := by
    show (("free" : Str).cps.all (· < 0x110000)) = true
    decide +kernel
  unfold judD
  cases (ways h r).lookup c with
  | none => simp [p2]
  | some way => simp [p1]
theorem judD_wgt {h r} (hh : OkH h) (hr : OkR h r) (c n) : wgt (n+4) (judD h r c) ≤ 3000 := by
  have hhl := hh.1
  unfold judD
  cases e : (ways h r).lookup c with
  | none =>
    show wgt (n+3) (.str "free") + 1 + (wgt (n+3) (encN _) + 1 + 0) ≤ 3000
    have h1 : wgt (n+3) (.str "free") = 4 := by
      show ("free" : Str).cps.size = 4
      decide +kernel
    have hs := outW_set h.length (ways h r)
    have h2 : wgt (n+3) (encN (outW h.length (ways h r))) ≤ 71 * _ := wgt_encN (n := n+1) (fun x hx => by have := hs.2 x hx; omega)
    have := hs.len
    omega
  | some way =>
    show wgt (n+3) (.str "way") + 1 + (wgt (n+3) (encN _) + 1 + 0) ≤ 3000
    have h1 : wgt (n+3) (.str "way") = 3 := by
      show ("way" : Str).cps.size = 3
      decide +kernel
    have hw := way_ok hh hr e
    have hm := lookup_mem e
    have h2 : wgt (n+3) (encN way) ≤ 71 * _ := wgt_encN (n := n+1) (fun x hx => by have := ways_small hh hr _ hm x hx; omega)
    omega
theorem flat_cp (h : List (List (Option Nat))) (hh : OkH h) (c : Nat) : ∀ (ks : List Nat), (∀ k ∈ ks, k < h.length) → (ks.map fun k => (cel h k).countP (· == some c)).sum ≤ 6 * ks.length
  | [], _ => by simp
  | k :: ks, hk => by
    have h1 := (hh.cell (hk k (by simp))).1
    have h2 : (cel h k).countP (· == some c) ≤ (cel h k).length := List.countP_le_length
    have h3 := flat_cp h hh c ks fun x hx => hk x (by simp [hx])
    simp only [List.map_cons, List.sum_cons, List.length_cons]
    omega
theorem keys_lt {h r} (hh : OkH h) (hr : OkR h r) : ∀ k ∈ keys (ways h r), k < h.length := by
  intro k hk
  obtain ⟨p, hp, rfl⟩ := List.mem_map.mp hk
  exact (ways_inv h r hh hr).lt p hp
theorem countW_small {h r} (hh : OkH h) (hr : OkR h r) (c : Nat) : countW h r c ≤ 1000 := by
  rw [countW_eq, sum_sortN]
  have h1 := flat_cp h hh c (keys (ways h r)) (keys_lt hh hr)
  have h2 := (ways_inv h r hh hr).le
  have h3 : r.countP (· == some c) ≤ r.length := List.countP_le_length
  have h4 := hr.1
  have h5 := hh.1
  have h6 : (keys (ways h r)).length = (ways h r).length := by simp [keys]
  omega
theorem encO_pure (o n) : isPure (n+2) (encO o) = true := by cases o <;> simp [encO]
theorem same2 {k} (hk : 1 ≤ k) (ms S) {h : List (List (Option Nat))} {r : List (Option Nat)} (hh : OkH h) (hr : OkR h r) (c : Nat) (hc : c < h.length) :
    callK prg k 22 [.lst [judD h r c, encO (if r.any (inN (sortN (behF h c))) then none else some (sortN (behF h c))), .int (countW h r c : Nat)], .lst [judD h r c, encO (if r.any (inN (sortN (behF h c))) then none else some (sortN (behF h c))), .int (countW h r c : Nat)]] ms S = .ok (.bl true) S := by
  have q1 : wgt 59 (judD h r c) ≤ 3000 := judD_wgt hh hr c 55
  have hs := beh_set hh hc
  have hhl := hh.1
  have q2 : wgt 59 (encO (if r.any (inN (sortN (behF h c))) then none else some (sortN (behF h c)))) ≤ 3000 := by
    split
    · simp [encO, wgt]
    · have h2 : wgt 59 (encN (sortN (behF h c))) ≤ 71 * _ := wgt_encN (n := 57) (fun x hx => by have := hs.2 x hx; omega)
      have := hs.len
      show wgt 59 (encN _) ≤ _
      omega
  have q3 : wgt 59 (.int (countW h r c : Nat)) = 70 := wgt_int (by omega) (by have := countW_small hh hr c; omega)
  refine law_same' hk ms S _ ?_ ?_
  · simp [judD_pure, encO_pure]
  · unfold fitsD
    rw [decide_eq_true_eq, deep_eq]
    show wgt 59 _ + 1 + (wgt 59 _ + 1 + (wgt 59 _ + 1 + 0)) ≤ 200000
    omega
theorem cnt_R (ms S r) (c : Nat) : bmop ms S .count (encR r) [.int c] = .ok (.int (r.countP (· == some c) : Nat)) S := by
  show (match cntOf S (encR r) with | some l => if isPure deep (.int c) && l.all (isPure deep) then R.ok (D.int (l.countP fun y => eqD deep y (D.int c))) S else .bad | none => .bad) = _
  have : cntOf S (encR r) = some (r.map encF) := rfl
  rw [this]
  simp [List.countP_map, Function.comp_def]
theorem cnt_C (ms S r) (c : Nat) : bmop ms S .count (encC r) [.int c] = .ok (.int (r.countP (· == some c) : Nat)) S := cnt_R ms S r c
@[simp] theorem co_R (S r) : cntOf S (encR r) = some (r.map encF) := Eq.trans rfl rfl
@[simp] theorem co_C (S r) : cntOf S (encC r) = some (r.map encF) := Eq.trans rfl rfl
@[simp] theorem cok_R (S r) : bmOk S .count (encR r) = true := Eq.trans rfl rfl
@[simp] theorem cok_C (S r) : bmOk S .count (encC r) = true := Eq.trans rfl rfl
@[simp] theorem gok_W (S w) : bmOk S .get (encW w) = true := by rw [bmOk_get, dc_encW]; rfl
def getD (w : W) (c : Nat) : D := match w.lookup c with | none => .non | some l => encN l
theorem get_W (ms S w) (c : Nat) : bmop ms S .get (encW w) [.int c, .non] = .ok (getD w c) S := by
  unfold getD
  rw [xbm_get, dc_encW]
  simp [findK_enc]
  cases w.lookup c <;> rfl
theorem flds_of : ∀ {l : List D}, (∀ x ∈ l, FldV x) → ∃ r : List (Option Nat), l = r.map encF ∧ r.length = l.length ∧ ∀ f ∈ r, OkF 40 f
  | [], _ => ⟨[], rfl, rfl, by simp⟩
  | d :: l, h => by
    obtain ⟨f, rfl, hf⟩ := h d (by simp)
    obtain ⟨r, rfl, h2, h3⟩ := flds_of (l := l) fun x hx => h x (by simp [hx])
    refine ⟨f :: r, rfl, by simp, ?_⟩
    intro x hx
    rcases List.mem_cons.mp hx with rfl | hx
    · exact hf
    · exact h3 x hx
def lawb : List MP.St := [.asg (.p (.v 9)) (.ite (.cmp .isin (.var 8) (.var 4)) (.tup [.con (.str "way"), .ix (.var 4) (.var 8)]) (.tup [.con (.str "free"), .var 6])), .asg (.p (.v 10)) (.call 27 [.var 2, .var 8]), .asg (.p (.v 11)) (.ite (.comp false (.var 14) (.v 14) (.var 3) [.cmp .isin (.var 14) (.var 10)] [14]) (.con .non) (.var 10)), .asg (.p (.v 12)) (.bin .add (.bm .count (.var 3) [.var 8]) (.bi false .sum [.comp false (.bm .count (.ix (.var 2) (.var 13)) [.var 8]) (.v 13) (.var 5) [] [13]])), .ite (.not (.call 22 [.lst false [.call 11 [.var 2, .var 3, .var 8], .call 15 [.var 2, .var 3, .var 8], .call 16 [.var 2, .var 3, .var 8]], .lst false [.var 9, .var 11, .var 12]])) [.ret (.con (.bl false))] [], .ite (.not (.call 32 [.var 1, .var 2, .var 3, .var 8, .bm .get (.var 4) [.var 8, .con .non], .var 6])) [.ret (.con (.bl false))] []]
theorem law_for {k} (hk : 8 ≤ k) (ms) {n m : Nat} {h : List (List (Option Nat))} {r : List (Option Nat)} (hh : OkH h) (h40 : h.length = 40) (hr : OkR h r) (a0 a7 : Option D) : ∀ (cs : List Nat) (S : Sto) (a8 a9 a10 a11 a12 : Option D), (∀ c ∈ cs, c < 40) → StK m n S →
    ∃ S' b8 b9 b10 b11 b12, forL (exP prg.sub prg.fns.length (callK prg k) ms 39) (.v 8) lawb (nints cs) [a0, some (.ref n), some (encH h), some (encR r), some (encW (ways h r)), some (encN (sortN (keys (ways h r)))), some (encN (outW 40 (ways h r))), a7, a8, a9, a10, a11, a12, none, none] S
      = .ok .next [a0, some (.ref n), some (encH h), some (encR r), some (encW (ways h r)), some (encN (sortN (keys (ways h r)))), some (encN (outW 40 (ways h r))), a7, b8, b9, b10, b11, b12, none, none] S' ∧ StK m n S'
  | [], S, a8, a9, a10, a11, a12, _, hS => ⟨S, a8, a9, a10, a11, a12, rfl, hS⟩
  | c :: cs, S, a8, a9, a10, a11, a12, hcs, hS => by
    have hc : c < h.length := by rw [h40]; exact hcs c (by simp)
    have hhl := hh.1
    have hkl := (ways_inv h r hh hr).le
    have hkl2 : (sortN (keys (ways h r))).length ≤ 40 := by rw [sortN_len]; simp [keys]; omega
    -- the papers
    have hpap : ∃ S', callK prg k 32 [.ref n, encH h, encR r, .int c, getD (ways h r) c, encN (outW 40 (ways h r))] ms S = .ok (.bl true) S' ∧ StK m n S' := by
      unfold getD
      cases e : (ways h r).lookup c with
      | none =>
        refine papersF hk ms hS h r c (outW 40 (ways h r)) hh hr hc ?_ (h40 ▸ outW_set 40 (ways h r))
        have : c ∈ outW 40 (ways h r) := by
          unfold outW
          rw [List.mem_filter]
          exact ⟨by simp; omega, by rw [e]; rfl⟩
        exact List.ne_nil_of_mem this
      | some way =>
        obtain ⟨w1, w2⟩ := way_ok hh hr e
        exact papersW hk ms hS h r c way _ hh hr hc w1 (by omega)
    obtain ⟨S1, e32, h1⟩ := hpap
    obtain ⟨S', b8, b9, b10, b11, b12, e, h2⟩ := law_for hk ms hh h40 hr a0 a7 cs S1 (some (.int c)) (some (judD h r c)) (some (encN (sortN (behF h c)))) (some (encO (if r.any (inN (sortN (behF h c))) then none else some (sortN (behF h c))))) (some (.int (countW h r c : Nat))) (fun x hx => hcs x (by simp [hx])) h1
    refine ⟨S', b8, b9, b10, b11, b12, ?_, h2⟩
    rw [show nints (c :: cs) = .int (c : Int) :: nints cs from rfl, forL_cons, ← e]
    have s9 : ∀ a9 a10 a11 a12 S, EV prg.fns.length (callK prg k) 38 ms (.ite (.cmp .isin (.var 8) (.var 4)) (.tup [.con (.str "way"), .ix (.var 4) (.var 8)]) (.tup [.con (.str "free"), .var 6])) [a0, some (.ref n), some (encH h), some (encR r), some (encW (ways h r)), some (encN (sortN (keys (ways h r)))), some (encN (outW 40 (ways h r))), a7, some (.int c), a9, a10, a11, a12, none, none] S = .ok (judD h r c) S := by
      intro a9 a10 a11 a12 S
      rw [judD_eq, h40]
      cases hw : (ways h r).lookup c with
      | none => simp [hw]
      | some way => simp [-ix_eq, hw, ixW _ _ hw]
    have c11 := fun a9 a11 a12 S => some_comp (nf := prg.fns.length) (call := callK prg k) (ms := ms) (i := 14) (j := 10) (g := [a0, some (.ref n), some (encH h), some (encR r), some (encW (ways h r)), some (encN (sortN (keys (ways h r)))), some (encN (outW 40 (ways h r))), a7, some (.int c), a9, some (encN (sortN (behF h c))), a11, a12, none, none]) r (sortN (behF h c)) (by have := hr.1; omega) (by simp) rfl (by omega) (.var 3) 29 S (by simp)
    have s11 : ∀ a9 a11 a12 S, EV prg.fns.length (callK prg k) 38 ms (.ite (.comp false (.var 14) (.v 14) (.var 3) [.cmp .isin (.var 14) (.var 10)] [14]) (.con .non) (.var 10)) [a0, some (.ref n), some (encH h), some (encR r), some (encW (ways h r)), some (encN (sortN (keys (ways h r)))), some (encN (outW 40 (ways h r))), a7, some (.int c), a9, some (encN (sortN (behF h c))), a11, a12, none, none] S = .ok (encO (if r.any (inN (sortN (behF h c))) then none else some (sortN (behF h c)))) S := by
      intro a9 a11 a12 S
      have c11' := c11 a9 a11 a12 S
      cases hq : r.any (inN (sortN (behF h c))) with
      | true => simp [-tr_lst, -List.any_eq_true, c11', tr_filter, hq, encO]
      | false => simp [-tr_lst, -List.any_eq_true, c11', tr_filter, hq, encO]
    have c12 : ∀ a9 a10 a11 a12 S, EV prg.fns.length (callK prg k) 36 ms (.comp false (.bm .count (.ix (.var 2) (.var 13)) [.var 8]) (.v 13) (.var 5) [] [13]) [a0, some (.ref n), some (encH h), some (encR r), some (encW (ways h r)), some (encN (sortN (keys (ways h r)))), some (encN (outW 40 (ways h r))), a7, some (.int c), a9, a10, a11, a12, none, none] S = .ok (.lst ((sortN (keys (ways h r))).map fun k => .int ((cel h k).countP (· == some c) : Nat))) S := fun a9 a10 a11 a12 S =>
      ev_compM (n := 35) (sortN (keys (ways h r))) (fun n : Nat => .int (n : Int)) _ (by simp) (by omega) (fun a ha acc => ⟨_, by simp; rfl, by
        have ha' := keys_lt hh hr a (sortN_mem.mp ha)
        simp [-ix_eq, ixH _ h ha', cnt_C]⟩) (by simp)
    have s12 : ∀ a9 a10 a11 a12 S, EV prg.fns.length (callK prg k) 38 ms (.bin .add (.bm .count (.var 3) [.var 8]) (.bi false .sum [.comp false (.bm .count (.ix (.var 2) (.var 13)) [.var 8]) (.v 13) (.var 5) [] [13]])) [a0, some (.ref n), some (encH h), some (encR r), some (encW (ways h r)), some (encN (sortN (keys (ways h r)))), some (encN (outW 40 (ways h r))), a7, some (.int c), a9, a10, a11, a12, none, none] S = .ok (.int (countW h r c : Nat)) S := by
      intro a9 a10 a11 a12 S
      have c12' := c12 a9 a10 a11 a12 S
      have hsum : ∀ l : List Nat, (l.map fun k => (((cel h k).countP (· == some c) : Nat) : Int)).sum = (((l.map fun k => (cel h k).countP (· == some c)).sum : Nat) : Int) := by
        intro l
        induction l with
        | nil => rfl
        | cons a l ih => simp only [List.map_cons, List.sum_cons, ih]; omega
      have c13 := intsD_map (sortN (keys (ways h r))) fun k => (((cel h k).countP (· == some c) : Nat) : Int)
      rw [countW_eq]
      simp [c12', cnt_R, c13, hsum]
    have j1 : ∀ S, callK prg k 11 [encH h, encR r, .int c] ms S = .ok (judD h r c) S := fun S => judge_cell' (by omega) ms S h r c hh hr hc
    have j2 : ∀ S, callK prg k 15 [encH h, encR r, .int c] ms S = .ok (encO (if r.any (inN (sortN (behF h c))) then none else some (sortN (behF h c)))) S := fun S => by
      rw [least_free' (by omega) ms S h r c hh hr hc, inN_least hh hc, least_beh hh hc]
    have j3 : ∀ S, callK prg k 16 [encH h, encR r, .int c] ms S = .ok (.int (countW h r c : Nat)) S := fun S => ways_count' (by omega) ms S h r c hh hr hc
    have j4 := fun S => same2 (k := k) (by omega) ms S hh hr c hc
    have j5 := fun S => law_behind' (k := k) (by omega) ms S h c hh hc
    have j6 := fun S => get_W ms S (ways h r) c
    simp [-ix_eq, -ev_ite, -List.any_eq_true, -ev_bin, -xbm_get, lawb, s9, j5, s11, s12, j1, j2, j3, j4, j6, e32]

theorem law_true {k} (hk : 9 ≤ k) (xs : List Int) : ∃ S, callK prg k 33 [.lst (xs.map .int)] [] [] = .ok (.bl true) S := by
  obtain ⟨k, rfl⟩ := lv hk
  obtain ⟨seed, e19⟩ := law_start' (k := k+8) (by omega) [0] [] xs
  simp only [List.nil_append, List.length_nil] at e19
  have hS0 : StK 1 0 [⟨false, .lst [.lst (xs.map .int), .int 0, .int 0, .int seed]⟩] := ⟨rfl, _, rfl, xs, 0, 0, seed, rfl, by omega⟩
  obtain ⟨S1, h, e24, hS1, h40, hh⟩ := law_great' (k := k+8) (by omega) [0] hS0
  have o8 : ok62 8 = true := by decide
  have r8 : rangeD 0 1 8 = nints (List.range 8) := rangeD0 8
  obtain ⟨S2, l, e3, hS2, hl, hlen⟩ := ev_compS (nf := prg.fns.length) (call := callK prg (k+8)) (n := 37) (ms := [0]) (elt := .call 21 [.var 1, .lst false [.con .non, .call 20 [.var 1, .con (.int 40)], .call 20 [.var 1, .con (.int 7)]]]) (tg := .v 13) (it := .rng [.con (.int 8)]) (own := [13])
    (g := [some (.lst (xs.map .int)), some (.ref 0), some (encH h), none, none, none, none, none, none, none, none, none, none, none, none]) (S := S1) (S1 := S1) (items := nints (List.range 8)) (m := 1)
    (StK 1 0) FldV (fun S h => h.1) (by simp [o8, r8]) hS1 (by simp) (by
    intro d hd T acc hT
    obtain ⟨w, T1, e2, hw, h6⟩ := drawK (k := k+8) (by omega) [1, 0] hT [⟨false, .lst acc⟩] 40 (by omega) (by omega)
    obtain ⟨w2, T2, e3, hw2, h7⟩ := drawK (k := k+8) (by omega) [1, 0] h6 [⟨false, .lst acc⟩] 7 (by omega) (by omega)
    obtain ⟨x, T3, e4, hx, h8⟩ := pickK (k := k+8) (by omega) [1, 0] h7 [⟨false, .lst acc⟩] [.non, .int w, .int w2] (by simp) (by simp) (by simp)
    have e2' : callK prg (k+8) 20 [.ref 0, .int 40] [1, 0] (T ++ [⟨false, .lst acc⟩]) = .ok (.int w) (T1 ++ [⟨false, .lst acc⟩]) := e2
    have e3' : callK prg (k+8) 20 [.ref 0, .int 7] [1, 0] (T1 ++ [⟨false, .lst acc⟩]) = .ok (.int w2) (T2 ++ [⟨false, .lst acc⟩]) := e3
    refine ⟨[some (.lst (xs.map .int)), some (.ref 0), some (encH h), none, none, none, none, none, none, none, none, none, none, some d, none], T3, x, by simp, ?_, h8, ?_⟩
    · simp [e2', e3', e4]
    · simp at hx
      rcases hx with rfl | rfl | rfl
      · exact fld_non
      · exact fld_int (by omega) (by omega)
      · exact fld_int (by omega) (by omega)) (fun x hx => hx.below _ _)
  obtain ⟨r, rfl, hrl, hrf⟩ := flds_of hl
  have hr : OkR h r := ⟨by rw [hrl, hlen]; simp, by rw [h40]; exact hrf⟩
  have c6 : ∀ n a7 S, EV prg.fns.length (callK prg (k+8)) (n+5) [0] (.comp false (.var 13) (.v 13) (.rng [.con (.int 40)]) [.cmp .notin (.var 13) (.var 4)] [13]) [some (.lst (xs.map .int)), some (.ref 0), some (encH h), some (encR r), some (encW (ways h r)), some (encN (sortN (keys (ways h r)))), none, a7, none, none, none, none, none, none, none] S = .ok (.lst (nints (outW 40 (ways h r)))) S := by
    intro n a7 S
    have o40 : ok62 40 = true := by decide
    have r40 : rangeD 0 1 40 = nints (List.range 40) := rangeD0 40
    exact out_comp (n := n) 40 (ways h r) 4 13 (by omega) (by simp) rfl (by simp) _ (by simp [o40, r40])
  have c7 : ∀ n S, EV prg.fns.length (callK prg (k+8)) (n+8) [0] (.comp false (.ite (.cmp .isin (.var 13) (.var 4)) (.bin .sub (.bi false .len [.ix (.var 4) (.var 13)]) (.con (.int 1))) (.con .non)) (.v 13) (.rng [.con (.int 40)]) [] [13]) [some (.lst (xs.map .int)), some (.ref 0), some (encH h), some (encR r), some (encW (ways h r)), some (encN (sortN (keys (ways h r)))), some (encN (outW 40 (ways h r))), none, none, none, none, none, none, none, none] S = .ok (.lst ((List.range 40).map (depD (ways h r)))) S := by
    intro n S
    have o40 : ok62 40 = true := by decide
    have r40 : rangeD 0 1 40 = nints (List.range 40) := rangeD0 40
    refine ev_compM (n := n+7) (List.range 40) (fun n : Nat => .int (n : Int)) (depD (ways h r)) (by simp [o40, r40]) (by simp) (fun a ha acc => ⟨_, by simp; rfl, ?_⟩) (fun a _ => pure_below (depD_pure _ a 59))
    unfold depD
    cases hw : (ways h r).lookup a with
    | none => simp [hw]
    | some w => simp [-ix_eq, hw, ixW _ _ hw]
  have k1 := kept' (k := k+8) (by omega) [0] S2 h r hh hr
  have k2 := freed' (k := k+8) (by omega) [0] S2 h r hh hr
  have k3 : callK prg (k+8) 18 [encH h, encR r] [0] S2 = .ok (.tup ((List.range h.length).map (depD (ways h r)))) S2 := depth_of' (by omega) [0] S2 h r hh hr
  have k4 := rings' (k := k+8) (by omega) [0] S2 h hh
  have k5 := law_rings' (k := k+8) (by omega) [0] S2 h hh
  have k6 := same1 (k := k+8) (by omega) [0] S2 hh h40 hr
  have k7 := law_ways' (k := k+8) (by omega) [0] S2 h r hh hr
  rw [← ringKeys_eq hh] at k5
  rw [h40] at k2 k3 k6
  obtain ⟨v1, S3, d1, hv1, hS3⟩ := drawK (k := k+8) (by omega) [0] hS2 [] 40 (by omega) (by omega)
  obtain ⟨v2, S4, d2, hv2, hS4⟩ := drawK (k := k+8) (by omega) [0] hS3 [] 40 (by omega) (by omega)
  simp only [List.append_nil] at d1 d2
  have d1' : callK prg (k+8) 20 [.ref 0, .int 40] [0] S2 = .ok (.int v1) S3 := d1
  have d2' : callK prg (k+8) 20 [.ref 0, .int 40] [0] S3 = .ok (.int v2) S4 := d2
  obtain ⟨S5, b8, b9, b10, b11, b12, e5, hS5⟩ := law_for (k := k+8) (by omega) [0] hh h40 hr (some (.lst (xs.map .int))) (some (.tup ((List.range 40).map (depD (ways h r))))) [v1, v2, 39] S4 none none none none none (by
    intro c hc
    simp at hc
    omega) hS4
  have e5' := e5
  simp only [List.map_cons, List.map_nil, lawb] at e5'
  refine ⟨S5.take 0, ?_⟩
  rw [ck (i := ⟨"law", 1, 15, true, b33⟩) rfl rfl rfl]
  have z39 : ((39 : Nat) : Int) = 39 := rfl
  simp only [z39] at e5'
  have fR : D.xtp (r.map encF) = encR r := rfl
  have fN : ∀ l, D.tup (nints l) = encN l := fun l => rfl
  simp [fR, fN, b33, e19, e24, e3, k7, c6, c7, k1, k2, k3, k4, k5, k6, d1', d2', isDV, unl_none, e5']
end W58

set_option linter.all false
set_option Elab.async false
set_option maxRecDepth 100000
set_option maxHeartbeats 4000000
namespace Rk58
open MP PySem PySem.Spec PyProof.Rows L2 Mk58
abbrev pw : Program := PySem.Challenge.pw_nowayleft_k58_whole_heaps_at_their_great
def top (i : Nat) : Stmt := pw.main.body.getD i (.Pass ⟨0, 0, 0, 0⟩)
def gi : List (Str × Int) := [(("MAX_CELLS" : Str), 40), (("MAX_FIELDS" : Str), 6), (("MAX_ROOTS" : Str), 8)]
def gf : List (Str × Nat) := [(("is_integer" : Str), 0), (("check_heap" : Str), 1), (("is_field" : Str), 2), (("check_roots" : Str), 3), (("check_cell" : Str), 4), (("check_both" : Str), 5), (("first_ways" : Str), 6), (("reached_from" : Str), 7), (("kept" : Str), 8), (("freed" : Str), 9), (("end_of" : Str), 10), (("judge_cell" : Str), 11), (("accept_way" : Str), 12), (("is_set" : Str), 13), (("accept_free" : Str), 14), (("least_free" : Str), 15), (("ways_count" : Str), 16), (("rings" : Str), 17), (("depth_of" : Str), 18), (("_law_start" : Str), 19), (("_law_draw" : Str), 20), (("_law_pick" : Str), 21), (("_law_same" : Str), 22), (("_law_led" : Str), 23), (("_law_great" : Str), 24), (("_law_ways" : Str), 25), (("_law_rings" : Str), 26), (("_law_behind" : Str), 27), (("_law_end" : Str), 28), (("_law_bare" : Str), 29), (("_law_reason" : Str), 30), (("_law_free_due" : Str), 31), (("_law_papers_hold" : Str), 32), (("law" : Str), 33)]
def gc : List (Str × Nat) := [(("HeapError" : Str), 1), (("ArgumentError" : Str), 2), (("PaperError" : Str), 3)]
def c0 : Sc := ⟨[("value" : Str)], gi, gf, gc⟩
theorem m0 : mtS c0 (defScope (top 6)) fuel b0 (defBody (top 6)) = true := by decide +kernel
theorem s0 : FnScope c0.N ["value"] (defScope (top 6)) := ⟨rfl, rfl, rfl, by decide +kernel, rfl, by decide +kernel, by decide +kernel⟩
def c1 : Sc := ⟨[("heap" : Str), ("cell" : Str), ("field" : Str)], gi, gf, gc⟩
theorem m1 : mtS c1 (defScope (top 11)) fuel b1 (defBody (top 11)) = true := by decide +kernel
theorem s1 : FnScope c1.N ["heap"] (defScope (top 11)) := ⟨rfl, rfl, rfl, by decide +kernel, rfl, by decide +kernel, by decide +kernel⟩
def c2 : Sc := ⟨[("heap" : Str), ("value" : Str)], gi, gf, gc⟩
theorem m2 : mtS c2 (defScope (top 12)) fuel b2 (defBody (top 12)) = true := by decide +kernel
theorem s2 : FnScope c2.N ["heap", "value"] (defScope (top 12)) := ⟨rfl, rfl, rfl, by decide +kernel, rfl, by decide +kernel, by decide +kernel⟩
def c3 : Sc := ⟨[("heap" : Str), ("roots" : Str), ("root" : Str)], gi, gf, gc⟩
theorem m3 : mtS c3 (defScope (top 13)) fuel b3 (defBody (top 13)) = true := by decide +kernel
theorem s3 : FnScope c3.N ["heap", "roots"] (defScope (top 13)) := ⟨rfl, rfl, rfl, by decide +kernel, rfl, by decide +kernel, by decide +kernel⟩
def c4 : Sc := ⟨[("heap" : Str), ("cell" : Str)], gi, gf, gc⟩
theorem m4 : mtS c4 (defScope (top 14)) fuel b4 (defBody (top 14)) = true := by decide +kernel
theorem s4 : FnScope c4.N ["heap", "cell"] (defScope (top 14)) := ⟨rfl, rfl, rfl, by decide +kernel, rfl, by decide +kernel, by decide +kernel⟩
def c5 : Sc := ⟨[("heap" : Str), ("roots" : Str)], gi, gf, gc⟩
theorem m5 : mtS c5 (defScope (top 15)) fuel b5 (defBody (top 15)) = true := by decide +kernel
theorem s5 : FnScope c5.N ["heap", "roots"] (defScope (top 15)) := ⟨rfl, rfl, rfl, by decide +kernel, rfl, by decide +kernel, by decide +kernel⟩
def c6 : Sc := ⟨[("heap" : Str), ("roots" : Str), ("found" : Str), ("queue" : Str), ("slot" : Str), ("root" : Str), ("at" : Str), ("here" : Str), ("number" : Str), ("field" : Str)], gi, gf, gc⟩
theorem m6 : mtS c6 (defScope (top 16)) fuel b6 (defBody (top 16)) = true := by decide +kernel
theorem s6 : FnScope c6.N ["heap", "roots"] (defScope (top 16)) := ⟨rfl, rfl, rfl, by decide +kernel, rfl, by decide +kernel, by decide +kernel⟩
def c7 : Sc := ⟨[("heap" : Str), ("some" : Str)], gi, gf, gc⟩
theorem m7 : mtS c7 (defScope (top 17)) fuel b7 (defBody (top 17)) = true := by decide +kernel
theorem s7 : FnScope c7.N ["heap", "some"] (defScope (top 17)) := ⟨rfl, rfl, rfl, by decide +kernel, rfl, by decide +kernel, by decide +kernel⟩
def c8 : Sc := ⟨[("heap" : Str), ("roots" : Str)], gi, gf, gc⟩
theorem m8 : mtS c8 (defScope (top 18)) fuel b8 (defBody (top 18)) = true := by decide +kernel
theorem s8 : FnScope c8.N ["heap", "roots"] (defScope (top 18)) := ⟨rfl, rfl, rfl, by decide +kernel, rfl, by decide +kernel, by decide +kernel⟩
def c9 : Sc := ⟨[("heap" : Str), ("roots" : Str), ("ways" : Str), ("cell" : Str)], gi, gf, gc⟩
theorem m9 : mtS c9 (defScope (top 19)) fuel b9 (defBody (top 19)) = true := by decide +kernel
theorem s9 : FnScope c9.N ["heap", "roots"] (defScope (top 19)) := ⟨rfl, rfl, rfl, by decide +kernel, rfl, by decide +kernel, by decide +kernel⟩
def c10 : Sc := ⟨[("heap" : Str), ("roots" : Str), ("way" : Str), ("here" : Str), ("number" : Str)], gi, gf, gc⟩
theorem m10 : mtS c10 (defScope (top 20)) fuel b10 (defBody (top 20)) = true := by decide +kernel
theorem s10 : FnScope c10.N ["heap", "roots", "way"] (defScope (top 20)) := ⟨rfl, rfl, rfl, by decide +kernel, rfl, by decide +kernel, by decide +kernel⟩
def c11 : Sc := ⟨[("heap" : Str), ("roots" : Str), ("cell" : Str), ("ways" : Str), ("other" : Str)], gi, gf, gc⟩
theorem m11 : mtS c11 (defScope (top 21)) fuel b11 (defBody (top 21)) = true := by decide +kernel
theorem s11 : FnScope c11.N ["heap", "roots", "cell"] (defScope (top 21)) := ⟨rfl, rfl, rfl, by decide +kernel, rfl, by decide +kernel, by decide +kernel⟩
def c12 : Sc := ⟨[("heap" : Str), ("roots" : Str), ("cell" : Str), ("way" : Str), ("part" : Str)], gi, gf, gc⟩
theorem m12 : mtS c12 (defScope (top 22)) fuel b12 (defBody (top 22)) = true := by decide +kernel
theorem s12 : FnScope c12.N ["heap", "roots", "cell", "way"] (defScope (top 22)) := ⟨rfl, rfl, rfl, by decide +kernel, rfl, by decide +kernel, by decide +kernel⟩
def c13 : Sc := ⟨[("heap" : Str), ("value" : Str), ("one" : Str), ("at" : Str)], gi, gf, gc⟩
theorem m13 : mtS c13 (defScope (top 23)) fuel b13 (defBody (top 23)) = true := by decide +kernel
theorem s13 : FnScope c13.N ["heap", "value"] (defScope (top 23)) := ⟨rfl, rfl, rfl, by decide +kernel, rfl, by decide +kernel, by decide +kernel⟩
def c14 : Sc := ⟨[("heap" : Str), ("roots" : Str), ("cell" : Str), ("cells" : Str), ("other" : Str), ("root" : Str), ("field" : Str)], gi, gf, gc⟩
theorem m14 : mtS c14 (defScope (top 24)) fuel b14 (defBody (top 24)) = true := by decide +kernel
theorem s14 : FnScope c14.N ["heap", "roots", "cell", "cells"] (defScope (top 24)) := ⟨rfl, rfl, rfl, by decide +kernel, rfl, by decide +kernel, by decide +kernel⟩
def c15 : Sc := ⟨[("heap" : Str), ("roots" : Str), ("cell" : Str), ("found" : Str), ("grown" : Str), ("other" : Str), ("fields" : Str), ("field" : Str), ("root" : Str)], gi, gf, gc⟩
theorem m15 : mtS c15 (defScope (top 25)) fuel b15 (defBody (top 25)) = true := by decide +kernel
theorem s15 : FnScope c15.N ["heap", "roots", "cell"] (defScope (top 25)) := ⟨rfl, rfl, rfl, by decide +kernel, rfl, by decide +kernel, by decide +kernel⟩
def c16 : Sc := ⟨[("heap" : Str), ("roots" : Str), ("cell" : Str), ("ways" : Str), ("total" : Str), ("root" : Str), ("other" : Str), ("field" : Str)], gi, gf, gc⟩
theorem m16 : mtS c16 (defScope (top 26)) fuel b16 (defBody (top 26)) = true := by decide +kernel
theorem s16 : FnScope c16.N ["heap", "roots", "cell"] (defScope (top 26)) := ⟨rfl, rfl, rfl, by decide +kernel, rfl, by decide +kernel, by decide +kernel⟩
def c17 : Sc := ⟨[("heap" : Str), ("ahead" : Str), ("found" : Str), ("cell" : Str), ("ring" : Str), ("other" : Str)], gi, gf, gc⟩
theorem m17 : mtS c17 (defScope (top 27)) fuel b17 (defBody (top 27)) = true := by decide +kernel
theorem s17 : FnScope c17.N ["heap"] (defScope (top 27)) := ⟨rfl, rfl, rfl, by decide +kernel, rfl, by decide +kernel, by decide +kernel⟩
def c18 : Sc := ⟨[("heap" : Str), ("roots" : Str), ("ways" : Str), ("cell" : Str)], gi, gf, gc⟩
theorem m18 : mtS c18 (defScope (top 28)) fuel b18 (defBody (top 28)) = true := by decide +kernel
theorem s18 : FnScope c18.N ["heap", "roots"] (defScope (top 28)) := ⟨rfl, rfl, rfl, by decide +kernel, rfl, by decide +kernel, by decide +kernel⟩
def c19 : Sc := ⟨[("script" : Str), ("seed" : Str), ("cell" : Str)], gi, gf, gc⟩
theorem m19 : mtS c19 (defScope (top 30)) fuel b19 (defBody (top 30)) = true := by decide +kernel
theorem s19 : FnScope c19.N ["script"] (defScope (top 30)) := ⟨rfl, rfl, rfl, by decide +kernel, rfl, by decide +kernel, by decide +kernel⟩
def c20 : Sc := ⟨[("state" : Str), ("many" : Str), ("value" : Str)], gi, gf, gc⟩
theorem m20 : mtS c20 (defScope (top 31)) fuel b20 (defBody (top 31)) = true := by decide +kernel
theorem s20 : FnScope c20.N ["state", "many"] (defScope (top 31)) := ⟨rfl, rfl, rfl, by decide +kernel, rfl, by decide +kernel, by decide +kernel⟩
def c21 : Sc := ⟨[("state" : Str), ("some" : Str)], gi, gf, gc⟩
theorem m21 : mtS c21 (defScope (top 32)) fuel b21 (defBody (top 32)) = true := by decide +kernel
theorem s21 : FnScope c21.N ["state", "some"] (defScope (top 32)) := ⟨rfl, rfl, rfl, by decide +kernel, rfl, by decide +kernel, by decide +kernel⟩
def c22 : Sc := ⟨[("actual" : Str), ("due" : Str)], gi, gf, gc⟩
theorem m22 : mtS c22 (defScope (top 33)) fuel b22 (defBody (top 33)) = true := by decide +kernel
theorem s22 : FnScope c22.N ["actual", "due"] (defScope (top 33)) := ⟨rfl, rfl, rfl, by decide +kernel, rfl, by decide +kernel, by decide +kernel⟩
def c23 : Sc := ⟨[("heap" : Str), ("begin" : Str), ("gained" : Str), ("known" : Str), ("at" : Str), ("field" : Str), ("one" : Str)], gi, gf, gc⟩
theorem m23 : mtS c23 (defScope (top 34)) fuel b23 (defBody (top 34)) = true := by decide +kernel
theorem s23 : FnScope c23.N ["heap", "begin"] (defScope (top 34)) := ⟨rfl, rfl, rfl, by decide +kernel, rfl, by decide +kernel, by decide +kernel⟩
def c24 : Sc := ⟨[("state" : Str), ("kind" : Str), ("many" : Str), ("gained" : Str), ("k" : Str), ("far" : Str), ("j" : Str)], gi, gf, gc⟩
theorem m24 : mtS c24 (defScope (top 35)) fuel b24 (defBody (top 35)) = true := by decide +kernel
theorem s24 : FnScope c24.N ["state"] (defScope (top 35)) := ⟨rfl, rfl, rfl, by decide +kernel, rfl, by decide +kernel, by decide +kernel⟩
def c25 : Sc := ⟨[("heap" : Str), ("roots" : Str), ("ways" : Str), ("queue" : Str), ("at" : Str), ("slot" : Str), ("here" : Str), ("number" : Str)], gi, gf, gc⟩
theorem m25 : mtS c25 (defScope (top 36)) fuel b25 (defBody (top 36)) = true := by decide +kernel
theorem s25 : FnScope c25.N ["heap", "roots"] (defScope (top 36)) := ⟨rfl, rfl, rfl, by decide +kernel, rfl, by decide +kernel, by decide +kernel⟩
def c26 : Sc := ⟨[("heap" : Str), ("ahead" : Str), ("gained" : Str), ("k" : Str), ("other" : Str)], gi, gf, gc⟩
theorem m26 : mtS c26 (defScope (top 37)) fuel b26 (defBody (top 37)) = true := by decide +kernel
theorem s26 : FnScope c26.N ["heap"] (defScope (top 37)) := ⟨rfl, rfl, rfl, by decide +kernel, rfl, by decide +kernel, by decide +kernel⟩
def c27 : Sc := ⟨[("heap" : Str), ("cell" : Str), ("gained" : Str), ("turn" : Str), ("fresh" : Str), ("k" : Str), ("field" : Str)], gi, gf, gc⟩
theorem m27 : mtS c27 (defScope (top 38)) fuel b27 (defBody (top 38)) = true := by decide +kernel
theorem s27 : FnScope c27.N ["heap", "cell"] (defScope (top 38)) := ⟨rfl, rfl, rfl, by decide +kernel, rfl, by decide +kernel, by decide +kernel⟩
def c28 : Sc := ⟨[("heap" : Str), ("roots" : Str), ("way" : Str), ("here" : Str), ("number" : Str)], gi, gf, gc⟩
theorem m28 : mtS c28 (defScope (top 39)) fuel b28 (defBody (top 39)) = true := by decide +kernel
theorem s28 : FnScope c28.N ["heap", "roots", "way"] (defScope (top 39)) := ⟨rfl, rfl, rfl, by decide +kernel, rfl, by decide +kernel, by decide +kernel⟩
def c29 : Sc := ⟨[("call" : Str), ("heap" : Str), ("roots" : Str), ("cell" : Str), ("paper" : Str)], gi, gf, gc⟩
theorem m29 : mtS c29 (defScope (top 40)) fuel b29 (defBody (top 40)) = true := by decide +kernel
theorem s29 : FnScope c29.N ["call", "heap", "roots", "cell", "paper"] (defScope (top 40)) := ⟨rfl, rfl, rfl, by decide +kernel, rfl, by decide +kernel, by decide +kernel⟩
def c30 : Sc := ⟨[("call" : Str), ("heap" : Str), ("roots" : Str), ("cell" : Str), ("paper" : Str), ("told_in" : Str), ("error" : Str)], gi, gf, gc⟩
theorem m30 : mtS c30 (defScope (top 41)) fuel b30 (defBody (top 41)) = true := by decide +kernel
theorem s30 : FnScope c30.N ["call", "heap", "roots", "cell", "paper"] (defScope (top 41)) := ⟨rfl, rfl, rfl, by decide +kernel, rfl, by decide +kernel, by decide +kernel⟩
def c31 : Sc := ⟨[("heap" : Str), ("roots" : Str), ("cell" : Str), ("cells" : Str), ("wrong" : Str), ("root" : Str), ("k" : Str), ("field" : Str)], gi, gf, gc⟩
theorem m31 : mtS c31 (defScope (top 42)) fuel b31 (defBody (top 42)) = true := by decide +kernel
theorem s31 : FnScope c31.N ["heap", "roots", "cell", "cells"] (defScope (top 42)) := ⟨rfl, rfl, rfl, by decide +kernel, rfl, by decide +kernel, by decide +kernel⟩
def c32 : Sc := ⟨[("state" : Str), ("heap" : Str), ("roots" : Str), ("cell" : Str), ("way" : Str), ("free" : Str), ("at" : Str), ("some" : Str)], gi, gf, gc⟩
theorem m32 : mtS c32 (defScope (top 43)) fuel b32 (defBody (top 43)) = true := by decide +kernel
theorem s32 : FnScope c32.N ["state", "heap", "roots", "cell", "way", "free"] (defScope (top 43)) := ⟨rfl, rfl, rfl, by decide +kernel, rfl, by decide +kernel, by decide +kernel⟩
def c33 : Sc := ⟨[("script" : Str), ("state" : Str), ("heap" : Str), ("roots" : Str), ("ways" : Str), ("whole" : Str), ("free" : Str), ("deep" : Str), ("cell" : Str), ("due" : Str), ("behind" : Str), ("least" : Str), ("many" : Str), ("k" : Str), ("root" : Str)], gi, gf, gc⟩
theorem m33 : mtS c33 (defScope (top 44)) fuel b33 (defBody (top 44)) = true := by decide +kernel
theorem s33 : FnScope c33.N ["script"] (defScope (top 44)) := ⟨rfl, rfl, rfl, by decide +kernel, rfl, by decide +kernel, by decide +kernel⟩
end Rk58

set_option linter.all false
set_option Elab.async false
set_option maxRecDepth 100000
set_option maxHeartbeats 8000000
namespace Rk58
open MP PySem PySem.Spec PyProof.Rows L2 Mk58
section
variable {w : World} {K : PySem.W.Frag} {mg : Str → Option Value} {h : Heap}
def fad (l : List Addr) (n : Nat) : Addr := l.getD n 0
def cad (a b d : Addr) (n : Nat) : Addr := if n = 1 then a else if n = 2 then b else d
abbrev tab (l : List Addr) (a b d : Addr) : Tab := ⟨prg, fad l, cad a b d, fun _ => "reason"⟩
/-- an error of the class C where D is named -/
theorem exm_of {C D : Addr} {b : Bool} (h1 : PySem.W.subIn K (.ref D) (.type "BaseException") = some true) (h2 : PySem.W.isClsIn K D = true) (h3 : PySem.W.typeIn K (.ref D) = some (.type "type")) (h4 : PySem.W.subIn K (.ref C) (.ref D) = some b) : PySem.W.exmOne K (.ref C) (.ref D) = some b := by
  have h2' : (PySem.W.clsIn K D).isSome = true := h2
  have e1 : (PySem.W.subIn K (.ref D) (.type "BaseException") == some true) = true := by rw [h1]; rfl
  have e2 : ((PySem.W.clsIn K D).isSome && PySem.W.typeIn K (.ref D) == some (.type "type")) = true := by rw [h2', h3]; rfl
  unfold PySem.W.exmOne
  rw [if_pos e1]
  show (if ((PySem.W.clsIn K D).isSome && PySem.W.typeIn K (.ref D) == some (.type "type")) = true then PySem.W.subIn K (.ref C) (.ref D) else none) = some b
  rw [if_pos e2, h4]
theorem link {f0 f1 f2 f3 f4 f5 f6 f7 f8 f9 f10 f11 f12 f13 f14 f15 f16 f17 f18 f19 f20 f21 f22 f23 f24 f25 f26 f27 f28 f29 f30 f31 f32 f33 C1 C2 C3 : Addr} (X : K.In h) (G : h.Ns mainGlobals mg)
    (gi0 : ∀ p ∈ gi, ∃ t, PySem.W.nsIn K mainGlobals p.1 = some (some (.int p.2 t))) (bl : ∀ x ∈ bltns, PySem.W.nsIn K mainGlobals x = some none)
    (a0 : PySem.W.nsIn K mainGlobals "is_integer" = some (some (.ref f0)))
    (a1 : PySem.W.nsIn K mainGlobals "check_heap" = some (some (.ref f1)))
    (a2 : PySem.W.nsIn K mainGlobals "is_field" = some (some (.ref f2)))
    (a3 : PySem.W.nsIn K mainGlobals "check_roots" = some (some (.ref f3)))
    (a4 : PySem.W.nsIn K mainGlobals "check_cell" = some (some (.ref f4)))
    (a5 : PySem.W.nsIn K mainGlobals "check_both" = some (some (.ref f5)))
    (a6 : PySem.W.nsIn K mainGlobals "first_ways" = some (some (.ref f6)))
    (a7 : PySem.W.nsIn K mainGlobals "reached_from" = some (some (.ref f7)))
    (a8 : PySem.W.nsIn K mainGlobals "kept" = some (some (.ref f8)))
    (a9 : PySem.W.nsIn K mainGlobals "freed" = some (some (.ref f9)))
    (a10 : PySem.W.nsIn K mainGlobals "end_of" = some (some (.ref f10)))
    (a11 : PySem.W.nsIn K mainGlobals "judge_cell" = some (some (.ref f11)))
    (a12 : PySem.W.nsIn K mainGlobals "accept_way" = some (some (.ref f12)))
    (a13 : PySem.W.nsIn K mainGlobals "is_set" = some (some (.ref f13)))
    (a14 : PySem.W.nsIn K mainGlobals "accept_free" = some (some (.ref f14)))
    (a15 : PySem.W.nsIn K mainGlobals "least_free" = some (some (.ref f15)))
    (a16 : PySem.W.nsIn K mainGlobals "ways_count" = some (some (.ref f16)))
    (a17 : PySem.W.nsIn K mainGlobals "rings" = some (some (.ref f17)))
    (a18 : PySem.W.nsIn K mainGlobals "depth_of" = some (some (.ref f18)))
    (a19 : PySem.W.nsIn K mainGlobals "_law_start" = some (some (.ref f19)))
    (a20 : PySem.W.nsIn K mainGlobals "_law_draw" = some (some (.ref f20)))
    (a21 : PySem.W.nsIn K mainGlobals "_law_pick" = some (some (.ref f21)))
    (a22 : PySem.W.nsIn K mainGlobals "_law_same" = some (some (.ref f22)))
    (a23 : PySem.W.nsIn K mainGlobals "_law_led" = some (some (.ref f23)))
    (a24 : PySem.W.nsIn K mainGlobals "_law_great" = some (some (.ref f24)))
    (a25 : PySem.W.nsIn K mainGlobals "_law_ways" = some (some (.ref f25)))
    (a26 : PySem.W.nsIn K mainGlobals "_law_rings" = some (some (.ref f26)))
    (a27 : PySem.W.nsIn K mainGlobals "_law_behind" = some (some (.ref f27)))
    (a28 : PySem.W.nsIn K mainGlobals "_law_end" = some (some (.ref f28)))
    (a29 : PySem.W.nsIn K mainGlobals "_law_bare" = some (some (.ref f29)))
    (a30 : PySem.W.nsIn K mainGlobals "_law_reason" = some (some (.ref f30)))
    (a31 : PySem.W.nsIn K mainGlobals "_law_free_due" = some (some (.ref f31)))
    (a32 : PySem.W.nsIn K mainGlobals "_law_papers_hold" = some (some (.ref f32)))
    (a33 : PySem.W.nsIn K mainGlobals "law" = some (some (.ref f33)))
    : Link (tab [f0, f1, f2, f3, f4, f5, f6, f7, f8, f9, f10, f11, f12, f13, f14, f15, f16, f17, f18, f19, f20, f21, f22, f23, f24, f25, f26, f27, f28, f29, f30, f31, f32, f33] C1 C2 C3) K mg ⟨[], gi, gf, gc⟩ := by
  have look : ∀ {β : Type} {l : List (Str × β)} {x : Str} {i : β}, l.lookup x = some i → (x, i) ∈ l := by
    intro β l x i e
    induction l with
    | nil => cases e
    | cons p l ih =>
      obtain ⟨y, j⟩ := p
      rw [List.lookup_cons] at e
      cases q : (x == y) with
      | true => rw [q] at e; cases e; simp at q; subst q; simp
      | false => rw [q] at e; exact List.mem_cons_of_mem _ (ih e)
  have hgf : ∀ p ∈ gf, mg p.1 = some (.ref (fad [f0, f1, f2, f3, f4, f5, f6, f7, f8, f9, f10, f11, f12, f13, f14, f15, f16, f17, f18, f19, f20, f21, f22, f23, f24, f25, f26, f27, f28, f29, f30, f31, f32, f33] p.2)) ∧ p.2 < 34 := by
    intro p hp
    unfold gf at hp
    rcases List.mem_cons.mp hp with rfl | hp
    · exact ⟨PySem.W.mg_of X G a0, by decide⟩
    rcases List.mem_cons.mp hp with rfl | hp
    · exact ⟨PySem.W.mg_of X G a1, by decide⟩
    rcases List.mem_cons.mp hp with rfl | hp
    · exact ⟨PySem.W.mg_of X G a2, by decide⟩
    rcases List.mem_cons.mp hp with rfl | hp
    · exact ⟨PySem.W.mg_of X G a3, by decide⟩
    rcases List.mem_cons.mp hp with rfl | hp
    · exact ⟨PySem.W.mg_of X G a4, by decide⟩
    rcases List.mem_cons.mp hp with rfl | hp
    · exact ⟨PySem.W.mg_of X G a5, by decide⟩
    rcases List.mem_cons.mp hp with rfl | hp
    · exact ⟨PySem.W.mg_of X G a6, by decide⟩
    rcases List.mem_cons.mp hp with rfl | hp
    · exact ⟨PySem.W.mg_of X G a7, by decide⟩
    rcases List.mem_cons.mp hp with rfl | hp
    · exact ⟨PySem.W.mg_of X G a8, by decide⟩
    rcases List.mem_cons.mp hp with rfl | hp
    · exact ⟨PySem.W.mg_of X G a9, by decide⟩
    rcases List.mem_cons.mp hp with rfl | hp
    · exact ⟨PySem.W.mg_of X G a10, by decide⟩
    rcases List.mem_cons.mp hp with rfl | hp
    · exact ⟨PySem.W.mg_of X G a11, by decide⟩
    rcases List.mem_cons.mp hp with rfl | hp
    · exact ⟨PySem.W.mg_of X G a12, by decide⟩
    rcases List.mem_cons.mp hp with rfl | hp
    · exact ⟨PySem.W.mg_of X G a13, by decide⟩
    rcases List.mem_cons.mp hp with rfl | hp
    · exact ⟨PySem.W.mg_of X G a14, by decide⟩
    rcases List.mem_cons.mp hp with rfl | hp
    · exact ⟨PySem.W.mg_of X G a15, by decide⟩
    rcases List.mem_cons.mp hp with rfl | hp
    · exact ⟨PySem.W.mg_of X G a16, by decide⟩
    rcases List.mem_cons.mp hp with rfl | hp
    · exact ⟨PySem.W.mg_of X G a17, by decide⟩
    rcases List.mem_cons.mp hp with rfl | hp
    · exact ⟨PySem.W.mg_of X G a18, by decide⟩
    rcases List.mem_cons.mp hp with rfl | hp
    · exact ⟨PySem.W.mg_of X G a19, by decide⟩
    rcases List.mem_cons.mp hp with rfl | hp
    · exact ⟨PySem.W.mg_of X G a20, by decide⟩
    rcases List.mem_cons.mp hp with rfl | hp
    · exact ⟨PySem.W.mg_of X G a21, by decide⟩
    rcases List.mem_cons.mp hp with rfl | hp
    · exact ⟨PySem.W.mg_of X G a22, by decide⟩
    rcases List.mem_cons.mp hp with rfl | hp
    · exact ⟨PySem.W.mg_of X G a23, by decide⟩
    rcases List.mem_cons.mp hp with rfl | hp
    · exact ⟨PySem.W.mg_of X G a24, by decide⟩
    rcases List.mem_cons.mp hp with rfl | hp
    · exact ⟨PySem.W.mg_of X G a25, by decide⟩
    rcases List.mem_cons.mp hp with rfl | hp
    · exact ⟨PySem.W.mg_of X G a26, by decide⟩
    rcases List.mem_cons.mp hp with rfl | hp
    · exact ⟨PySem.W.mg_of X G a27, by decide⟩
    rcases List.mem_cons.mp hp with rfl | hp
    · exact ⟨PySem.W.mg_of X G a28, by decide⟩
    rcases List.mem_cons.mp hp with rfl | hp
    · exact ⟨PySem.W.mg_of X G a29, by decide⟩
    rcases List.mem_cons.mp hp with rfl | hp
    · exact ⟨PySem.W.mg_of X G a30, by decide⟩
    rcases List.mem_cons.mp hp with rfl | hp
    · exact ⟨PySem.W.mg_of X G a31, by decide⟩
    rcases List.mem_cons.mp hp with rfl | hp
    · exact ⟨PySem.W.mg_of X G a32, by decide⟩
    rcases List.mem_cons.mp hp with rfl | hp
    · exact ⟨PySem.W.mg_of X G a33, by decide⟩
    cases hp
  refine ⟨fun x i e => ?_, fun x f e => (hgf _ (look e)).1, fun x hx => PySem.W.mg_none_of X G (bl x hx), fun x f e => (hgf _ (look e)).2⟩
  obtain ⟨t, ht⟩ := gi0 _ (look e)
  exact ⟨t, PySem.W.mg_of X G ht⟩
theorem errl {l : List Addr} {C1 C2 C3 : Addr} (X : K.In h) (G : h.Ns mainGlobals mg) (zs : PySem.W.nsIn K mainGlobals "super" = some none)
    (aC1 : PySem.W.nsIn K mainGlobals "HeapError" = some (some (.ref C1))) (e1 : ∃ fI, PySem.ErrX.ErrTxt pw K C1 fI) (i1 : PySem.W.isClsIn K C1 = true)
    (aC2 : PySem.W.nsIn K mainGlobals "ArgumentError" = some (some (.ref C2))) (e2 : ∃ fI, PySem.ErrX.ErrTxt pw K C2 fI) (i2 : PySem.W.isClsIn K C2 = true)
    (aC3 : PySem.W.nsIn K mainGlobals "PaperError" = some (some (.ref C3))) (e3 : ∃ fI, PySem.ErrX.ErrTxt pw K C3 fI) (i3 : PySem.W.isClsIn K C3 = true)
    (u11 : PySem.W.subIn K (.ref C1) (.ref C1) = some true)
    (u12 : PySem.W.subIn K (.ref C1) (.ref C2) = some false)
    (u13 : PySem.W.subIn K (.ref C1) (.ref C3) = some false)
    (u21 : PySem.W.subIn K (.ref C2) (.ref C1) = some false)
    (u22 : PySem.W.subIn K (.ref C2) (.ref C2) = some true)
    (u23 : PySem.W.subIn K (.ref C2) (.ref C3) = some false)
    (u31 : PySem.W.subIn K (.ref C3) (.ref C1) = some false)
    (u32 : PySem.W.subIn K (.ref C3) (.ref C2) = some false)
    (u33 : PySem.W.subIn K (.ref C3) (.ref C3) = some true)
    : ErrL (tab l C1 C2 C3) pw K mg ⟨[], gi, gf, gc⟩ := by
  have hgc : ∀ y kc, gc.lookup y = some kc → (kc = 1 ∧ mg y = some (.ref C1)) ∨ (kc = 2 ∧ mg y = some (.ref C2)) ∨ (kc = 3 ∧ mg y = some (.ref C3)) := by
    intro y kc e
    unfold gc at e
    rw [List.lookup_cons] at e
    cases q0 : (y == ("HeapError" : Str)) with
    | true =>
      rw [q0] at e
      cases e
      have : y = ("HeapError" : Str) := by simpa using q0
      subst this
      exact .inl ⟨rfl, PySem.W.mg_of X G aC1⟩
    | false =>
    rw [q0] at e
    dsimp only at e
    rw [List.lookup_cons] at e
    cases q1 : (y == ("ArgumentError" : Str)) with
    | true =>
      rw [q1] at e
      cases e
      have : y = ("ArgumentError" : Str) := by simpa using q1
      subst this
      exact .inr (.inl ⟨rfl, PySem.W.mg_of X G aC2⟩)
    | false =>
    rw [q1] at e
    dsimp only at e
    rw [List.lookup_cons] at e
    cases q2 : (y == ("PaperError" : Str)) with
    | true =>
      rw [q2] at e
      cases e
      have : y = ("PaperError" : Str) := by simpa using q2
      subst this
      exact .inr (.inr ⟨rfl, PySem.W.mg_of X G aC3⟩)
    | false =>
    rw [q2] at e
    dsimp only at e
    cases e
  refine ⟨PySem.W.mg_none_of X G zs, fun y kc e => ?_, fun kc => ⟨rfl, ?_⟩, fun y kc kc' e => ?_⟩
  · rcases hgc y kc e with ⟨rfl, q⟩ | ⟨rfl, q⟩ | ⟨rfl, q⟩ <;> exact q
  · show ∃ fI, PySem.ErrX.ErrTxt pw K (cad C1 C2 C3 kc) fI
    unfold cad
    split
    · exact e1
    · split
      · exact e2
      · exact e3
  · obtain ⟨fI1, t1⟩ := e1
    obtain ⟨fI2, t2⟩ := e2
    obtain ⟨fI3, t3⟩ := e3
    show PySem.W.exmOne K (.ref (cad C1 C2 C3 kc')) (.ref (cad C1 C2 C3 kc)) = some (subs kc' kc)
    have x : ∀ n, (cl n = 1 ∧ cad C1 C2 C3 n = C1) ∨ (cl n = 2 ∧ cad C1 C2 C3 n = C2) ∨ (cl n = 3 ∧ cad C1 C2 C3 n = C3) := by
      intro n
      unfold cl cad
      split
      · exact .inl ⟨rfl, rfl⟩
      · split
        · exact .inr (.inl ⟨rfl, rfl⟩)
        · exact .inr (.inr ⟨rfl, rfl⟩)
    unfold subs
    rcases x kc' with ⟨u1, u2⟩ | ⟨u1, u2⟩ | ⟨u1, u2⟩ <;> rcases x kc with ⟨v1, v2⟩ | ⟨v1, v2⟩ | ⟨v1, v2⟩ <;> rw [u1, u2, v1, v2]
    · exact exm_of t1.exC i1 t1.tyC u11
    · exact exm_of t2.exC i2 t2.tyC u12
    · exact exm_of t3.exC i3 t3.tyC u13
    · exact exm_of t1.exC i1 t1.tyC u21
    · exact exm_of t2.exC i2 t2.tyC u22
    · exact exm_of t3.exC i3 t3.tyC u23
    · exact exm_of t1.exC i1 t1.tyC u31
    · exact exm_of t2.exC i2 t2.tyC u32
    · exact exm_of t3.exC i3 t3.tyC u33
theorem defok {T : Tab} {f : Addr} {fd : FuncData} {n : Nat} {x : Str} {st : Stmt} {i : FnI} {c : Sc} {ps : List Str} (F : L2.Fun K x x st f fd) (hf : T.fa n = f) (S : FnScope c.N ps (defScope st)) (hp : ps.length = i.ar) (hN : c.N.length = i.nloc) (hle : i.ar ≤ i.nloc)
    (b : ∀ (kV doc pm : Value) (an : Option Addr) (cdv ct : Value) (us : List Value), us.length = ps.length → bindArgs (PySem.W.fnOf x x (defArgs st) (defBody st) (defScope st) .none kV doc pm an cdv ct) ⟨us, []⟩ = pure (ps.zip us))
    (m : mtS c (defScope st) fuel i.body (defBody st) = true) (L : Link T K mg c) (E : ErrL T pw K mg c) : DefOk T pw K mg n i := by
  subst hf
  refine ⟨F.kp, ?_⟩
  obtain ⟨oc, od, kV, doc, pm, an, cdv, ct, osl, rfl, lk, hcd⟩ := F.ex
  exact ⟨c, x, x, defArgs st, defBody st, defScope st, .none, kV, doc, pm, cdv, ct, oc, an, od, osl, ps, lk, hcd, S, .all (b kV doc pm an cdv ct), hp, hN, hle, m, L, E⟩
theorem all {f0 f1 f2 f3 f4 f5 f6 f7 f8 f9 f10 f11 f12 f13 f14 f15 f16 f17 f18 f19 f20 f21 f22 f23 f24 f25 f26 f27 f28 f29 f30 f31 f32 f33 C1 C2 C3 : Addr} {d0 d1 d2 d3 d4 d5 d6 d7 d8 d9 d10 d11 d12 d13 d14 d15 d16 d17 d18 d19 d20 d21 d22 d23 d24 d25 d26 d27 d28 d29 d30 d31 d32 d33 : FuncData} (X : K.In h) (G : h.Ns mainGlobals mg) {fa : Addr} (hfa : mg "law" = some (.ref fa))
    (a0 : PySem.W.nsIn K mainGlobals "is_integer" = some (some (.ref f0)))
    (a1 : PySem.W.nsIn K mainGlobals "check_heap" = some (some (.ref f1)))
    (a2 : PySem.W.nsIn K mainGlobals "is_field" = some (some (.ref f2)))
    (a3 : PySem.W.nsIn K mainGlobals "check_roots" = some (some (.ref f3)))
    (a4 : PySem.W.nsIn K mainGlobals "check_cell" = some (some (.ref f4)))
    (a5 : PySem.W.nsIn K mainGlobals "check_both" = some (some (.ref f5)))
    (a6 : PySem.W.nsIn K mainGlobals "first_ways" = some (some (.ref f6)))
    (a7 : PySem.W.nsIn K mainGlobals "reached_from" = some (some (.ref f7)))
    (a8 : PySem.W.nsIn K mainGlobals "kept" = some (some (.ref f8)))
    (a9 : PySem.W.nsIn K mainGlobals "freed" = some (some (.ref f9)))
    (a10 : PySem.W.nsIn K mainGlobals "end_of" = some (some (.ref f10)))
    (a11 : PySem.W.nsIn K mainGlobals "judge_cell" = some (some (.ref f11)))
    (a12 : PySem.W.nsIn K mainGlobals "accept_way" = some (some (.ref f12)))
    (a13 : PySem.W.nsIn K mainGlobals "is_set" = some (some (.ref f13)))
    (a14 : PySem.W.nsIn K mainGlobals "accept_free" = some (some (.ref f14)))
    (a15 : PySem.W.nsIn K mainGlobals "least_free" = some (some (.ref f15)))
    (a16 : PySem.W.nsIn K mainGlobals "ways_count" = some (some (.ref f16)))
    (a17 : PySem.W.nsIn K mainGlobals "rings" = some (some (.ref f17)))
    (a18 : PySem.W.nsIn K mainGlobals "depth_of" = some (some (.ref f18)))
    (a19 : PySem.W.nsIn K mainGlobals "_law_start" = some (some (.ref f19)))
    (a20 : PySem.W.nsIn K mainGlobals "_law_draw" = some (some (.ref f20)))
    (a21 : PySem.W.nsIn K mainGlobals "_law_pick" = some (some (.ref f21)))
    (a22 : PySem.W.nsIn K mainGlobals "_law_same" = some (some (.ref f22)))
    (a23 : PySem.W.nsIn K mainGlobals "_law_led" = some (some (.ref f23)))
    (a24 : PySem.W.nsIn K mainGlobals "_law_great" = some (some (.ref f24)))
    (a25 : PySem.W.nsIn K mainGlobals "_law_ways" = some (some (.ref f25)))
    (a26 : PySem.W.nsIn K mainGlobals "_law_rings" = some (some (.ref f26)))
    (a27 : PySem.W.nsIn K mainGlobals "_law_behind" = some (some (.ref f27)))
    (a28 : PySem.W.nsIn K mainGlobals "_law_end" = some (some (.ref f28)))
    (a29 : PySem.W.nsIn K mainGlobals "_law_bare" = some (some (.ref f29)))
    (a30 : PySem.W.nsIn K mainGlobals "_law_reason" = some (some (.ref f30)))
    (a31 : PySem.W.nsIn K mainGlobals "_law_free_due" = some (some (.ref f31)))
    (a32 : PySem.W.nsIn K mainGlobals "_law_papers_hold" = some (some (.ref f32)))
    (a33 : PySem.W.nsIn K mainGlobals "law" = some (some (.ref f33)))
    (F0 : L2.Fun K "is_integer" "is_integer" (top 6) f0 d0)
    (F1 : L2.Fun K "check_heap" "check_heap" (top 11) f1 d1)
    (F2 : L2.Fun K "is_field" "is_field" (top 12) f2 d2)
    (F3 : L2.Fun K "check_roots" "check_roots" (top 13) f3 d3)
    (F4 : L2.Fun K "check_cell" "check_cell" (top 14) f4 d4)
    (F5 : L2.Fun K "check_both" "check_both" (top 15) f5 d5)
    (F6 : L2.Fun K "first_ways" "first_ways" (top 16) f6 d6)
    (F7 : L2.Fun K "reached_from" "reached_from" (top 17) f7 d7)
    (F8 : L2.Fun K "kept" "kept" (top 18) f8 d8)
    (F9 : L2.Fun K "freed" "freed" (top 19) f9 d9)
    (F10 : L2.Fun K "end_of" "end_of" (top 20) f10 d10)
    (F11 : L2.Fun K "judge_cell" "judge_cell" (top 21) f11 d11)
    (F12 : L2.Fun K "accept_way" "accept_way" (top 22) f12 d12)
    (F13 : L2.Fun K "is_set" "is_set" (top 23) f13 d13)
    (F14 : L2.Fun K "accept_free" "accept_free" (top 24) f14 d14)
    (F15 : L2.Fun K "least_free" "least_free" (top 25) f15 d15)
    (F16 : L2.Fun K "ways_count" "ways_count" (top 26) f16 d16)
    (F17 : L2.Fun K "rings" "rings" (top 27) f17 d17)
    (F18 : L2.Fun K "depth_of" "depth_of" (top 28) f18 d18)
    (F19 : L2.Fun K "_law_start" "_law_start" (top 30) f19 d19)
    (F20 : L2.Fun K "_law_draw" "_law_draw" (top 31) f20 d20)
    (F21 : L2.Fun K "_law_pick" "_law_pick" (top 32) f21 d21)
    (F22 : L2.Fun K "_law_same" "_law_same" (top 33) f22 d22)
    (F23 : L2.Fun K "_law_led" "_law_led" (top 34) f23 d23)
    (F24 : L2.Fun K "_law_great" "_law_great" (top 35) f24 d24)
    (F25 : L2.Fun K "_law_ways" "_law_ways" (top 36) f25 d25)
    (F26 : L2.Fun K "_law_rings" "_law_rings" (top 37) f26 d26)
    (F27 : L2.Fun K "_law_behind" "_law_behind" (top 38) f27 d27)
    (F28 : L2.Fun K "_law_end" "_law_end" (top 39) f28 d28)
    (F29 : L2.Fun K "_law_bare" "_law_bare" (top 40) f29 d29)
    (F30 : L2.Fun K "_law_reason" "_law_reason" (top 41) f30 d30)
    (F31 : L2.Fun K "_law_free_due" "_law_free_due" (top 42) f31 d31)
    (F32 : L2.Fun K "_law_papers_hold" "_law_papers_hold" (top 43) f32 d32)
    (F33 : L2.Fun K "law" "law" (top 44) f33 d33)
    (gi0 : ∀ p ∈ gi, ∃ t, PySem.W.nsIn K mainGlobals p.1 = some (some (.int p.2 t))) (bl : ∀ x ∈ bltns, PySem.W.nsIn K mainGlobals x = some none) (zs : PySem.W.nsIn K mainGlobals "super" = some none)
    (aC1 : PySem.W.nsIn K mainGlobals "HeapError" = some (some (.ref C1))) (e1 : ∃ fI, PySem.ErrX.ErrTxt pw K C1 fI) (i1 : PySem.W.isClsIn K C1 = true)
    (aC2 : PySem.W.nsIn K mainGlobals "ArgumentError" = some (some (.ref C2))) (e2 : ∃ fI, PySem.ErrX.ErrTxt pw K C2 fI) (i2 : PySem.W.isClsIn K C2 = true)
    (aC3 : PySem.W.nsIn K mainGlobals "PaperError" = some (some (.ref C3))) (e3 : ∃ fI, PySem.ErrX.ErrTxt pw K C3 fI) (i3 : PySem.W.isClsIn K C3 = true)
    (u11 : PySem.W.subIn K (.ref C1) (.ref C1) = some true)
    (u12 : PySem.W.subIn K (.ref C1) (.ref C2) = some false)
    (u13 : PySem.W.subIn K (.ref C1) (.ref C3) = some false)
    (u21 : PySem.W.subIn K (.ref C2) (.ref C1) = some false)
    (u22 : PySem.W.subIn K (.ref C2) (.ref C2) = some true)
    (u23 : PySem.W.subIn K (.ref C2) (.ref C3) = some false)
    (u31 : PySem.W.subIn K (.ref C3) (.ref C1) = some false)
    (u32 : PySem.W.subIn K (.ref C3) (.ref C2) = some false)
    (u33 : PySem.W.subIn K (.ref C3) (.ref C3) = some true)
    : ∃ (fd : FuncData) (ps : List Str) (sp : Sp), Binds K fd ps [] ∧ (∀ base : Heap, FnG pw w K mg base 9 fa fd ps sp) ∧ ∀ (H : Hp) (a : Addr) (ns : List Int), Only H → SqL K H a (ns.map V.int) → sp [.ref a] H (fun v _ => v = .bl true) fun _ _ _ => False := by
  have L := link (C1 := C1) (C2 := C2) (C3 := C3) X G gi0 bl a0 a1 a2 a3 a4 a5 a6 a7 a8 a9 a10 a11 a12 a13 a14 a15 a16 a17 a18 a19 a20 a21 a22 a23 a24 a25 a26 a27 a28 a29 a30 a31 a32 a33
  have E := errl (l := [f0, f1, f2, f3, f4, f5, f6, f7, f8, f9, f10, f11, f12, f13, f14, f15, f16, f17, f18, f19, f20, f21, f22, f23, f24, f25, f26, f27, f28, f29, f30, f31, f32, f33]) X G zs aC1 e1 i1 aC2 e2 i2 aC3 e3 i3 u11 u12 u13 u21 u22 u23 u31 u32 u33
  have D0 : DefOk (tab [f0, f1, f2, f3, f4, f5, f6, f7, f8, f9, f10, f11, f12, f13, f14, f15, f16, f17, f18, f19, f20, f21, f22, f23, f24, f25, f26, f27, f28, f29, f30, f31, f32, f33] C1 C2 C3) pw K mg 0 ⟨"is_integer", 1, 1, true, b0⟩ := defok F0 rfl s0 rfl rfl (by decide) (fun _ _ _ _ _ _ us hl => match us, hl with | [_], _ => rfl) m0 ⟨L.gi, L.gf, L.bl, L.gfl⟩ ⟨E.sup, E.gc, E.err, E.exm⟩
  have D1 : DefOk (tab [f0, f1, f2, f3, f4, f5, f6, f7, f8, f9, f10, f11, f12, f13, f14, f15, f16, f17, f18, f19, f20, f21, f22, f23, f24, f25, f26, f27, f28, f29, f30, f31, f32, f33] C1 C2 C3) pw K mg 1 ⟨"check_heap", 1, 3, true, b1⟩ := defok F1 rfl s1 rfl rfl (by decide) (fun _ _ _ _ _ _ us hl => match us, hl with | [_], _ => rfl) m1 ⟨L.gi, L.gf, L.bl, L.gfl⟩ ⟨E.sup, E.gc, E.err, E.exm⟩
  have D2 : DefOk (tab [f0, f1, f2, f3, f4, f5, f6, f7, f8, f9, f10, f11, f12, f13, f14, f15, f16, f17, f18, f19, f20, f21, f22, f23, f24, f25, f26, f27, f28, f29, f30, f31, f32, f33] C1 C2 C3) pw K mg 2 ⟨"is_field", 2, 2, true, b2⟩ := defok F2 rfl s2 rfl rfl (by decide) (fun _ _ _ _ _ _ us hl => match us, hl with | [_, _], _ => rfl) m2 ⟨L.gi, L.gf, L.bl, L.gfl⟩ ⟨E.sup, E.gc, E.err, E.exm⟩
  have D3 : DefOk (tab [f0, f1, f2, f3, f4, f5, f6, f7, f8, f9, f10, f11, f12, f13, f14, f15, f16, f17, f18, f19, f20, f21, f22, f23, f24, f25, f26, f27, f28, f29, f30, f31, f32, f33] C1 C2 C3) pw K mg 3 ⟨"check_roots", 2, 3, true, b3⟩ := defok F3 rfl s3 rfl rfl (by decide) (fun _ _ _ _ _ _ us hl => match us, hl with | [_, _], _ => rfl) m3 ⟨L.gi, L.gf, L.bl, L.gfl⟩ ⟨E.sup, E.gc, E.err, E.exm⟩
  have D4 : DefOk (tab [f0, f1, f2, f3, f4, f5, f6, f7, f8, f9, f10, f11, f12, f13, f14, f15, f16, f17, f18, f19, f20, f21, f22, f23, f24, f25, f26, f27, f28, f29, f30, f31, f32, f33] C1 C2 C3) pw K mg 4 ⟨"check_cell", 2, 2, true, b4⟩ := defok F4 rfl s4 rfl rfl (by decide) (fun _ _ _ _ _ _ us hl => match us, hl with | [_, _], _ => rfl) m4 ⟨L.gi, L.gf, L.bl, L.gfl⟩ ⟨E.sup, E.gc, E.err, E.exm⟩
  have D5 : DefOk (tab [f0, f1, f2, f3, f4, f5, f6, f7, f8, f9, f10, f11, f12, f13, f14, f15, f16, f17, f18, f19, f20, f21, f22, f23, f24, f25, f26, f27, f28, f29, f30, f31, f32, f33] C1 C2 C3) pw K mg 5 ⟨"check_both", 2, 2, true, b5⟩ := defok F5 rfl s5 rfl rfl (by decide) (fun _ _ _ _ _ _ us hl => match us, hl with | [_, _], _ => rfl) m5 ⟨L.gi, L.gf, L.bl, L.gfl⟩ ⟨E.sup, E.gc, E.err, E.exm⟩
  have D6 : DefOk (tab [f0, f1, f2, f3, f4, f5, f6, f7, f8, f9, f10, f11, f12, f13, f14, f15, f16, f17, f18, f19, f20, f21, f22, f23, f24, f25, f26, f27, f28, f29, f30, f31, f32, f33] C1 C2 C3) pw K mg 6 ⟨"first_ways", 2, 10, true, b6⟩ := defok F6 rfl s6 rfl rfl (by decide) (fun _ _ _ _ _ _ us hl => match us, hl with | [_, _], _ => rfl) m6 ⟨L.gi, L.gf, L.bl, L.gfl⟩ ⟨E.sup, E.gc, E.err, E.exm⟩
  have D7 : DefOk (tab [f0, f1, f2, f3, f4, f5, f6, f7, f8, f9, f10, f11, f12, f13, f14, f15, f16, f17, f18, f19, f20, f21, f22, f23, f24, f25, f26, f27, f28, f29, f30, f31, f32, f33] C1 C2 C3) pw K mg 7 ⟨"reached_from", 2, 2, true, b7⟩ := defok F7 rfl s7 rfl rfl (by decide) (fun _ _ _ _ _ _ us hl => match us, hl with | [_, _], _ => rfl) m7 ⟨L.gi, L.gf, L.bl, L.gfl⟩ ⟨E.sup, E.gc, E.err, E.exm⟩
  have D8 : DefOk (tab [f0, f1, f2, f3, f4, f5, f6, f7, f8, f9, f10, f11, f12, f13, f14, f15, f16, f17, f18, f19, f20, f21, f22, f23, f24, f25, f26, f27, f28, f29, f30, f31, f32, f33] C1 C2 C3) pw K mg 8 ⟨"kept", 2, 2, true, b8⟩ := defok F8 rfl s8 rfl rfl (by decide) (fun _ _ _ _ _ _ us hl => match us, hl with | [_, _], _ => rfl) m8 ⟨L.gi, L.gf, L.bl, L.gfl⟩ ⟨E.sup, E.gc, E.err, E.exm⟩
  have D9 : DefOk (tab [f0, f1, f2, f3, f4, f5, f6, f7, f8, f9, f10, f11, f12, f13, f14, f15, f16, f17, f18, f19, f20, f21, f22, f23, f24, f25, f26, f27, f28, f29, f30, f31, f32, f33] C1 C2 C3) pw K mg 9 ⟨"freed", 2, 4, true, b9⟩ := defok F9 rfl s9 rfl rfl (by decide) (fun _ _ _ _ _ _ us hl => match us, hl with | [_, _], _ => rfl) m9 ⟨L.gi, L.gf, L.bl, L.gfl⟩ ⟨E.sup, E.gc, E.err, E.exm⟩
  have D10 : DefOk (tab [f0, f1, f2, f3, f4, f5, f6, f7, f8, f9, f10, f11, f12, f13, f14, f15, f16, f17, f18, f19, f20, f21, f22, f23, f24, f25, f26, f27, f28, f29, f30, f31, f32, f33] C1 C2 C3) pw K mg 10 ⟨"end_of", 3, 5, true, b10⟩ := defok F10 rfl s10 rfl rfl (by decide) (fun _ _ _ _ _ _ us hl => match us, hl with | [_, _, _], _ => rfl) m10 ⟨L.gi, L.gf, L.bl, L.gfl⟩ ⟨E.sup, E.gc, E.err, E.exm⟩
  have D11 : DefOk (tab [f0, f1, f2, f3, f4, f5, f6, f7, f8, f9, f10, f11, f12, f13, f14, f15, f16, f17, f18, f19, f20, f21, f22, f23, f24, f25, f26, f27, f28, f29, f30, f31, f32, f33] C1 C2 C3) pw K mg 11 ⟨"judge_cell", 3, 5, true, b11⟩ := defok F11 rfl s11 rfl rfl (by decide) (fun _ _ _ _ _ _ us hl => match us, hl with | [_, _, _], _ => rfl) m11 ⟨L.gi, L.gf, L.bl, L.gfl⟩ ⟨E.sup, E.gc, E.err, E.exm⟩
  have D12 : DefOk (tab [f0, f1, f2, f3, f4, f5, f6, f7, f8, f9, f10, f11, f12, f13, f14, f15, f16, f17, f18, f19, f20, f21, f22, f23, f24, f25, f26, f27, f28, f29, f30, f31, f32, f33] C1 C2 C3) pw K mg 12 ⟨"accept_way", 4, 5, true, b12⟩ := defok F12 rfl s12 rfl rfl (by decide) (fun _ _ _ _ _ _ us hl => match us, hl with | [_, _, _, _], _ => rfl) m12 ⟨L.gi, L.gf, L.bl, L.gfl⟩ ⟨E.sup, E.gc, E.err, E.exm⟩
  have D13 : DefOk (tab [f0, f1, f2, f3, f4, f5, f6, f7, f8, f9, f10, f11, f12, f13, f14, f15, f16, f17, f18, f19, f20, f21, f22, f23, f24, f25, f26, f27, f28, f29, f30, f31, f32, f33] C1 C2 C3) pw K mg 13 ⟨"is_set", 2, 4, true, b13⟩ := defok F13 rfl s13 rfl rfl (by decide) (fun _ _ _ _ _ _ us hl => match us, hl with | [_, _], _ => rfl) m13 ⟨L.gi, L.gf, L.bl, L.gfl⟩ ⟨E.sup, E.gc, E.err, E.exm⟩
  have D14 : DefOk (tab [f0, f1, f2, f3, f4, f5, f6, f7, f8, f9, f10, f11, f12, f13, f14, f15, f16, f17, f18, f19, f20, f21, f22, f23, f24, f25, f26, f27, f28, f29, f30, f31, f32, f33] C1 C2 C3) pw K mg 14 ⟨"accept_free", 4, 7, true, b14⟩ := defok F14 rfl s14 rfl rfl (by decide) (fun _ _ _ _ _ _ us hl => match us, hl with | [_, _, _, _], _ => rfl) m14 ⟨L.gi, L.gf, L.bl, L.gfl⟩ ⟨E.sup, E.gc, E.err, E.exm⟩
  have D15 : DefOk (tab [f0, f1, f2, f3, f4, f5, f6, f7, f8, f9, f10, f11, f12, f13, f14, f15, f16, f17, f18, f19, f20, f21, f22, f23, f24, f25, f26, f27, f28, f29, f30, f31, f32, f33] C1 C2 C3) pw K mg 15 ⟨"least_free", 3, 9, true, b15⟩ := defok F15 rfl s15 rfl rfl (by decide) (fun _ _ _ _ _ _ us hl => match us, hl with | [_, _, _], _ => rfl) m15 ⟨L.gi, L.gf, L.bl, L.gfl⟩ ⟨E.sup, E.gc, E.err, E.exm⟩
  have D16 : DefOk (tab [f0, f1, f2, f3, f4, f5, f6, f7, f8, f9, f10, f11, f12, f13, f14, f15, f16, f17, f18, f19, f20, f21, f22, f23, f24, f25, f26, f27, f28, f29, f30, f31, f32, f33] C1 C2 C3) pw K mg 16 ⟨"ways_count", 3, 8, true, b16⟩ := defok F16 rfl s16 rfl rfl (by decide) (fun _ _ _ _ _ _ us hl => match us, hl with | [_, _, _], _ => rfl) m16 ⟨L.gi, L.gf, L.bl, L.gfl⟩ ⟨E.sup, E.gc, E.err, E.exm⟩
  have D17 : DefOk (tab [f0, f1, f2, f3, f4, f5, f6, f7, f8, f9, f10, f11, f12, f13, f14, f15, f16, f17, f18, f19, f20, f21, f22, f23, f24, f25, f26, f27, f28, f29, f30, f31, f32, f33] C1 C2 C3) pw K mg 17 ⟨"rings", 1, 6, true, b17⟩ := defok F17 rfl s17 rfl rfl (by decide) (fun _ _ _ _ _ _ us hl => match us, hl with | [_], _ => rfl) m17 ⟨L.gi, L.gf, L.bl, L.gfl⟩ ⟨E.sup, E.gc, E.err, E.exm⟩
  have D18 : DefOk (tab [f0, f1, f2, f3, f4, f5, f6, f7, f8, f9, f10, f11, f12, f13, f14, f15, f16, f17, f18, f19, f20, f21, f22, f23, f24, f25, f26, f27, f28, f29, f30, f31, f32, f33] C1 C2 C3) pw K mg 18 ⟨"depth_of", 2, 4, true, b18⟩ := defok F18 rfl s18 rfl rfl (by decide) (fun _ _ _ _ _ _ us hl => match us, hl with | [_, _], _ => rfl) m18 ⟨L.gi, L.gf, L.bl, L.gfl⟩ ⟨E.sup, E.gc, E.err, E.exm⟩
  have D19 : DefOk (tab [f0, f1, f2, f3, f4, f5, f6, f7, f8, f9, f10, f11, f12, f13, f14, f15, f16, f17, f18, f19, f20, f21, f22, f23, f24, f25, f26, f27, f28, f29, f30, f31, f32, f33] C1 C2 C3) pw K mg 19 ⟨"_law_start", 1, 3, false, b19⟩ := defok F19 rfl s19 rfl rfl (by decide) (fun _ _ _ _ _ _ us hl => match us, hl with | [_], _ => rfl) m19 ⟨L.gi, L.gf, L.bl, L.gfl⟩ ⟨E.sup, E.gc, E.err, E.exm⟩
  have D20 : DefOk (tab [f0, f1, f2, f3, f4, f5, f6, f7, f8, f9, f10, f11, f12, f13, f14, f15, f16, f17, f18, f19, f20, f21, f22, f23, f24, f25, f26, f27, f28, f29, f30, f31, f32, f33] C1 C2 C3) pw K mg 20 ⟨"_law_draw", 2, 3, true, b20⟩ := defok F20 rfl s20 rfl rfl (by decide) (fun _ _ _ _ _ _ us hl => match us, hl with | [_, _], _ => rfl) m20 ⟨L.gi, L.gf, L.bl, L.gfl⟩ ⟨E.sup, E.gc, E.err, E.exm⟩
  have D21 : DefOk (tab [f0, f1, f2, f3, f4, f5, f6, f7, f8, f9, f10, f11, f12, f13, f14, f15, f16, f17, f18, f19, f20, f21, f22, f23, f24, f25, f26, f27, f28, f29, f30, f31, f32, f33] C1 C2 C3) pw K mg 21 ⟨"_law_pick", 2, 2, true, b21⟩ := defok F21 rfl s21 rfl rfl (by decide) (fun _ _ _ _ _ _ us hl => match us, hl with | [_, _], _ => rfl) m21 ⟨L.gi, L.gf, L.bl, L.gfl⟩ ⟨E.sup, E.gc, E.err, E.exm⟩
  have D22 : DefOk (tab [f0, f1, f2, f3, f4, f5, f6, f7, f8, f9, f10, f11, f12, f13, f14, f15, f16, f17, f18, f19, f20, f21, f22, f23, f24, f25, f26, f27, f28, f29, f30, f31, f32, f33] C1 C2 C3) pw K mg 22 ⟨"_law_same", 2, 2, true, b22⟩ := defok F22 rfl s22 rfl rfl (by decide) (fun _ _ _ _ _ _ us hl => match us, hl with | [_, _], _ => rfl) m22 ⟨L.gi, L.gf, L.bl, L.gfl⟩ ⟨E.sup, E.gc, E.err, E.exm⟩
  have D23 : DefOk (tab [f0, f1, f2, f3, f4, f5, f6, f7, f8, f9, f10, f11, f12, f13, f14, f15, f16, f17, f18, f19, f20, f21, f22, f23, f24, f25, f26, f27, f28, f29, f30, f31, f32, f33] C1 C2 C3) pw K mg 23 ⟨"_law_led", 2, 7, true, b23⟩ := defok F23 rfl s23 rfl rfl (by decide) (fun _ _ _ _ _ _ us hl => match us, hl with | [_, _], _ => rfl) m23 ⟨L.gi, L.gf, L.bl, L.gfl⟩ ⟨E.sup, E.gc, E.err, E.exm⟩
  have D24 : DefOk (tab [f0, f1, f2, f3, f4, f5, f6, f7, f8, f9, f10, f11, f12, f13, f14, f15, f16, f17, f18, f19, f20, f21, f22, f23, f24, f25, f26, f27, f28, f29, f30, f31, f32, f33] C1 C2 C3) pw K mg 24 ⟨"_law_great", 1, 7, true, b24⟩ := defok F24 rfl s24 rfl rfl (by decide) (fun _ _ _ _ _ _ us hl => match us, hl with | [_], _ => rfl) m24 ⟨L.gi, L.gf, L.bl, L.gfl⟩ ⟨E.sup, E.gc, E.err, E.exm⟩
  have D25 : DefOk (tab [f0, f1, f2, f3, f4, f5, f6, f7, f8, f9, f10, f11, f12, f13, f14, f15, f16, f17, f18, f19, f20, f21, f22, f23, f24, f25, f26, f27, f28, f29, f30, f31, f32, f33] C1 C2 C3) pw K mg 25 ⟨"_law_ways", 2, 8, true, b25⟩ := defok F25 rfl s25 rfl rfl (by decide) (fun _ _ _ _ _ _ us hl => match us, hl with | [_, _], _ => rfl) m25 ⟨L.gi, L.gf, L.bl, L.gfl⟩ ⟨E.sup, E.gc, E.err, E.exm⟩
  have D26 : DefOk (tab [f0, f1, f2, f3, f4, f5, f6, f7, f8, f9, f10, f11, f12, f13, f14, f15, f16, f17, f18, f19, f20, f21, f22, f23, f24, f25, f26, f27, f28, f29, f30, f31, f32, f33] C1 C2 C3) pw K mg 26 ⟨"_law_rings", 1, 5, true, b26⟩ := defok F26 rfl s26 rfl rfl (by decide) (fun _ _ _ _ _ _ us hl => match us, hl with | [_], _ => rfl) m26 ⟨L.gi, L.gf, L.bl, L.gfl⟩ ⟨E.sup, E.gc, E.err, E.exm⟩
  have D27 : DefOk (tab [f0, f1, f2, f3, f4, f5, f6, f7, f8, f9, f10, f11, f12, f13, f14, f15, f16, f17, f18, f19, f20, f21, f22, f23, f24, f25, f26, f27, f28, f29, f30, f31, f32, f33] C1 C2 C3) pw K mg 27 ⟨"_law_behind", 2, 7, true, b27⟩ := defok F27 rfl s27 rfl rfl (by decide) (fun _ _ _ _ _ _ us hl => match us, hl with | [_, _], _ => rfl) m27 ⟨L.gi, L.gf, L.bl, L.gfl⟩ ⟨E.sup, E.gc, E.err, E.exm⟩
  have D28 : DefOk (tab [f0, f1, f2, f3, f4, f5, f6, f7, f8, f9, f10, f11, f12, f13, f14, f15, f16, f17, f18, f19, f20, f21, f22, f23, f24, f25, f26, f27, f28, f29, f30, f31, f32, f33] C1 C2 C3) pw K mg 28 ⟨"_law_end", 3, 5, true, b28⟩ := defok F28 rfl s28 rfl rfl (by decide) (fun _ _ _ _ _ _ us hl => match us, hl with | [_, _, _], _ => rfl) m28 ⟨L.gi, L.gf, L.bl, L.gfl⟩ ⟨E.sup, E.gc, E.err, E.exm⟩
  have D29 : DefOk (tab [f0, f1, f2, f3, f4, f5, f6, f7, f8, f9, f10, f11, f12, f13, f14, f15, f16, f17, f18, f19, f20, f21, f22, f23, f24, f25, f26, f27, f28, f29, f30, f31, f32, f33] C1 C2 C3) pw K mg 29 ⟨"_law_bare", 5, 5, true, b29⟩ := defok F29 rfl s29 rfl rfl (by decide) (fun _ _ _ _ _ _ us hl => match us, hl with | [_, _, _, _, _], _ => rfl) m29 ⟨L.gi, L.gf, L.bl, L.gfl⟩ ⟨E.sup, E.gc, E.err, E.exm⟩
  have D30 : DefOk (tab [f0, f1, f2, f3, f4, f5, f6, f7, f8, f9, f10, f11, f12, f13, f14, f15, f16, f17, f18, f19, f20, f21, f22, f23, f24, f25, f26, f27, f28, f29, f30, f31, f32, f33] C1 C2 C3) pw K mg 30 ⟨"_law_reason", 5, 7, true, b30⟩ := defok F30 rfl s30 rfl rfl (by decide) (fun _ _ _ _ _ _ us hl => match us, hl with | [_, _, _, _, _], _ => rfl) m30 ⟨L.gi, L.gf, L.bl, L.gfl⟩ ⟨E.sup, E.gc, E.err, E.exm⟩
  have D31 : DefOk (tab [f0, f1, f2, f3, f4, f5, f6, f7, f8, f9, f10, f11, f12, f13, f14, f15, f16, f17, f18, f19, f20, f21, f22, f23, f24, f25, f26, f27, f28, f29, f30, f31, f32, f33] C1 C2 C3) pw K mg 31 ⟨"_law_free_due", 4, 8, true, b31⟩ := defok F31 rfl s31 rfl rfl (by decide) (fun _ _ _ _ _ _ us hl => match us, hl with | [_, _, _, _], _ => rfl) m31 ⟨L.gi, L.gf, L.bl, L.gfl⟩ ⟨E.sup, E.gc, E.err, E.exm⟩
  have D32 : DefOk (tab [f0, f1, f2, f3, f4, f5, f6, f7, f8, f9, f10, f11, f12, f13, f14, f15, f16, f17, f18, f19, f20, f21, f22, f23, f24, f25, f26, f27, f28, f29, f30, f31, f32, f33] C1 C2 C3) pw K mg 32 ⟨"_law_papers_hold", 6, 8, true, b32⟩ := defok F32 rfl s32 rfl rfl (by decide) (fun _ _ _ _ _ _ us hl => match us, hl with | [_, _, _, _, _, _], _ => rfl) m32 ⟨L.gi, L.gf, L.bl, L.gfl⟩ ⟨E.sup, E.gc, E.err, E.exm⟩
  have D33 : DefOk (tab [f0, f1, f2, f3, f4, f5, f6, f7, f8, f9, f10, f11, f12, f13, f14, f15, f16, f17, f18, f19, f20, f21, f22, f23, f24, f25, f26, f27, f28, f29, f30, f31, f32, f33] C1 C2 C3) pw K mg 33 ⟨"law", 1, 15, true, b33⟩ := defok F33 rfl s33 rfl rfl (by decide) (fun _ _ _ _ _ _ us hl => match us, hl with | [_], _ => rfl) m33 ⟨L.gi, L.gf, L.bl, L.gfl⟩ ⟨E.sup, E.gc, E.err, E.exm⟩
  have hD : ∀ f i, (tab [f0, f1, f2, f3, f4, f5, f6, f7, f8, f9, f10, f11, f12, f13, f14, f15, f16, f17, f18, f19, f20, f21, f22, f23, f24, f25, f26, f27, f28, f29, f30, f31, f32, f33] C1 C2 C3).prg.fns[f]? = some i → DefOk (tab [f0, f1, f2, f3, f4, f5, f6, f7, f8, f9, f10, f11, f12, f13, f14, f15, f16, f17, f18, f19, f20, f21, f22, f23, f24, f25, f26, f27, f28, f29, f30, f31, f32, f33] C1 C2 C3) pw K mg f i := by
    intro f i e
    match f, e with
    | 0, e => exact (Option.some.inj e) ▸ D0
    | 1, e => exact (Option.some.inj e) ▸ D1
    | 2, e => exact (Option.some.inj e) ▸ D2
    | 3, e => exact (Option.some.inj e) ▸ D3
    | 4, e => exact (Option.some.inj e) ▸ D4
    | 5, e => exact (Option.some.inj e) ▸ D5
    | 6, e => exact (Option.some.inj e) ▸ D6
    | 7, e => exact (Option.some.inj e) ▸ D7
    | 8, e => exact (Option.some.inj e) ▸ D8
    | 9, e => exact (Option.some.inj e) ▸ D9
    | 10, e => exact (Option.some.inj e) ▸ D10
    | 11, e => exact (Option.some.inj e) ▸ D11
    | 12, e => exact (Option.some.inj e) ▸ D12
    | 13, e => exact (Option.some.inj e) ▸ D13
    | 14, e => exact (Option.some.inj e) ▸ D14
    | 15, e => exact (Option.some.inj e) ▸ D15
    | 16, e => exact (Option.some.inj e) ▸ D16
    | 17, e => exact (Option.some.inj e) ▸ D17
    | 18, e => exact (Option.some.inj e) ▸ D18
    | 19, e => exact (Option.some.inj e) ▸ D19
    | 20, e => exact (Option.some.inj e) ▸ D20
    | 21, e => exact (Option.some.inj e) ▸ D21
    | 22, e => exact (Option.some.inj e) ▸ D22
    | 23, e => exact (Option.some.inj e) ▸ D23
    | 24, e => exact (Option.some.inj e) ▸ D24
    | 25, e => exact (Option.some.inj e) ▸ D25
    | 26, e => exact (Option.some.inj e) ▸ D26
    | 27, e => exact (Option.some.inj e) ▸ D27
    | 28, e => exact (Option.some.inj e) ▸ D28
    | 29, e => exact (Option.some.inj e) ▸ D29
    | 30, e => exact (Option.some.inj e) ▸ D30
    | 31, e => exact (Option.some.inj e) ▸ D31
    | 32, e => exact (Option.some.inj e) ▸ D32
    | 33, e => exact (Option.some.inj e) ▸ D33
    | f + 34, e => exact absurd (show (none : Option FnI) = some i from e) (by simp)
  have e := hfa.symm.trans (PySem.W.mg_of X G a33)
  cases e
  obtain ⟨fd, ps, q1, q2, q3⟩ := fns_all (w := w) hD 9 33 _ rfl
  refine ⟨fd, ps, _, q3, q1, fun H a ns hO hS => ?_⟩
  obtain ⟨S, e⟩ := W58.law_true (k := 9) (by decide) ns
  exact sp_law (T := tab [f0, f1, f2, f3, f4, f5, f6, f7, f8, f9, f10, f11, f12, f13, f14, f15, f16, f17, f18, f19, f20, f21, f22, f23, f24, f25, f26, f27, f28, f29, f30, f31, f32, f33] C1 C2 C3) (k := 9) (f := 33) rfl rfl hO hS e
end
end Rk58

open PySem PySem.W PyProof.Rows
set_option Elab.async false
set_option maxRecDepth 100000 in
set_option maxHeartbeats 0 in
theorem PySem.Challenge.cw_nowayleft_k58_whole_heaps_at_their_great_holds : PySem.Challenge.rw_nowayleft_k58_whole_heaps_at_their_great.Holds := by
  w_on; o_law; k_head; (case hw => w_witness2)
  k_fill
  refine MP.walkG (l := PySem.Challenge.rw_nowayleft_k58_whole_heaps_at_their_great) (n := 63) (k := 9) rfl (by decide) rfl ⟨rfl, by decide, by decide⟩ (fun w h Y => PySem.W.kIn_of Y) ?F
  case F =>
    intro w mg fa h KX G hmg
    refine' Rk58.all KX G hmg ?a0 ?a1 ?a2 ?a3 ?a4 ?a5 ?a6 ?a7 ?a8 ?a9 ?a10 ?a11 ?a12 ?a13 ?a14 ?a15 ?a16 ?a17 ?a18 ?a19 ?a20 ?a21 ?a22 ?a23 ?a24 ?a25 ?a26 ?a27 ?a28 ?a29 ?a30 ?a31 ?a32 ?a33 ?F0 ?F1 ?F2 ?F3 ?F4 ?F5 ?F6 ?F7 ?F8 ?F9 ?F10 ?F11 ?F12 ?F13 ?F14 ?F15 ?F16 ?F17 ?F18 ?F19 ?F20 ?F21 ?F22 ?F23 ?F24 ?F25 ?F26 ?F27 ?F28 ?F29 ?F30 ?F31 ?F32 ?F33 ?gi0 ?bl ?zs ?aC1 ?e1 ?i1 ?aC2 ?e2 ?i2 ?aC3 ?e3 ?i3 ?u11 ?u12 ?u13 ?u21 ?u22 ?u23 ?u31 ?u32 ?u33
    (case a0 => k_is)
    (case a1 => k_is)
    (case a2 => k_is)
    (case a3 => k_is)
    (case a4 => k_is)
    (case a5 => k_is)
    (case a6 => k_is)
    (case a7 => k_is)
    (case a8 => k_is)
    (case a9 => k_is)
    (case a10 => k_is)
    (case a11 => k_is)
    (case a12 => k_is)
    (case a13 => k_is)
    (case a14 => k_is)
    (case a15 => k_is)
    (case a16 => k_is)
    (case a17 => k_is)
    (case a18 => k_is)
    (case a19 => k_is)
    (case a20 => k_is)
    (case a21 => k_is)
    (case a22 => k_is)
    (case a23 => k_is)
    (case a24 => k_is)
    (case a25 => k_is)
    (case a26 => k_is)
    (case a27 => k_is)
    (case a28 => k_is)
    (case a29 => k_is)
    (case a30 => k_is)
    (case a31 => k_is)
    (case a32 => k_is)
    (case a33 => k_is)
    (case F0 => exact L2.fun_mk (by k_is) (by k_is) (by k_is))
    (case F1 => exact L2.fun_mk (by k_is) (by k_is) (by k_is))
    (case F2 => exact L2.fun_mk (by k_is) (by k_is) (by k_is))
    (case F3 => exact L2.fun_mk (by k_is) (by k_is) (by k_is))
    (case F4 => exact L2.fun_mk (by k_is) (by k_is) (by k_is))
    (case F5 => exact L2.fun_mk (by k_is) (by k_is) (by k_is))
    (case F6 => exact L2.fun_mk (by k_is) (by k_is) (by k_is))
    (case F7 => exact L2.fun_mk (by k_is) (by k_is) (by k_is))
    (case F8 => exact L2.fun_mk (by k_is) (by k_is) (by k_is))
    (case F9 => exact L2.fun_mk (by k_is) (by k_is) (by k_is))
    (case F10 => exact L2.fun_mk (by k_is) (by k_is) (by k_is))
    (case F11 => exact L2.fun_mk (by k_is) (by k_is) (by k_is))
    (case F12 => exact L2.fun_mk (by k_is) (by k_is) (by k_is))
    (case F13 => exact L2.fun_mk (by k_is) (by k_is) (by k_is))
    (case F14 => exact L2.fun_mk (by k_is) (by k_is) (by k_is))
    (case F15 => exact L2.fun_mk (by k_is) (by k_is) (by k_is))
    (case F16 => exact L2.fun_mk (by k_is) (by k_is) (by k_is))
    (case F17 => exact L2.fun_mk (by k_is) (by k_is) (by k_is))
    (case F18 => exact L2.fun_mk (by k_is) (by k_is) (by k_is))
    (case F19 => exact L2.fun_mk (by k_is) (by k_is) (by k_is))
    (case F20 => exact L2.fun_mk (by k_is) (by k_is) (by k_is))
    (case F21 => exact L2.fun_mk (by k_is) (by k_is) (by k_is))
    (case F22 => exact L2.fun_mk (by k_is) (by k_is) (by k_is))
    (case F23 => exact L2.fun_mk (by k_is) (by k_is) (by k_is))
    (case F24 => exact L2.fun_mk (by k_is) (by k_is) (by k_is))
    (case F25 => exact L2.fun_mk (by k_is) (by k_is) (by k_is))
    (case F26 => exact L2.fun_mk (by k_is) (by k_is) (by k_is))
    (case F27 => exact L2.fun_mk (by k_is) (by k_is) (by k_is))
    (case F28 => exact L2.fun_mk (by k_is) (by k_is) (by k_is))
    (case F29 => exact L2.fun_mk (by k_is) (by k_is) (by k_is))
    (case F30 => exact L2.fun_mk (by k_is) (by k_is) (by k_is))
    (case F31 => exact L2.fun_mk (by k_is) (by k_is) (by k_is))
    (case F32 => exact L2.fun_mk (by k_is) (by k_is) (by k_is))
    (case F33 => exact L2.fun_mk (by k_is) (by k_is) (by k_is))
    (case gi0 => exact List.forall_mem_cons.mpr ⟨⟨_, by k_is⟩, List.forall_mem_cons.mpr ⟨⟨_, by k_is⟩, List.forall_mem_cons.mpr ⟨⟨_, by k_is⟩, fun _ z => nomatch z⟩⟩⟩)
    (case bl => exact List.forall_mem_cons.mpr ⟨by k_is, List.forall_mem_cons.mpr ⟨by k_is, List.forall_mem_cons.mpr ⟨by k_is, List.forall_mem_cons.mpr ⟨by k_is, List.forall_mem_cons.mpr ⟨by k_is, List.forall_mem_cons.mpr ⟨by k_is, List.forall_mem_cons.mpr ⟨by k_is, List.forall_mem_cons.mpr ⟨by k_is, List.forall_mem_cons.mpr ⟨by k_is, List.forall_mem_cons.mpr ⟨by k_is, List.forall_mem_cons.mpr ⟨by k_is, List.forall_mem_cons.mpr ⟨by k_is, List.forall_mem_cons.mpr ⟨by k_is, List.forall_mem_cons.mpr ⟨by k_is, List.forall_mem_cons.mpr ⟨by k_is, List.forall_mem_cons.mpr ⟨by k_is, List.forall_mem_cons.mpr ⟨by k_is, List.forall_mem_cons.mpr ⟨by k_is, List.forall_mem_cons.mpr ⟨by k_is, fun _ z => nomatch z⟩⟩⟩⟩⟩⟩⟩⟩⟩⟩⟩⟩⟩⟩⟩⟩⟩⟩⟩)
    (case zs => k_is)
    (case aC1 => k_is)
    (case i1 => k_is)
    (case aC2 => k_is)
    (case i2 => k_is)
    (case aC3 => k_is)
    (case i3 => k_is)
    (case e1 =>
      apply Exists.intro
      constructor
      case iC => k_is
      case cls => exact ⟨_, _, _, _, _, _, _, _, _, _, _, _, _, _, _, by k_is, by decide +kernel⟩
      case ei => kernel_rfl
      case sa => k_is
      case ga => k_is
      case gg => k_is
      case noN => k_is
      case tC => k_is
      case kC => k_is
      case exC => k_is
      case veC => k_is
      case slf => k_is
      case tp => k_is
      case tyC => k_is
      case hdC => k_is
      case sup => kernel_rfl
      case nosup => decide +kernel
      case fn => exact ⟨_, _, _, _, _, _, _, _, _, _, _, _, _, _, _, _, _, _, _, _, _, _, _, _, _, _, _, _, _, by k_is, by k_is, rfl, by k_is, rfl, rfl, rfl, by decide +kernel, fun env => ⟨_, rfl⟩⟩)
    (case e2 =>
      apply Exists.intro
      constructor
      case iC => k_is
      case cls => exact ⟨_, _, _, _, _, _, _, _, _, _, _, _, _, _, _, by k_is, by decide +kernel⟩
      case ei => kernel_rfl
      case sa => k_is
      case ga => k_is
      case gg => k_is
      case noN => k_is
      case tC => k_is
      case kC => k_is
      case exC => k_is
      case veC => k_is
      case slf => k_is
      case tp => k_is
      case tyC => k_is
      case hdC => k_is
      case sup => kernel_rfl
      case nosup => decide +kernel
      case fn => exact ⟨_, _, _, _, _, _, _, _, _, _, _, _, _, _, _, _, _, _, _, _, _, _, _, _, _, _, _, _, _, by k_is, by k_is, rfl, by k_is, rfl, rfl, rfl, by decide +kernel, fun env => ⟨_, rfl⟩⟩)
    (case e3 =>
      apply Exists.intro
      constructor
      case iC => k_is
      case cls => exact ⟨_, _, _, _, _, _, _, _, _, _, _, _, _, _, _, by k_is, by decide +kernel⟩
      case ei => kernel_rfl
      case sa => k_is
      case ga => k_is
      case gg => k_is
      case noN => k_is
      case tC => k_is
      case kC => k_is
      case exC => k_is
      case veC => k_is
      case slf => k_is
      case tp => k_is
      case tyC => k_is
      case hdC => k_is
      case sup => kernel_rfl
      case nosup => decide +kernel
      case fn => exact ⟨_, _, _, _, _, _, _, _, _, _, _, _, _, _, _, _, _, _, _, _, _, _, _, _, _, _, _, _, _, by k_is, by k_is, rfl, by k_is, rfl, rfl, rfl, by decide +kernel, fun env => ⟨_, rfl⟩⟩)
    (case u11 => k_is)
    (case u12 => k_is)
    (case u13 => k_is)
    (case u21 => k_is)
    (case u22 => k_is)
    (case u23 => k_is)
    (case u31 => k_is)
    (case u32 => k_is)
    (case u33 => k_is)

