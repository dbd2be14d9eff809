import PyProof.Rows.All
import Wide.All
import OpenK.AllK
import Wide.FinOn
import HandS.TupLe
import HandS.ForMost
import HandS.CallSlots
import HandS.Exc
import HandS.ExcOwn
import HandS.Deep
import HandS.FStr
import HandS.TupAny
import HandS.TupMul
import HandS.Style
import HandS.Flow
import HandS.Text
import HandS.List
import HandS.IsInst
import PyProof.StrLawsChain
import PyProof.StrLawsTight
import PyProof.Rows.StrItems
import HandS.TryOnly
import HandS.Iter
import HandS.Zip
import KE.GoesEnum
import HandS.Comp
import HandS.Strs
import HandS.ExcInit
import HandS.Defaults
import HandS.ExcField
import HandS.HeadHook2
import HandS.HeadEnd
import HandS.Base
import HandS.Call
import HandS.Ends
import HandS.More
import HandS.Words
import HandS.WordsExc
import HandS.Head0
import HandS.Head1
import HandS.Head2
import HandS.HeadHook1
import PySem.Challenge.RW_eatenways_k07_whole_lines_of_words
set_option Elab.async false
set_option linter.all false
set_option maxRecDepth 100000
section
set_option maxHeartbeats 400000
/-! TI: trees as values, a small code, its interpreter. Plain Lean. -/
namespace TI
open PySem

abbrev Key := Sum Int Str
/-- a dict's key: an int or a text; a tuple of such -/
abbrev DK := Sum Key (List Key)

inductive Kd where
  | tup
  | lst
  /-- the script: a list that is read alone -/
  | scr
  | dct (ks : List DK)
  | ins (c : Nat) (ns : List Str)
  | exn (c : Nat) (ns : List Str)
  deriving DecidableEq

/-- trees: a node bears a flag: it is owned here (true), or shared and never changed again (false). hole: nothing is known -/
inductive T where
  | hole
  | non
  | bl (b : Bool)
  | int (i : Int)
  | str (s : Str)
  | nd (k : Kd) (f : Bool) (xs : List T)

abbrev T.tup (xs : List T) : T := .nd .tup false xs
abbrev T.lst (f : Bool) (xs : List T) : T := .nd .lst f xs
abbrev T.dct (f : Bool) (ks : List DK) (xs : List T) : T := .nd (.dct ks) f xs

mutual
/-- it may be copied: nothing in it is owned -/
def T.free : T → Bool
  | .hole => false
  | .nd _ f xs => !f && T.freeL xs
  | _ => true
def T.freeL : List T → Bool
  | [] => true
  | x :: r => x.free && T.freeL r
end
mutual
/-- shared from now on -/
def T.frz : T → T
  | .nd k _ xs => .nd k false (T.frzL xs)
  | t => t
def T.frzL : List T → List T
  | [] => []
  | x :: r => x.frz :: T.frzL r
end
mutual
/-- no hole in it -/
def T.whole : T → Bool
  | .hole => false
  | .nd _ _ xs => T.wholeL xs
  | _ => true
def T.wholeL : List T → Bool
  | [] => true
  | x :: r => x.whole && T.wholeL r
end
mutual
/-- no caught exception in it -/
def T.noex : T → Bool
  | .nd (.exn _ _) _ _ => false
  | .nd _ _ xs => T.noexL xs
  | _ => true
def T.noexL : List T → Bool
  | [] => true
  | x :: r => x.noex && T.noexL r
end
/-- what a place's way may go through -/
def Kd.deep : Kd → Bool
  | .dct _ => true
  | .ins _ _ => true
  | _ => false
def T.kid : T → Nat → Option T
  | .nd _ _ xs, j => xs[j]?
  | _, _ => none
def T.get : T → List Nat → Option T
  | t, [] => some t
  | .nd k f xs, j :: p => if f && k.deep then (match xs[j]? with
    | some x => x.get p
    | none => none) else none
  | _, _ :: _ => none
def T.set (u : T) : T → List Nat → T
  | _, [] => u
  | .nd k f xs, j :: p => match xs[j]? with
    | some x => .nd k f (xs.set j (T.set u x p))
    | none => .nd k f xs
  | t, _ :: _ => t

/-! ### outcomes -/
abbrev Env := List (Option T)
/-- an expression's end: a value; an exception (its class, its fields); or nothing is said -/
inductive Out (α : Type) where
  | ok (a : α) (e : Env)
  | err (c : Nat) (xs : List T) (e : Env)
  | stuck
def Out.bind {α β : Type} (o : Out α) (f : α → Env → Out β) : Out β := match o with
  | .ok a e => f a e
  | .err c xs e => .err c xs e
  | .stuck => .stuck
/-- a statement's end -/
inductive SO where
  | nx (e : Env)
  | rt (t : T) (e : Env)
  | bk (e : Env)
  | ct (e : Env)
  | err (c : Nat) (xs : List T) (e : Env)
  | stuck
def Out.run {α : Type} (o : Out α) (f : α → Env → SO) : SO := match o with
  | .ok a e => f a e
  | .err c xs e => .err c xs e
  | .stuck => .stuck
def SO.next (o : SO) (f : Env → SO) : SO := match o with
  | .nx e => f e
  | o => o
/-- a call's end: the value or the exception, and the arguments as they are then -/
inductive CO where
  | ok (t : T) (fin : List T)
  | err (c : Nat) (xs : List T) (fin : List T)
  | stuck
/-- a value at hand, or a place: a slot and a way down from it -/
inductive RV where
  | tmp (t : T)
  | plc (r : Nat) (p : List Nat)

/-! ### the code -/
inductive BO where | add | sub | mul | fdiv | mod | pow
  deriving DecidableEq
inductive CP where | eq | ne | lt | le | gt | ge | isN | notN | inn | nin
  deriving DecidableEq
/-- built-in functions -/
inductive Bi where
  | len | sum | all | any | list | tuple | min2 | max2 | min1 | max1 | abs | int | bool | str | sorted | setlen | repr | dict | ziplist (strict : Bool) | sum2
  deriving DecidableEq
/-- methods that change nothing -/
inductive Mt where
  | join | split | index | count | get1 | get2 | upper | replace
  deriving DecidableEq
/-- methods that change their object -/
inductive Mm where
  | append | extend | pop0 | pop1 | insert | remove | clear
  deriving DecidableEq
/-- what isinstance asks for -/
inductive Cl where
  | int | bool | str | tuple | list | dict | cls (c : Nat)
  deriving DecidableEq

inductive C where
  | nil
  | cons (a r : C)
  | var (i : Nat)
  | glb (x : Str) (v : Sum Int Str)
  | int (i : Int)
  | str (s : Str)
  | bl (b : Bool)
  | non
  | tup (es : C)
  | lst (es : C)
  | dct (ks vs : C)
  | bin (op : BO) (a b : C)
  | neg (a : C)
  | notv (a : C)
  | andv (a b : C)
  | orv (a b : C)
  | cmp (op : CP) (a b : C)
  | chain (o1 o2 : CP) (a b c : C)
  | ife (t a b : C)
  | ix (a i : C)
  | sl (a lo hi : C)
  | sls (a st : C)
  | fld (a : C) (f : Str)
  | call (f : Nat) (es : C)
  | bi (b : Bi) (es : C)
  | isi (a : C) (cs : List Cl)
  | mt (m : Mt) (a es : C)
  | mm (m : Mm) (a es : C)
  | um (m : Str) (a es : C)
  | new (c : Nat) (es : C)
  | lc (own : List Nat) (tg it tst elt : C)
  | dc (own : List Nat) (tg it tst k v : C)
  | fstr (es : C)
  | itR1 (a : C)
  | itR2 (a b : C)
  | itE (a : C)
  | itZ (s : Bool) (es : C)
  | itM (a : C)
  | itV (a : C)
  | asg (tg e : C)
  | par (tgs es : C)
  | aug (op : BO) (tg e : C)
  | expr (e : C)
  | ret (e : C)
  | ret0
  | forS (tg it body : C)
  | whl (t body : C)
  | ifS (t a b : C)
  | rai (c : Nat) (es : C)
  | tryS (body hs : C)
  | hdl (c : Nat) (n : Option Nat) (body : C)
  | del (a i : C)
  | pass
  | brk
  | tv (i : Nat)
  | tt (tgs : C)
  | tst (i : Nat)
  | ts (a i : C)
  | tf (a : C) (f : Str)
  /-- a caught exception's field; is it of one of these classes -/
  | xf (i : Nat) (f : Str)
  | xi (i : Nat) (cs : List Nat)

/-! ### operations on trees -/
/-- the sizes that are let through -/
def lim : Nat := 1048576
def small (i : Int) : Bool := decide (-(2 ^ 64) < i) && decide (i < 2 ^ 64)
def capL (xs : List T) : Option T := if xs.length ≤ lim ∧ T.freeL xs = true then some (.lst true xs) else none
def capT (xs : List T) : Option T := if xs.length ≤ lim ∧ T.freeL xs = true then some (.tup xs) else none
def capS (s : Str) : Option T := if s.length ≤ lim then some (.str s) else none

def binT : BO → T → T → Option T
  | .add, .int i, .int j => some (.int (i + j))
  | .add, .str x, .str y => capS (x ++ y)
  | .add, .nd .lst _ xs, .nd .lst _ ys => capL (xs ++ ys)
  | .add, .nd .tup _ xs, .nd .tup _ ys => capT (xs ++ ys)
  | .sub, .int i, .int j => some (.int (i - j))
  | .mul, .int i, .int j => if small i || small j then some (.int (i * j)) else none
  | .mul, .nd .lst _ xs, .int n => if xs.length * n.toNat ≤ lim ∧ n < 2 ^ 60 ∧ -(2 ^ 60) < n then capL (List.replicate n.toNat xs).flatten else none
  | .mul, .nd .tup _ xs, .int n => if xs ≠ [] ∧ xs.length ≤ 1000 ∧ 2 ≤ n ∧ n ≤ 1000 then capT (List.replicate n.toNat xs).flatten else none
  | .fdiv, .int i, .int j => if 0 < j ∧ j < 1073741824 then some (.int (i / j)) else none
  | .mod, .int i, .int j => if 0 < j then some (.int (i % j)) else none
  | .pow, .int i, .int j => if 0 ≤ j ∧ j ≤ 1000 ∧ small i = true then some (.int (i ^ j.toNat)) else none
  | _, _, _ => none

/-- two lists, item by item -/
def eqvL (f : T → T → Option Bool) : List T → List T → Option Bool
  | [], [] => some true
  | x :: xs, y :: ys => match f x y, eqvL f xs ys with
    | some a, some b => some (a && b)
    | _, _ => none
  | _, _ => some false
/-- == of data: none, truth values, ints, texts; lists and tuples of such, n deep at most -/
def eqvN : Nat → T → T → Option Bool
  | _, .non, .non => some true
  | _, .bl a, .bl b => some (a == b)
  | _, .int a, .int b => some (a == b)
  | _, .bl a, .int b => some ((if a then 1 else 0) == b)
  | _, .int a, .bl b => some (a == (if b then 1 else 0))
  | _, .str a, .str b => some (decide (a = b))
  | n + 1, .nd .tup _ xs, .nd .tup _ ys => eqvL (eqvN n) xs ys
  | n + 1, .nd .lst _ xs, .nd .lst _ ys => if xs.length = ys.length then eqvL (eqvN n) xs ys else some false
  | _, .non, .bl _ => some false
  | _, .non, .int _ => some false
  | _, .non, .str _ => some false
  | _, .bl _, .non => some false
  | _, .bl _, .str _ => some false
  | _, .int _, .non => some false
  | _, .int _, .str _ => some false
  | _, .str _, .non => some false
  | _, .str _, .bl _ => some false
  | _, .str _, .int _ => some false
  | _, .non, .nd .tup _ _ => some false
  | _, .non, .nd .lst _ _ => some false
  | _, .bl _, .nd .tup _ _ => some false
  | _, .bl _, .nd .lst _ _ => some false
  | _, .int _, .nd .tup _ _ => some false
  | _, .int _, .nd .lst _ _ => some false
  | _, .str _, .nd .tup _ _ => some false
  | _, .str _, .nd .lst _ _ => some false
  | _, .nd .tup _ _, .non => some false
  | _, .nd .tup _ _, .bl _ => some false
  | _, .nd .tup _ _, .int _ => some false
  | _, .nd .tup _ _, .str _ => some false
  | _, .nd .tup _ _, .nd .lst _ _ => some false
  | _, .nd .lst _ _, .non => some false
  | _, .nd .lst _ _, .bl _ => some false
  | _, .nd .lst _ _, .int _ => some false
  | _, .nd .lst _ _, .str _ => some false
  | _, .nd .lst _ _, .nd .tup _ _ => some false
  | _, _, _ => none
abbrev T.eqv : T → T → Option Bool := eqvN 30
/-- x in xs -/
def memT (x : T) : List T → Option Bool
  | [] => some false
  | y :: r => match y.eqv x, memT x r with
    | some b, some c => some (b || c)
    | _, _ => none
def T.key1 : T → Option Key
  | .int i => some (.inl i)
  | .str s => some (.inr s)
  | _ => none
def keysL : List T → Option (List Key)
  | [] => some []
  | x :: r => match x.key1, keysL r with
    | some k, some ks => some (k :: ks)
    | _, _ => none
def T.key : T → Option DK
  | .int i => some (.inl (.inl i))
  | .str s => some (.inl (.inr s))
  | .nd .tup _ xs => (keysL xs).map .inr
  | _ => none
def Key.t : Key → T
  | .inl i => .int i
  | .inr s => .str s
def DK.t : DK → T
  | .inl k => Key.t k
  | .inr ks => .tup (ks.map Key.t)
def ixOf (ks : List DK) (k : DK) : Option Nat := ks.findIdx? (fun j => decide (j = k))
/-- keys of one sort -/
def sameSort (k : DK) (ks : List DK) : Bool := ks.all fun j => j.isLeft == k.isLeft

def lexLtI : List Int → List Int → Bool
  | [], [] => false
  | [], _ :: _ => true
  | _ :: _, [] => false
  | x :: xs, y :: ys => if x = y then lexLtI xs ys else decide (x < y)
def intsL : List T → Option (List Int)
  | [] => some []
  | .int i :: r => (intsL r).map (i :: ·)
  | _ => none
def strsL : List T → Option (List Str)
  | [] => some []
  | .str i :: r => (strsL r).map (i :: ·)
  | _ => none
def blsL : List T → Option (List Bool)
  | [] => some []
  | .bl i :: r => (blsL r).map (i :: ·)
  | _ => none

/-- one sign in a text -/
def signIn (x y : Str) : Option Bool := match x.cps.toList with
  | [c] => some (decide (c ∈ y.cps.toList))
  | _ => none
def inT (x : T) (y : T) : Option Bool := match y with
  | .nd .lst _ xs => if x.free && T.freeL xs then memT x xs else none
  | .nd .tup _ xs => if x.free && T.freeL xs then memT x xs else none
  | .str s => match x with
    | .str c => signIn c s
    | _ => none
  | _ => none
/-- == of two dicts, their values flat -/
def dctEq (ls : List DK) (ys : List T) : List DK → List T → Option Bool
  | [], [] => some true
  | k :: ks, x :: xs => match (ixOf ls k).bind fun j => ys[j]? with
    | some y => (match x.eqv y, dctEq ls ys ks xs with
      | some a, some b => some (a && b)
      | _, _ => none)
    | none => (dctEq ls ys ks xs).map fun _ => false
  | _, _ => none
def eqT : T → T → Option Bool
  | x, y => x.eqv y
def cmpT : CP → T → T → Option Bool
  | .eq, x, y => eqT x y
  | .ne, x, y => (eqT x y).map (!·)
  | .lt, .int i, .int j => some (decide (i < j))
  | .le, .int i, .int j => some (decide (i ≤ j))
  | .gt, .int i, .int j => some (decide (j < i))
  | .ge, .int i, .int j => some (decide (j ≤ i))
  | .isN, .hole, _ => none
  | .isN, .non, .non => some true
  | .isN, _, .non => some false
  | .isN, .bl a, .bl b => some (decide (a = b))
  | .notN, .hole, _ => none
  | .notN, .non, .non => some false
  | .notN, _, .non => some true
  | .notN, .bl a, .bl b => some (!decide (a = b))
  | .inn, x, y => inT x y
  | .nin, x, y => (inT x y).map (!·)
  | _, _, _ => none
def truT : T → Option Bool
  | .non => some false
  | .bl b => some b
  | .int i => some (i != 0)
  | .str s => if s.length ≤ lim then some ((s.length : Int) != 0) else none
  | .nd .tup _ xs => some (!xs.isEmpty)
  | .nd .lst _ xs => some (!xs.isEmpty)
  | _ => none
/-- the place that an index of any sign means -/
def ixNat (n : Nat) (i : Int) : Option Nat := if 0 ≤ i then (if i < n then some i.toNat else none) else if -(n : Int) ≤ i then some (i + n).toNat else none
def sIx (n d : Nat) : Option Int → Nat
  | none => d
  | some v => if v < 0 then (v + (n : Int)).toNat else min v.toNat n
def cut {α : Type} (xs : List α) (lo hi : Option Int) : List α := (xs.drop (sIx xs.length 0 lo)).take (sIx xs.length xs.length hi - sIx xs.length 0 lo)
def cutS (s : Str) (lo hi : Option Int) : Str := ⟨(cut s.cps.toList lo hi).toArray⟩
def slT (lo hi : Option Int) : T → Option T
  | .nd .lst _ xs => if T.freeL xs = true then capL (cut xs lo hi) else none
  | .nd .tup _ xs => if T.freeL xs = true then capT (cut xs lo hi) else none
  | .nd .scr _ xs => if T.freeL xs = true then capL (cut xs lo hi) else none
  | .str s => if s.length ≤ lim then some (.str (cutS s lo hi)) else none
  | _ => none
/-- a[::st] -/
def slsT (st : Int) : T → Option T
  | .nd .lst _ xs => if T.freeL xs = false then none else if st = 1 then capL xs else if st = -1 then capL xs.reverse else none
  | _ => none
/-- what a walk over a value yields -/
def itemsT : T → Option (List T)
  | .nd .lst _ xs => some xs
  | .nd .scr _ xs => some xs
  | .nd .tup _ xs => some xs
  | _ => none
/-- .. in a loop: a text's signs too -/
def itemsI : T → Option (List T)
  | .str s => if s.length ≤ lim then some (s.cps.toList.map fun c => .str ⟨#[c]⟩) else none
  | t => itemsT t
def joinS (sep : Str) : List Str → Str
  | [] => ⟨#[]⟩
  | [x] => x
  | x :: r => x ++ sep ++ joinS sep r
/-- s.split(c), c one sign: on lists of signs -/
def splitL (c : Nat) : List Nat → List (List Nat)
  | [] => [[]]
  | x :: r => if x = c then [] :: splitL c r else match splitL c r with
    | [] => [[x]]
    | w :: ws => (x :: w) :: ws
def splitS (sep s : Str) : Option (List Str) := match sep.cps.toList with
  | [c] => some ((splitL c s.cps.toList).map fun w => ⟨w.toArray⟩)
  | _ => none
inductive Ty where | non | bool | int | str | tuple | list | dict
  deriving DecidableEq
def tyT : T → Option Ty
  | .non => some .non
  | .bl _ => some .bool
  | .int _ => some .int
  | .str _ => some .str
  | .nd .tup _ _ => some .tuple
  | .nd .lst _ _ => some .list
  | .nd .scr _ _ => some .list
  | _ => none
def clY : Cl → Option Ty
  | .int => some .int
  | .bool => some .bool
  | .str => some .str
  | .tuple => some .tuple
  | .list => some .list
  | .dict => some .dict
  | .cls _ => none
def subY (a b : Ty) : Bool := decide (a = b) || (decide (a = .bool) && decide (b = .int))
def clT (c : Cl) (t : T) : Option Bool := match tyT t, clY c with
  | some a, some b => some (subY a b)
  | _, _ => none
def anyO : List (Option Bool) → Option Bool
  | [] => some false
  | some true :: _ => some true
  | some false :: r => anyO r
  | none :: _ => none
def insertLe (x : Str) : List Str → List Str
  | [] => [x]
  | y :: r => if decide (x.cps.toList < y.cps.toList) then x :: y :: r else y :: insertLe x r
def sortS : List Str → List Str
  | [] => []
  | x :: r => insertLe x (sortS r)
def biT : Bi → List T → Option T
  | .len, [.str s] => if s.length ≤ lim then some (.int s.length) else none
  | .len, [.nd .lst _ xs] => some (.int xs.length)
  | .len, [.nd .tup _ xs] => some (.int xs.length)
  | .len, [.nd .scr _ xs] => some (.int xs.length)
  | .sum, [.nd .lst _ xs] => (intsL xs).map fun is => .int is.sum
  | .all, [.nd .lst _ xs] => (blsL xs).map fun bs => .bl (bs.all id)
  | .any, [.nd .lst _ xs] => (blsL xs).map fun bs => .bl (bs.any id)
  | .list, [t] => match t with
    | .nd .lst _ xs => capL xs
    | .nd .tup _ xs => capL xs
    | .nd .scr _ xs => capL xs
    | _ => none
  | .tuple, [t] => match t with
    | .nd .lst _ xs => capT xs
    | .nd .tup _ xs => capT xs
    | _ => none
  | .min2, [.int i, .int j] => some (.int (if j < i then j else i))
  | .max2, [.int i, .int j] => some (.int (if j > i then j else i))
  | .abs, [.int i] => some (.int (if i < 0 then -i else i))
  | .int, [.int i] => some (.int i)
  | .int, [.bl b] => some (.int (if b then 1 else 0))
  | .setlen, [.nd .lst _ xs] => match strsL xs with
    | some ss => if ss.length ≤ 1000 then some (.int ss.eraseDups.length) else none
    | none => none
  | _, _ => none
/-- the first place of a text -/
def ixStr (s : Str) : List Str → Option Nat
  | [] => none
  | y :: r => if y = s then some 0 else (ixStr s r).map (· + 1)
/-- methods that change nothing -/
def mtT : Mt → T → List T → Option T
  | .join, .str sep, [.nd .lst _ xs] => match strsL xs with
    | some ss => if (ss.map (·.length)).sum + ss.length * sep.length ≤ lim then some (.str (joinS sep ss)) else none
    | none => none
  | .join, .str sep, [.nd .tup _ xs] => match strsL xs with
    | some ss => if (ss.map (·.length)).sum + ss.length * sep.length ≤ lim then some (.str (joinS sep ss)) else none
    | none => none
  | .split, .str s, [.str sep] => match splitS sep s with
    | some ws => if s.length ≤ lim then capL (ws.map .str) else none
    | none => none
  | .index, .nd .lst _ xs, [.str s] => match strsL xs with
    | some ss => (ixStr s ss).map fun n => .int n
    | none => none
  | .get1, .nd (.dct ks) _ xs, [k] => match k.key with
    | some k => if sameSort k ks then some (match ixOf ks k with | some j => (xs[j]?).getD .hole | none => .non) else none
    | none => none
  | .get2, .nd (.dct ks) _ xs, [k, d] => match k.key with
    | some k => if sameSort k ks then some (match ixOf ks k with | some j => (xs[j]?).getD .hole | none => d) else none
    | none => none
  | _, _, _ => none
/-- methods that change their object: the value, the object behind -/
def mmT : Mm → T → List T → Option (T × T)
  | .append, .nd .lst true xs, [x] => if xs.length < lim then some (.non, .lst true (xs ++ [x.frz])) else none
  | .extend, .nd .lst true xs, [t] => match t with
    | .nd .lst _ ys => if xs.length + ys.length ≤ lim ∧ T.freeL ys = true then some (.non, .lst true (xs ++ ys)) else none
    | _ => none
  | .pop0, .nd .lst true xs, [] => match xs[xs.length - 1]? with
    | some y => if y.free then some (y, .lst true xs.dropLast) else none
    | none => none
  | .pop1, .nd .lst true xs, [.int i] => match ixNat xs.length i with
    | some j => match xs[j]? with
      | some y => if y.free then some (y, .lst true (xs.eraseIdx j)) else none
      | none => none
    | none => none
  | .clear, .nd .lst true _, [] => some (.non, .lst true [])
  | _, _, _ => none
/-- o[i] = v -/
def putT (i v : T) : T → Option T
  | .nd .lst true xs => match i with
    | .int i => match ixNat xs.length i with
      | some j => some (.lst true (xs.set j v))
      | none => none
    | _ => none
  | _ => none
/-- o.f = v -/
def putF (f : Str) (v : T) : T → Option T
  | .nd (.ins c ns) true xs => match ns.findIdx? (fun g => decide (g = f)) with
    | some j => some (.nd (.ins c ns) true (xs.set j v))
    | none => if ns.length < 100 then some (.nd (.ins c (ns ++ [f])) true (xs ++ [v])) else none
  | _ => none
def delT (i : T) : T → Option T
  | .nd (.dct ks) true xs => match i.key with
    | some k => if sameSort k ks then (match ixOf ks k with
      | some j => some (.dct true (ks.eraseIdx j) (xs.eraseIdx j))
      | none => none) else none
    | none => none
  | _ => none

/-- o[k], of what may be copied -/
def itemT (k : T) : T → Option T
  | .nd .lst _ xs => match k with
    | .int i => match ixNat xs.length i with
      | some j => xs[j]?
      | none => none
    | _ => none
  | .nd (.dct ks) _ xs => match k.key with
    | some q => if sameSort q ks then (match ixOf ks q with
      | some j => xs[j]?
      | none => none) else none
    | none => none
  | _ => none
/-! ### reading a value, sharing it -/
def lookR (env : Env) : RV → Option T
  | .tmp t => some t
  | .plc r p => match env[r]? with
    | some (some t) => t.get p
    | _ => none
/-- a child of what is read: a value at hand if it may be copied, else its place -/
def kidR (rv : RV) (t : T) (j : Nat) : Option RV := match t.kid j with
  | some x => if x.free then some (.tmp x) else match rv with
    | .tmp _ => some (.tmp x)
    | .plc r p => some (.plc r (p ++ [j]))
  | none => none
/-- what surrounds: what a call does; the slots that are locked; those that may not be bound anew -/
structure Ek where
  cl : Nat → List T → CO
  um : Str → List T → CO
  nw : Nat → List T → CO
  fuel : Nat
  lc : List Nat
  pn : List Nat
  /-- an exception class's fields -/
  xf : Nat → List Str
  /-- the first is caught as the second -/
  xm : Nat → Nat → Option Bool
def Ek.lock (K : Ek) (r : Nat) : Ek := { K with lc := r :: K.lc }
def Ek.lockR (K : Ek) : RV → Ek
  | .tmp _ => K
  | .plc r _ => K.lock r
def Ek.lockRs (K : Ek) : List RV → Ek
  | [] => K
  | x :: r => (K.lockR x).lockRs r
/-- how a walk goes over its sources -/
inductive IK where
  | one | enum | zip | range (lo : Int) (n : Nat)
/-- the ways of a place are locked while what follows runs, unless it is the slot itself -/
def Ek.withP {α : Type} (K : Ek) (e : Env) (rv : RV) (f : Ek → Out α) : Out α := match rv with
  | .plc r (j :: p) => match lookR e (.plc r (j :: p)) with
    | some _ => f (K.lock r)
    | none => .stuck
  | _ => f K
def Ek.open_ (K : Ek) (r : Nat) : Bool := !K.lc.contains r
/-- a value to be kept: a place's is shared from now on -/
def valR (K : Ek) (rv : RV) (env : Env) : Out T := match rv with
  | .tmp t => .ok t env
  | .plc r p => match env[r]? with
    | some (some t) => match t.get p with
      | some x => if K.open_ r && x.whole then .ok x.frz (env.set r (some (T.set x.frz t p))) else .stuck
      | none => .stuck
    | _ => .stuck
/-- a slot is bound -/
def bind1 (K : Ek) (i : Nat) (v : T) (env : Env) : Out Unit := if i < env.length ∧ K.open_ i = true ∧ K.pn.contains i = false then .ok () (env.set i (some v)) else .stuck
/-- a place's object is replaced by what it becomes -/
def upd (K : Ek) (rv : RV) (f : T → Option (T × T)) (env : Env) : Out T := match rv with
  | .tmp t => match f t with
    | some (v, _) => .ok v env
    | none => .stuck
  | .plc r p => match env[r]? with
    | some (some t) => match t.get p with
      | some x => if K.open_ r then (match f x with
        | some (v, x') => .ok v (env.set r (some (T.set x' t p)))
        | none => .stuck) else .stuck
      | none => .stuck
    | _ => .stuck
def lift {α : Type} (o : Option α) (env : Env) : Out α := match o with
  | some a => .ok a env
  | none => .stuck
/-- the arguments are handed over: what is owned is taken out of its place (its slot is empty meanwhile) -/
def takeA (K : Ek) : List RV → Env → Option (List T × List (Option T) × Env)
  | [], env => some ([], [], env)
  | .tmp t :: r, env => match takeA K r env with
    | some (ts, us, e) => some (t :: ts, none :: us, e)
    | none => none
  | .plc i p :: r, env => match env[i]? with
    | some (some t) => match t.get p with
      | some x => if K.open_ i && x.whole then (match takeA K r (env.set i none) with
        | some (ts, us, e) => some (x :: ts, some t :: us, e)
        | none => none) else none
      | none => none
    | _ => none
/-- .. and put back -/
def putA : List RV → List T → List (Option T) → Env → Env
  | .plc i p :: r, t :: ts, some u :: us, env => putA r ts us (env.set i (some (T.set t u p)))
  | _ :: r, _ :: ts, _ :: us, env => putA r ts us env
  | _, _, _, env => env
def callA (K : Ek) (f : List T → CO) (rvs : List RV) (env : Env) : Out RV := match takeA K rvs env with
  | some (ts, us, e) => match f ts with
    | .ok t fin => .ok (.tmp t) (putA rvs fin us e)
    | .err c xs fin => .err c xs (putA rvs fin us e)
    | .stuck => .stuck
  | none => .stuck

/-! ### loops -/
def wipeE (own : List Nat) (env : Env) : Env := own.foldr (fun i e => e.set i none) env
/-- own slots as they were -/
def backE (own : List Nat) (old env : Env) : Env := own.foldr (fun i e => e.set i ((old[i]?).getD none)) env
/-- a block's own slots hold nothing that is owned, and are not locked -/
def ownOk (K : Ek) (own : List Nat) (env : Env) : Bool := own.all fun i => (match env[i]? with
  | some (some t) => t.free
  | some none => true
  | none => false) && !K.lc.contains i && !K.pn.contains i
/-- all but the block's own slots are pinned -/
def Ek.pinO (K : Ek) (own : List Nat) (n : Nat) : Ek := { K with pn := (List.range n).filter fun i => !own.contains i }
def forL (g : T → Env → Out Unit) (b : Env → SO) : List T → Env → SO
  | [], env => .nx env
  | x :: r, env => (g x env).run fun _ e => match b e with
    | .nx e => forL g b r e
    | .ct e => forL g b r e
    | .bk e => .nx e
    | o => o
def whileL (t : Env → Out Bool) (b : Env → SO) : Nat → Env → SO
  | 0, _ => .stuck
  | n + 1, env => (t env).run fun c e => if c = true then (match b e with
      | .nx e => whileL t b n e
      | .ct e => whileL t b n e
      | .bk e => .nx e
      | o => o) else .nx e
/-- a comprehension's turns: what is kept is handed on -/
def compL {α : Type} (own : List Nat) (g : T → Env → Out Unit) (t : Env → Out Bool) (b : α → Env → Out α) : List T → α → Env → Out α
  | [], acc, env => .ok acc env
  | x :: r, acc, env => (g x env).bind fun _ e => (t e).bind fun c e => if c = true then (b acc e).bind fun acc e => compL own g t b r acc (wipeE own e) else compL own g t b r acc (wipeE own e)
/-! ### the interpreter -/
def zipAll : List (List T) → List T
  | [xs, ys] => List.zipWith (fun x y => .tup [x, y]) xs ys
  | [xs, ys, zs] => List.zipWith (fun x yz => match yz with | (y, z) => .tup [x, y, z]) xs (ys.zip zs)
  | [xs, ys, zs, ws] => List.zipWith (fun x yz => match yz with | (y, z, w) => .tup [x, y, z, w]) xs (ys.zip (zs.zip ws))
  | _ => []
def enumF (n : Nat) : List T → List T
  | [] => []
  | x :: r => .tup [.int n, x] :: enumF (n + 1) r
def rangeT (lo : Int) (n : Nat) : List T := (List.range n).map fun i => .int (lo + (i : Nat))
def optInt : Option T → Option (Option Int)
  | none => some none
  | some (.int i) => some (some i)
  | some .non => some none
  | _ => none
def lookAll (env : Env) : List RV → Option (List T)
  | [] => some []
  | r :: rs => match lookR env r, lookAll env rs with
    | some t, some ts => some (t :: ts)
    | _, _ => none
def freeA (xs : List T) : Option (List T) := if T.freeL xs then some xs else none
def lens (xs : List (List T)) : Bool := match xs with
  | [] => true
  | x :: r => r.all fun y => y.length == x.length
/-- a part of an f-string -/
def fmtR : RV → Option Str
  | .tmp (.str s) => if s.length ≤ lim then some s else none
  | .tmp (.int i) => if i.natAbs < 2 ^ 1900 then some (Str.ofString (toString i)) else none
  | _ => none
/-- what a piece of code means: read; a test; several read; several kept; a slice's part; a walk; a comprehension's test; a target; targets; a value handed back; several; a statement; a block -/
structure Sm where
  r : Ek → Env → Out RV := fun _ _ => .stuck
  b : Ek → Env → Out Bool := fun _ _ => .stuck
  l : Ek → Env → Out (List RV) := fun _ _ => .stuck
  v : Ek → Env → Out (List T) := fun _ _ => .stuck
  o : Ek → Env → Out (Option Int) := fun _ _ => .stuck
  i : Ek → Env → Out (List RV × IK) := fun _ _ => .stuck
  t : Ek → Env → Out Bool := fun _ _ => .stuck
  a : Ek → T → Env → Out Unit := fun _ _ _ => .stuck
  al : Ek → List T → Env → Out Unit := fun _ _ _ => .stuck
  m : Ek → Env → Out T := fun _ _ => .stuck
  n : Ek → Env → Out (List T) := fun _ _ => .stuck
  f : Ek → Str → Env → Out Str := fun _ _ _ => .stuck
  s : Ek → Env → SO := fun _ _ => .stuck
  bl : Ek → Env → SO := fun _ _ => .stuck
  hd : Ek → Nat → List T → Env → SO := fun _ c xs e => .err c xs e
/-- slots that hold no caught exception -/
def noexE (env : Env) : Bool := env.all fun o => match o with
  | some t => t.noex
  | none => true
/-- behind an except suite: its name is unbound -/
def endH (i : Nat) (o : SO) : SO := match o with
  | .nx e => if noexE (e.set i none) = true then .nx (e.set i none) else .stuck
  | .rt t e => if noexE (e.set i none) = true ∧ t.noex = true then .rt t (e.set i none) else .stuck
  | _ => .stuck
def truR (r : Ek → Env → Out RV) (K : Ek) (env : Env) : Out Bool := (r K env).bind fun x e => match lookR e x with
  | some t => lift (truT t) e
  | none => .stuck
def walkR (r : Ek → Env → Out RV) (K : Ek) (env : Env) : Out (List RV × IK) := (r K env).bind fun x e => .ok ([x], .one) e
/-- what a walk yields -/
def itemsK : IK → List T → Option (List T)
  | .one, [t] => match itemsI t with
    | some xs => if T.freeL xs then some xs else none
    | none => none
  | .enum, [.nd .lst _ xs] => if T.freeL xs then some (enumF 0 xs) else none
  | .enum, [.nd .tup _ xs] => if T.freeL xs then some (enumF 0 xs) else none
  | .zip, [.nd .lst _ xs, .nd .lst _ ys] => if T.freeL xs && T.freeL ys then some (List.zipWith (fun x y => .tup [x, y]) xs ys) else none
  | .zip, [.nd .tup _ xs, .nd .tup _ ys] => if T.freeL xs && T.freeL ys then some (List.zipWith (fun x y => .tup [x, y]) xs ys) else none
  | .range lo n, [] => some (rangeT lo n)
  | _, _ => none
def keepR (r : Ek → Env → Out RV) (K : Ek) (env : Env) : Out T := (r K env).bind fun x e => valR K x e
/-- of an expression -/
def ofR (r : Ek → Env → Out RV) : Sm := { r := r, b := truR r, t := truR r, i := walkR r, m := keepR r }
def ofRB (r : Ek → Env → Out RV) (b : Ek → Env → Out Bool) : Sm := { r := r, b := b, t := b, i := walkR r, m := keepR r }
def ofI (i : Ek → Env → Out (List RV × IK)) : Sm := { i := i }
def ofS (s : Ek → Env → SO) : Sm := { s := s }
def ofT (a : Ek → T → Env → Out Unit) : Sm := { a := a }
/-- two operands -/
def two (f : T → T → Option T) (a b : Sm) : Sm := ofR fun K env => (a.r K env).bind fun x e => (K.withP e x fun K => b.r K e).bind fun y e => match lookR e x, lookR e y with
  | some t, some u => (lift (f t u) e).bind fun z e => .ok (.tmp z) e
  | _, _ => .stuck
/-- a child that needs no place -/
def kidF (rv : RV) (xs : List T) (i : Int) : Option RV := match ixNat xs.length i with
  | some j => match xs[j]? with
    | some x => if x.free then some (.tmp x) else match rv with
      | .tmp _ => some (.tmp x)
      | .plc _ _ => none
    | none => none
  | none => none
def ixR (x : RV) (t u : T) : Option RV := match t, u with
  | .nd k f xs, .int i => (match k with
    | .lst => kidF x xs i
    | .scr => kidF x xs i
    | .tup => kidF x xs i
    | _ => none)
  | .str s, .int i => (match ixNat s.cps.toList.length i with
    | some j => match s.cps.toList[j]? with
      | some c => if s.length ≤ lim then some (.tmp (.str ⟨#[c]⟩)) else none
      | none => none
    | none => none)
  | _, _ => none
def fldR (x : RV) (f : Str) : T → Option RV
  | .nd (.ins c ns) g xs => (match ns.findIdx? (fun g => decide (g = f)) with
    | some j => kidR x (.nd (.ins c ns) g xs) j
    | none => none)
  | _ => none
def isLst : Option T → Bool
  | some (.nd .lst _ _) => true
  | _ => false
/-- what may be taken apart -/
def seqT : Option T → Option (List T)
  | some (.nd .tup _ xs) => some xs
  | some (.nd .lst _ xs) => some xs
  | _ => none
def isTmp : RV → Bool
  | .tmp _ => true
  | .plc _ _ => false
def lenC : C → Nat
  | .cons _ r => lenC r + 1
  | _ => 0
/-- a text's method is asked of a text -/
def mtOk (m : Mt) (x : RV) (e : Env) : Bool := match m with
  | .index => (match lookR e x with | some (.nd .lst _ _) => true | _ => false)
  | .join => (match x with | .tmp (.str _) => true | _ => false)
  | .split => (match x with | .tmp (.str _) => true | _ => false)
  | _ => true
def isNil : C → Bool
  | .nil => true
  | _ => false
def ev : C → Sm
  | .nil => { l := fun _ env => .ok [] env, v := fun _ env => .ok [] env, o := fun _ env => .ok none env, t := fun _ env => .ok true env, al := fun _ xs env => (match xs with
      | [] => .ok () env
      | _ => .stuck), n := fun _ env => .ok [] env, f := fun _ acc env => .ok acc env, bl := fun _ env => .nx env }
  | .cons a r => {
      l := fun K env => ((ev a).r K env).bind fun x e => (K.withP e x fun K => (ev r).l K e).bind fun xs e => .ok (x :: xs) e
      v := fun K env => ((ev a).r K env).bind fun x e => (valR K x e).bind fun v e => ((ev r).v K e).bind fun vs e => .ok (v :: vs) e
      o := fun K env => if isNil r then ((ev a).r K env).bind fun x e => (match x with
        | .tmp (.int i) => .ok (some i) e
        | _ => .stuck) else .stuck
      al := fun K xs env => (match xs with
        | [] => .stuck
        | x :: xs => ((ev a).a K x env).bind fun _ e => (ev r).al K xs e)
      n := fun K env => ((ev a).m K env).bind fun v e => ((ev r).n K e).bind fun vs e => .ok (v :: vs) e
      f := fun K acc env => ((ev a).r K env).bind fun x e => (match fmtR x with
        | some s => if (acc ++ s).length ≤ lim then (ev r).f K (acc ++ s) e else .stuck
        | none => .stuck)
      bl := fun K env => ((ev a).s K env).next fun e => (ev r).bl K e }
  | .var i => { ofR (fun K env => match env[i]? with
      | some (some t) => if t.free then .ok (.tmp t) env else .ok (.plc i []) env
      | _ => .stuck) with
      m := fun K env => match env[i]? with
        | some (some t) => if t.free then .ok t env else if K.open_ i = true ∧ K.pn.contains i = false ∧ t.whole = true then .ok t (env.set i none) else valR K (.plc i []) env
        | _ => .stuck }
  | .glb _ v => ofR fun _ env => .ok (.tmp (Key.t v)) env
  | .int i => ofR fun _ env => .ok (.tmp (.int i)) env
  | .str s => ofR fun _ env => .ok (.tmp (.str s)) env
  | .bl b => ofR fun _ env => .ok (.tmp (.bl b)) env
  | .non => ofR fun _ env => .ok (.tmp .non) env
  | .tup es => { ofR (fun K env => ((ev es).v K env).bind fun xs e => if xs.length ≤ lim then .ok (.tmp (.nd .tup (!T.freeL xs) xs)) e else .stuck) with
      m := fun K env => ((ev es).n K env).bind fun xs e => if xs.length ≤ lim then .ok (.nd .tup (!T.freeL xs) xs) e else .stuck }
  | .lst es => ofR fun K env => ((ev es).v K env).bind fun xs e => if xs.length ≤ lim ∧ T.wholeL xs = true then .ok (.tmp (.lst true (T.frzL xs))) e else .stuck
  | .dct ks _ => ofR fun _ env => if isNil ks then .ok (.tmp (.dct true [] [])) env else .stuck
  | .bin op a b => two (binT op) (ev a) (ev b)
  | .neg a => ofR fun K env => ((ev a).r K env).bind fun x e => match x with
    | .tmp (.int i) => .ok (.tmp (.int (-i))) e
    | _ => .stuck
  | .notv a => ofRB (fun K env => (truR (ev a).r K env).bind fun b e => .ok (.tmp (.bl (!b))) e) fun K env => ((ev a).b K env).bind fun b e => .ok (!b) e
  | .andv a b => ofRB (fun K env => ((ev a).r K env).bind fun x e => match x with
      | .tmp (.bl c) => if c = true then (ev b).r K e else .ok (.tmp (.bl false)) e
      | _ => .stuck) fun K env => ((ev a).b K env).bind fun c e => if c = true then (ev b).b K e else .ok false e
  | .orv a b => ofRB (fun K env => ((ev a).r K env).bind fun x e => match x with
      | .tmp (.bl c) => if c = true then .ok (.tmp (.bl true)) e else (ev b).r K e
      | _ => .stuck) fun K env => ((ev a).b K env).bind fun c e => if c = true then .ok true e else (ev b).b K e
  | .cmp op a b => two (fun t u => (cmpT op t u).map .bl) (ev a) (ev b)
  | .chain o1 o2 a b c => ofR fun K env => ((ev a).r K env).bind fun x e => (K.withP e x fun K => (ev b).r K e).bind fun y e => match x, y with
    | .tmp t, .tmp u => if u.free = false then .stuck else (lift (cmpT o1 t u) e).bind fun z e => if z = true then ((ev c).r K e).bind fun w e => (match w with
        | .tmp v => (lift (cmpT o2 u v) e).bind fun z e => .ok (.tmp (.bl z)) e
        | _ => .stuck) else .ok (.tmp (.bl false)) e
    | _, _ => .stuck
  | .ife t a b => ofRB (fun K env => ((ev t).b K env).bind fun c e => if c = true then (ev a).r K e else (ev b).r K e) fun K env => ((ev t).b K env).bind fun c e => if c = true then (ev a).b K e else (ev b).b K e
  | .ix a i => ofR fun K env => ((ev a).r K env).bind fun x e => (K.withP e x fun K => (ev i).r K e).bind fun y e => match lookR e x, y with
    | some t, .tmp u => (lift (ixR x t u) e).bind fun z e => .ok z e
    | _, _ => .stuck
  | .sl a lo hi => ofR fun K env => ((ev a).r K env).bind fun x e => (K.withP e x fun K => ((ev lo).o K e).bind fun l e => ((ev hi).o K e).bind fun h e => .ok (l, h) e).bind fun lh e => match lookR e x with
    | some t => (lift (slT lh.1 lh.2 t) e).bind fun z e => .ok (.tmp z) e
    | none => .stuck
  | .sls a st => ofR fun K env => ((ev a).r K env).bind fun x e => (K.withP e x fun K => (ev st).r K e).bind fun y e => match lookR e x, y with
    | some t, .tmp (.int s) => (lift (slsT s t) e).bind fun z e => .ok (.tmp z) e
    | _, _ => .stuck
  | .fld a f => ofR fun K env => ((ev a).r K env).bind fun x e => match lookR e x with
    | some t => (lift (fldR x f t) e).bind fun z e => .ok z e
    | none => .stuck
  | .call f es => ofR fun K env => ((ev es).l K env).bind fun rvs e => callA K (K.cl f) rvs e
  | .um m a es => ofR fun K env => ((ev a).r K env).bind fun x e => (K.withP e x fun K => (ev es).l K e).bind fun rvs e => callA K (K.um m) (x :: rvs) e
  | .new c es => ofR fun K env => ((ev es).l K env).bind fun rvs e => callA K (K.nw c) rvs e
  | .bi b es => ofR fun K env => ((ev es).l K env).bind fun rvs e => match lookAll e rvs with
    | some ts => (lift (biT b ts) e).bind fun z e => .ok (.tmp z) e
    | none => .stuck
  | .isi a cs => ofR fun K env => ((ev a).r K env).bind fun x e => match lookR e x with
    | some t => (lift (anyO (cs.map fun c => clT c t)) e).bind fun z e => .ok (.tmp (.bl z)) e
    | none => .stuck
  | .mt m a es => ofR fun K env => ((ev a).r K env).bind fun x e => if mtOk m x e = true then (K.withP e x fun K => (ev es).l K e).bind fun rvs e => (match lookR e x, lookAll e rvs with
    | some t, some ts => (lift (mtT m t ts) e).bind fun z e => .ok (.tmp z) e
    | _, _ => .stuck) else .stuck
  | .mm m a es => ofR fun K env => ((ev a).r K env).bind fun x e => if isLst (lookR e x) = true then (K.withP e x fun K => (ev es).v K e).bind fun ts e => if T.wholeL ts = true then (upd K x (fun t => mmT m t ts) e).bind fun z e => .ok (.tmp z) e else .stuck else .stuck
  | .lc own tg it tst elt => ofR fun K env => ((ev it).i K env).bind fun q e => match lookAll e q.1 with
    | some ts => (match itemsK q.2 ts with
      | some its => if ownOk (K.lockRs q.1) own e = true then (match compL own ((ev tg).a ((K.lockRs q.1).pinO own e.length)) ((ev tst).t (K.lockRs q.1)) (fun acc e => ((ev elt).r (K.lockRs q.1) e).bind fun rv e => (valR (K.lockRs q.1) rv e).bind fun v e => if acc.length < lim ∧ v.whole = true then .ok (acc ++ [v.frz]) e else .stuck) its [] (wipeE own e) with
        | .ok acc e2 => .ok (.tmp (.lst true acc)) (backE own e e2)
        | _ => .stuck) else .stuck
      | none => .stuck)
    | none => .stuck
  | .dc _ _ _ _ _ _ => {}
  | .fstr es => ofR fun K env => ((ev es).f K ⟨#[]⟩ env).bind fun s e => .ok (.tmp (.str s)) e
  | .itR1 a => ofI fun K env => ((ev a).r K env).bind fun x e => match x with
    | .tmp (.int n) => if -1000000 < n ∧ n < 1000000 then .ok ([], .range 0 n.toNat) e else .stuck
    | _ => .stuck
  | .itR2 a b => ofI fun K env => ((ev a).r K env).bind fun x e => match x with
    | .tmp (.int m) => ((ev b).r K e).bind fun y e => (match y with
      | .tmp (.int n) => if -1000000 < m ∧ m < 1000000 ∧ -1000000 < n ∧ n < 1000000 then .ok ([], .range m (n - m).toNat) e else .stuck
      | _ => .stuck)
    | _ => .stuck
  | .itE a => ofI fun K env => ((ev a).r K env).bind fun x e => .ok ([x], .enum) e
  | .itZ s es => ofI fun K env => if s = true then .stuck else ((ev es).l K env).bind fun rvs e => .ok (rvs, .zip) e
  | .itM _ => {}
  | .itV _ => {}
  | .asg tg e => ofS fun K env => match tg with
    | .tt tgs => ((ev e).r K env).run fun x e => (match seqT (lookR e x) with
      | some xs => if lenC tgs = xs.length ∧ (isTmp x = true ∨ T.freeL xs = true) then ((ev tgs).al K xs e).run fun _ e => .nx e else .stuck
      | none => .stuck)
    | tg => ((ev e).r K env).run fun x e => (valR K x e).run fun v e => ((ev tg).a K v e).run fun _ e => .nx e
  | .par tgs es => ofS fun K env => ((ev es).v K env).run fun vs e => ((ev tgs).al K vs e).run fun _ e => .nx e
  | .aug op tg c => ofS fun K env => match tg with
    | .tv i => (match env[i]? with
      | some (some t) => if t.free then ((ev c).r K env).run fun y env => (match lookR env y with
        | some u => (lift (binT op t u) env).run fun z env => (bind1 K i z env).run fun _ env => .nx env
        | none => .stuck) else .stuck
      | _ => .stuck)
    | .ts a i => ((ev a).r K env).run fun x env => (K.withP env x fun K => (ev i).r K env).run fun y env => (match y with
      | .tmp k => (match (lookR env x).bind fun t => itemT k t with
        | some (.int m) => (K.withP env x fun K => (ev c).r K env).run fun w env => (match w with
          | .tmp (.int n) => (lift (binT op (.int m) (.int n)) env).run fun z env => (upd K x (fun t => (putT k z t).map fun t' => (.non, t')) env).run fun _ env => .nx env
          | _ => .stuck)
        | _ => .stuck)
      | _ => .stuck)
    | _ => .stuck
  | .expr c => ofS fun K env => ((ev c).r K env).run fun _ env => .nx env
  | .ret c => ofS fun K env => ((ev c).m K env).run fun v env => .rt v env
  | .ret0 => ofS fun _ env => .rt .non env
  | .ifS t a b => ofS fun K env => ((ev t).b K env).run fun c env => if c = true then (ev a).bl K env else (ev b).bl K env
  | .forS tg it body => ofS fun K env => ((ev it).i K env).run fun q env => match lookAll env q.1 with
    | some ts => (match itemsK q.2 ts with
      | some its => forL ((ev tg).a (K.lockRs q.1)) ((ev body).bl (K.lockRs q.1)) its env
      | none => .stuck)
    | none => .stuck
  | .whl t body => ofS fun K env => whileL ((ev t).b K) ((ev body).bl K) K.fuel env
  | .rai c es => ofS fun K env => ((ev es).v K env).run fun xs env => if T.wholeL xs = true ∧ xs.length = (K.xf c).length then .err c (T.frzL xs) env else .stuck
  | .tryS b h => ofS fun K env => match (ev b).bl K env with
    | .err c xs e => (ev h).hd K c xs e
    | o => o
  | .hdl c' n body => { hd := fun K c xs env => match K.xm c c' with
    | some true => (match n with
      | some i => if i < env.length ∧ K.open_ i = true ∧ K.pn.contains i = false ∧ xs ≠ [] then endH i ((ev body).bl (K.lock i) (env.set i (some (.nd (.exn c (K.xf c)) true xs)))) else .stuck
      | none => .stuck)
    | some false => .err c xs env
    | none => .stuck }
  | .del a i => ofS fun K env => ((ev a).r K env).run fun x e => (K.withP e x fun K => (ev i).r K e).run fun y e => match y with
    | .tmp u => (upd K x (fun t => (delT u t).map fun t' => (.non, t')) e).run fun _ e => .nx e
    | _ => .stuck
  | .pass => ofS fun _ env => .nx env
  | .brk => ofS fun _ env => .bk env
  | .xf i f => ofR fun _ env => match env[i]? with
    | some (some (.nd (.exn _ ns) _ xs)) => (match (ns.zip xs).lookup f with
      | some x => if x.free = true then .ok (.tmp x) env else .stuck
      | none => .stuck)
    | _ => .stuck
  | .xi i cs => ofR fun K env => match env[i]? with
    | some (some (.nd (.exn c _) _ _)) => (lift (anyO (cs.map (K.xm c))) env).bind fun z e => .ok (.tmp (.bl z)) e
    | _ => .stuck
  | .tv i => ofT fun K v env => bind1 K i v env
  | .tt tgs => ofT fun K v env => (match seqT (some v) with
    | some xs => if lenC tgs = xs.length then (ev tgs).al K xs env else .stuck
    | none => .stuck)
  | .tst _ => {}
  | .ts a i => ofT fun K v env => if v.whole = true then ((ev a).r K env).bind fun x e => (K.withP e x fun K => (ev i).r K e).bind fun y e => (match y with
    | .tmp u => (upd K x (fun t => (putT u v.frz t).map fun t' => (.non, t')) e).bind fun _ e => .ok () e
    | _ => .stuck) else .stuck
  | .tf a f => ofT fun K v env => ((ev a).r K env).bind fun x e => if v.whole = true then (upd K x (fun t => (putF f v t).map fun t' => (.non, t')) e).bind fun _ e => .ok () e else .stuck
abbrev evR (K : Ek) (c : C) (env : Env) : Out RV := (ev c).r K env
abbrev evB (K : Ek) (c : C) (env : Env) : Out Bool := (ev c).b K env
abbrev evL (K : Ek) (c : C) (env : Env) : Out (List RV) := (ev c).l K env
abbrev evV (K : Ek) (c : C) (env : Env) : Out (List T) := (ev c).v K env
abbrev exB (K : Ek) (c : C) (env : Env) : SO := (ev c).bl K env

/-! ### functions -/
structure Fn where
  np : Nat
  n : Nat
  body : C
/-- the parameters that own something may not be bound anew -/
def pinned : Nat → List T → List Nat
  | _, [] => []
  | i, t :: r => if t.free then pinned (i + 1) r else i :: pinned (i + 1) r
def fins (pn : List Nat) (args : List T) (env : Env) : List T := args.mapIdx fun i t => if pn.contains i then ((env[i]?).getD none).getD .hole else t
def runFn (K : Ek) (d : Fn) (args : List T) : CO := if args.length = d.np then (match exB { K with lc := [], pn := pinned 0 args } d.body (args.map some ++ List.replicate (d.n - d.np) none) with
  | .nx env => .ok .non (fins (pinned 0 args) args env)
  | .rt t env => .ok t (fins (pinned 0 args) args env)
  | .err c xs env => .err c xs (fins (pinned 0 args) args env)
  | _ => .stuck) else .stuck
structure Prg where
  fns : List Fn
  um : List (Str × List (Nat × Nat)) := []
  nw : List (Nat × Nat) := []
  xf : List (List Str) := []
  xm : List (List Bool) := []
def ekOf (P : Prg) (fuel : Nat) (cl : Nat → List T → CO) : Ek where
  cl := cl
  um := fun m args => match args with
    | .nd (.ins c _) _ _ :: _ => match (P.um.lookup m).bind fun l => l.lookup c with
      | some f => cl f args
      | none => .stuck
    | _ => .stuck
  nw := fun c args => match P.nw.lookup c with
    | some f => (match cl f (.nd (.ins c []) true [] :: args) with
      | .ok .non (x :: fin) => .ok x fin
      | .err c xs (_ :: fin) => .err c xs fin
      | _ => .stuck)
    | none => .stuck
  fuel := fuel
  lc := []
  pn := []
  xf := fun c => (P.xf[c]?).getD []
  xm := fun c c' => (P.xm[c]?).bind fun l => l[c']?
def callT (P : Prg) (fuel : Nat) : Nat → Nat → List T → CO
  | 0, _, _ => .stuck
  | n + 1, f, args => match P.fns[f]? with
    | some d => runFn (ekOf P fuel (callT P fuel n)) d args
    | none => .stuck
end TI
end
section
set_option maxHeartbeats 400000
/-! TS1: trees and heaps: Rep, R, Post. -/
namespace TI
open PySem L2

abbrev Sa := Addr → Prop
/-- the ground: the written part, the classes' addresses -/
structure Gd where
  K : PySem.W.Frag
  ca : Nat → Addr
  /-- a caught exception: where it is, its class, its dict -/
  ex : Addr → Nat → Addr → Prop := fun _ _ _ => False
/-- what may be changed -/
def MutO : HO → Prop
  | .lst _ => True
  | .dK _ => True
  | .dT _ => True
  | .ins _ _ _ => True
  | _ => False
def dctAt (H : Hp) (a : Addr) (ks : List DK) (vs : List V) : Prop :=
  (∃ kk : List Key, ks = kk.map .inl ∧ Rd H a (.dK (kk.zip vs))) ∨ ∃ kk : List (List Key), ks = kk.map .inr ∧ Rd H a (.dT (kk.zip vs))
/-- a list that is never written: frozen, or a literal of the written part -/
def SqF (K : PySem.W.Frag) (H : Hp) (a : Addr) (vs : List V) : Prop := (∃ o, H a = some (.frz o (.lst vs))) ∨
  ∃ (o : Obj) (its : Array Value) (n : Nat), K.lookup a = some o ∧ o.cls = .type "list" ∧ o.dict = none ∧ o.data = .seq its n ∧ its.size ≤ sizeLine ∧ Vals vs its.toList
theorem SqF.sql {K : PySem.W.Frag} {H : Hp} {a : Addr} {vs : List V} (h : SqF K H a vs) : SqL K H a vs := h.elim (fun ⟨o, h⟩ => .inl (.inr ⟨o, h⟩)) .inr
def immK : Kd → Bool
  | .tup => true
  | .scr => true
  | .exn _ _ => true
  | _ => false
theorem imm_t : immK .tup = true := rfl
theorem imm_s : immK .scr = true := rfl
/-- a node of a kind at a, its children vs -/
def nodeAt (G : Gd) (H : Hp) : Kd → Addr → List V → Prop
  | .tup, a, vs => SqT G.K H a vs
  | .lst, a, vs => H a = some (.lst vs)
  | .scr, a, vs => SqF G.K H a vs
  | .dct ks, a, vs => ks.Nodup ∧ dctAt H a ks vs
  | .ins c ns, a, vs => ns.Nodup ∧ ∃ dx, H a = some (.ins (G.ca c) dx (ns.zip vs))
  | .exn c ns, a, vs => ns.length = vs.length ∧ ∃ (dd : Addr) (fs : List (Str × V)), G.ex a c dd ∧ H dd = some (.xd fs) ∧ ∀ f, fs.lookup f = (ns.zip vs).lookup f
def kidsOk : Kd → Nat → Prop
  | .dct ks, n => ks.length = n
  | .ins _ ns, n => ns.length = n
  | _, _ => True
/-- a node's footprint, by its children's -/
def ndF (Z : Sa) (k : Kd) (f : Bool) (a : Addr) (S0 S : Sa) : Prop :=
  if immK k = true then ∀ b, S0 b → S b
  else if f = true then S a ∧ ¬ S0 a ∧ ∀ b, S0 b → S b
  else Z a ∧ ∀ b, ¬ S0 b
mutual
/-- the tree t is the value v over H; what it owns lies within S, what it shares within Z -/
def Rep (G : Gd) (Z : Sa) (H : Hp) : T → V → Sa → Prop
  | .hole, _, _ => True
  | .non, v, _ => v = .non
  | .bl b, v, _ => v = .bl b
  | .int i, v, _ => v = .int i
  | .str s, v, _ => v = .str s
  | .nd k f xs, v, S => ∃ a vs S0, v = .ref a ∧ nodeAt G H k a vs ∧ kidsOk k vs.length ∧ RepL G Z H xs vs S0 ∧ ndF Z k f a S0 S
def RepL (G : Gd) (Z : Sa) (H : Hp) : List T → List V → Sa → Prop
  | [], vs, _ => vs = []
  | x :: xs, vs, S => ∃ v r S1 S2, vs = v :: r ∧ Rep G Z H x v S1 ∧ RepL G Z H xs r S2 ∧ (∀ a, S1 a → ¬ S2 a) ∧ (∀ a, S1 a → S a) ∧ ∀ a, S2 a → S a
end
/-- H' has what H has, but within F -/
def Stab (F : Sa) (H H' : Hp) : Prop := ∀ a o, H a = some o → ¬ F a → H' a = some o
structure Post (F Z : Sa) (H : Hp) (F' Z' : Sa) (H' : Hp) : Prop where
  keep : ∀ a o, H a = some o → ¬ F a → H' a = some o
  al : ∀ a, H' a = none → H a = none
  grow : ∀ a, F' a → F a ∨ H a = none
  zin : ∀ a, Z a → Z' a
  zup : ∀ a, Z' a → Z a ∨ F a ∨ H a = none
theorem Post.refl {F Z : Sa} {H : Hp} : Post F Z H F Z H := ⟨fun _ _ h _ => h, fun _ h => h, fun _ h => .inl h, fun _ h => h, fun _ h => .inl h⟩
theorem Post.trans {F Z F1 Z1 F2 Z2 : Sa} {H H1 H2 : Hp} (p : Post F Z H F1 Z1 H1) (q : Post F1 Z1 H1 F2 Z2 H2) : Post F Z H F2 Z2 H2 := by
  refine ⟨fun a o h hf => ?_, fun a h => p.al a (q.al a h), fun a h => ?_, fun a h => q.zin a (p.zin a h), fun a h => ?_⟩
  · refine q.keep a o (p.keep a o h hf) fun h1 => ?_
    rcases p.grow a h1 with h2 | h2
    · exact hf h2
    · rw [h] at h2; cases h2
  · rcases q.grow a h with h1 | h1
    · exact p.grow a h1
    · exact .inr (p.al a h1)
  · rcases q.zup a h with h1 | h1 | h1
    · exact p.zup a h1
    · exact .inr (p.grow a h1)
    · exact .inr (.inr (p.al a h1))
/-- a frame beside -/
theorem Post.frame {F Z F' Z' : Sa} {H H' : Hp} (P : Sa) (p : Post F Z H F' Z' H') : Post (fun a => F a ∨ P a) Z H (fun a => F' a ∨ P a) Z' H' :=
  ⟨fun a o h hf => p.keep a o h fun z => hf (.inl z), p.al, fun a h => h.elim (fun z => (p.grow a z).elim (fun y => .inl (.inl y)) .inr) fun z => .inl (.inr z), p.zin, fun a h => (p.zup a h).elim .inl fun z => z.elim (fun y => .inr (.inl (.inl y))) fun y => .inr (.inr y)⟩
theorem Post.sub {F Z F' Z' F1 F1' : Sa} {H H' : Hp} (p : Post F Z H F' Z' H') (h1 : ∀ a, F a → F1 a) (h2 : ∀ a, F1' a → F' a ∨ F1 a ∨ H a = none) : Post F1 Z H F1' Z' H' :=
  ⟨fun a o h hf => p.keep a o h fun z => hf (h1 a z), p.al, fun a h => (h2 a h).elim (fun z => (p.grow a z).elim (fun y => .inl (h1 a y)) .inr) fun z => z, p.zin, fun a h => (p.zup a h).elim .inl fun z => z.elim (fun y => .inr (.inl (h1 a y))) fun y => .inr (.inr y)⟩
/-- a new object -/
theorem Post.new {F Z : Sa} {H : Hp} {p : Addr} {o : HO} (h : H p = none) : Post F Z H F Z (L2.upd H p o) := by
  refine ⟨fun a u e _ => ?_, fun a e => ?_, fun a z => .inl z, fun a z => z, fun a z => .inl z⟩
  · rw [upd_ne (ne_of_none e h)]; exact e
  · by_cases q : a = p
    · subst q; exact h
    · rw [upd_ne q] at e; exact e
/-- an object of the footprint changed -/
theorem Post.put {F Z : Sa} {H : Hp} {p : Addr} {o : HO} (h : F p) : Post F Z H F Z (L2.upd H p o) := by
  refine ⟨fun a u e hf => ?_, fun a e => ?_, fun a z => .inl z, fun a z => z, fun a z => .inl z⟩
  · rw [upd_ne (fun q => hf (by rw [q]; exact h))]; exact e
  · by_cases q : a = p
    · subst q; rw [upd_same] at e; cases e
    · rw [upd_ne q] at e; exact e

theorem MutO.notup {H : Hp} {a : Addr} {vs : List V} (h : Rd H a (.tup vs)) : ¬ ∃ o, H a = some o ∧ MutO o := by
  rintro ⟨o, e, m⟩
  rcases h with h | ⟨u, h⟩
  · rw [h] at e; cases e; exact m
  · rw [h] at e; cases e; exact m
section
variable {G : Gd} {Z Z' F : Sa} {H H' : Hp}
theorem rd_stab {a : Addr} {u : HO} (h : Rd H a u) (st : Stab F H H') (hf : ¬ F a) : Rd H' a u := by
  rcases h with h | ⟨o, h⟩
  · exact .inl (st a _ h hf)
  · exact .inr ⟨o, st a _ h hf⟩
theorem nodeAt.stab {k : Kd} {a : Addr} {vs : List V} (h : nodeAt G H k a vs) (st : Stab F H H') (hf : immK k = true ∨ ¬ F a) (fm : ∀ a, F a → ∃ o, H a = some o ∧ MutO o) : nodeAt G H' k a vs := by
  cases k with
  | tup =>
    rcases (show SqT G.K H a vs from h) with h | h
    · exact .inl (rd_stab h st fun z => MutO.notup h (fm a z))
    · exact .inr h
  | lst => exact st a _ h (hf.resolve_left (fun z => nomatch z))
  | scr =>
    rcases (show SqF G.K H a vs from h) with ⟨o, h⟩ | h
    · exact .inl ⟨o, st a _ h fun z => by obtain ⟨u, e, m⟩ := fm a z; rw [h] at e; cases e; exact m⟩
    · exact .inr h
  | dct ks =>
    have hf := hf.resolve_left (fun z => nomatch z)
    obtain ⟨nd, h⟩ := h
    refine ⟨nd, ?_⟩
    rcases h with ⟨kk, e, h⟩ | ⟨kk, e, h⟩
    · exact .inl ⟨kk, e, rd_stab h st hf⟩
    · exact .inr ⟨kk, e, rd_stab h st hf⟩
  | ins c ns => obtain ⟨nd, dx, h⟩ := h; exact ⟨nd, dx, st a _ h (hf.resolve_left (fun z => nomatch z))⟩
  | exn c ns =>
    obtain ⟨hl, dd, fs, hx, hd, hf⟩ := h
    exact ⟨hl, dd, fs, hx, st dd _ hd fun z => by obtain ⟨u, e, m⟩ := fm dd z; rw [hd] at e; cases e; exact m, hf⟩
mutual
theorem Rep.stab : ∀ (t : T) {v : V} {S : Sa}, Rep G Z H t v S → Stab F H H' → (∀ a, F a → ∃ o, H a = some o ∧ MutO o) → (∀ a, S a → ¬ F a) → (∀ a, Z a → ¬ F a) → (∀ a, Z a → Z' a) → Rep G Z' H' t v S
  | .hole, _, _, _, _, _, _, _, _ => trivial
  | .non, _, _, h, _, _, _, _, _ => h
  | .bl _, _, _, h, _, _, _, _, _ => h
  | .int _, _, _, h, _, _, _, _, _ => h
  | .str _, _, _, h, _, _, _, _, _ => h
  | .nd k f xs, v, S, h, st, fm, hs, hz, hzz => by
    obtain ⟨a, vs, S0, rfl, hn, hk, hl, hF⟩ := h
    unfold ndF at hF
    have h0 : ∀ b, S0 b → ¬ F b := by
      intro b hb
      split at hF
      · exact hs b (hF b hb)
      · split at hF
        · exact hs b (hF.2.2 b hb)
        · exact absurd hb (hF.2 b)
    refine ⟨a, vs, S0, rfl, hn.stab st ?_ fm, hk, RepL.stab xs hl st fm h0 hz hzz, ?_⟩
    · split at hF
      · rename_i e; exact .inl e
      · split at hF
        · exact .inr (hs a hF.1)
        · exact .inr (hz a hF.1)
    · unfold ndF
      split at hF
      · rename_i e; rw [if_pos e]; exact hF
      · rename_i e
        rw [if_neg e]
        split at hF
        · rename_i e2; rw [if_pos e2]; exact hF
        · rename_i e2; rw [if_neg e2]; exact ⟨hzz a hF.1, hF.2⟩
theorem RepL.stab : ∀ (xs : List T) {vs : List V} {S : Sa}, RepL G Z H xs vs S → Stab F H H' → (∀ a, F a → ∃ o, H a = some o ∧ MutO o) → (∀ a, S a → ¬ F a) → (∀ a, Z a → ¬ F a) → (∀ a, Z a → Z' a) → RepL G Z' H' xs vs S
  | [], _, _, h, _, _, _, _, _ => h
  | x :: xs, _, S, h, st, fm, hs, hz, hzz => by
    obtain ⟨v, r, S1, S2, rfl, h1, h2, d, s1, s2⟩ := h
    exact ⟨v, r, S1, S2, rfl, Rep.stab x h1 st fm (fun a z => hs a (s1 a z)) hz hzz, RepL.stab xs h2 st fm (fun a z => hs a (s2 a z)) hz hzz, d, s1, s2⟩
end
mutual
theorem Rep.mono : ∀ (t : T) {v : V} {S S' : Sa}, Rep G Z H t v S → (∀ a, S a → S' a) → Rep G Z H t v S'
  | .hole, _, _, _, _, _ => trivial
  | .non, _, _, _, h, _ => h
  | .bl _, _, _, _, h, _ => h
  | .int _, _, _, _, h, _ => h
  | .str _, _, _, _, h, _ => h
  | .nd k f xs, v, S, S', h, hs => by
    obtain ⟨a, vs, S0, rfl, hn, hk, hl, hF⟩ := h
    refine ⟨a, vs, S0, rfl, hn, hk, hl, ?_⟩
    unfold ndF at hF ⊢
    split at hF
    · rename_i e; rw [if_pos e]; exact fun b z => hs b (hF b z)
    · rename_i e
      rw [if_neg e]
      split at hF
      · rename_i e2; rw [if_pos e2]; exact ⟨hs a hF.1, hF.2.1, fun b z => hs b (hF.2.2 b z)⟩
      · rename_i e2; rw [if_neg e2]; exact hF
end
theorem RepL.mono : ∀ (xs : List T) {vs : List V} {S S' : Sa}, RepL G Z H xs vs S → (∀ a, S a → S' a) → RepL G Z H xs vs S'
  | [], _, _, _, h, _ => h
  | _ :: _, _, _, _, ⟨v, r, S1, S2, e, h1, h2, d, s1, s2⟩, hs => ⟨v, r, S1, S2, e, h1, h2, d, fun a z => hs a (s1 a z), fun a z => hs a (s2 a z)⟩
abbrev none_ : Sa := fun _ => False
mutual
/-- what may be copied owns nothing -/
theorem Rep.bare : ∀ (t : T) {v : V} {S : Sa}, Rep G Z H t v S → t.free = true → Rep G Z H t v none_
  | .hole, _, _, _, f => nomatch f
  | .non, _, _, h, _ => h
  | .bl _, _, _, h, _ => h
  | .int _, _, _, h, _ => h
  | .str _, _, _, h, _ => h
  | .nd k f xs, v, S, h, fr => by
    obtain ⟨a, vs, S0, rfl, hn, hk, hl, hF⟩ := h
    have h1 : (!f && T.freeL xs) = true := fr
    rw [Bool.and_eq_true] at h1
    have hf : f = false := by cases f <;> simp_all
    refine ⟨a, vs, none_, rfl, hn, hk, RepL.bare xs hl h1.2, ?_⟩
    unfold ndF at hF ⊢
    split at hF
    · rename_i e; rw [if_pos e]; exact fun _ z => z
    · rename_i e
      rw [if_neg e]
      rw [if_neg (by simp [hf])] at hF ⊢
      exact ⟨hF.1, fun _ z => z⟩
theorem RepL.bare : ∀ (xs : List T) {vs : List V} {S : Sa}, RepL G Z H xs vs S → T.freeL xs = true → RepL G Z H xs vs none_
  | [], _, _, h, _ => h
  | x :: xs, _, S, h, f => by
    obtain ⟨v, r, S1, S2, rfl, h1, h2, d, s1, s2⟩ := h
    have f' : (x.free && T.freeL xs) = true := f
    rw [Bool.and_eq_true] at f'
    exact ⟨v, r, none_, none_, rfl, Rep.bare x h1 f'.1, RepL.bare xs h2 f'.2, fun _ z => z.elim, fun _ z => z, fun _ z => z⟩
end
mutual
/-- shared from now on: what it owned goes over to Z -/
theorem Rep.frz : ∀ (t : T) {v : V} {S : Sa}, Rep G Z H t v S → t.whole = true → (∀ a, Z a → Z' a) → (∀ a, S a → Z' a) → Rep G Z' H t.frz v none_
  | .hole, _, _, _, w, _, _ => nomatch w
  | .non, _, _, h, _, _, _ => h
  | .bl _, _, _, h, _, _, _ => h
  | .int _, _, _, h, _, _, _ => h
  | .str _, _, _, h, _, _, _ => h
  | .nd k f xs, v, S, h, w, hz, hs => by
    obtain ⟨a, vs, S0, rfl, hn, hk, hl, hF⟩ := h
    unfold ndF at hF
    have h0 : ∀ b, S0 b → Z' b := by
      intro b hb
      split at hF
      · exact hs b (hF b hb)
      · split at hF
        · exact hs b (hF.2.2 b hb)
        · exact absurd hb (hF.2 b)
    refine ⟨a, vs, none_, rfl, hn, hk, RepL.frz xs hl w hz h0, ?_⟩
    unfold ndF
    split at hF
    · rename_i e; rw [if_pos e]; exact fun _ z => z
    · rename_i e
      rw [if_neg e, if_neg (by simp)]
      refine ⟨?_, fun _ z => z⟩
      split at hF
      · exact hs a hF.1
      · exact hz a hF.1
theorem RepL.frz : ∀ (xs : List T) {vs : List V} {S : Sa}, RepL G Z H xs vs S → T.wholeL xs = true → (∀ a, Z a → Z' a) → (∀ a, S a → Z' a) → RepL G Z' H (T.frzL xs) vs none_
  | [], _, _, h, _, _, _ => h
  | x :: xs, _, S, h, w, hz, hs => by
    obtain ⟨v, r, S1, S2, rfl, h1, h2, d, s1, s2⟩ := h
    have w' : (x.whole && T.wholeL xs) = true := w
    rw [Bool.and_eq_true] at w'
    exact ⟨v, r, none_, none_, rfl, Rep.frz x h1 w'.1 hz (fun a z => hs a (s1 a z)), RepL.frz xs h2 w'.2 hz (fun a z => hs a (s2 a z)), fun _ z => z.elim, fun _ z => z, fun _ z => z⟩
end
end

/-! ### the slots -/
structure R (G : Gd) (lc : List Nat) (Y : Sa) (env : Env) (σ : St) (H : Hp) (F Z : Sa) : Prop where
  len : env.length = σ.length
  fm : ∀ a, F a → ∃ o, H a = some o ∧ MutO o
  zf : ∀ a, Z a → ¬ F a ∧ H a ≠ none
  yf : ∀ a, Y a → ¬ F a ∧ ¬ Z a ∧ H a ≠ none
  sl : ∃ S : Nat → Sa, (∀ i, i ∉ lc → ∀ a, S i a → F a) ∧ (∀ i, i ∈ lc → ∀ a, S i a → Y a) ∧ (∀ i j, i ≠ j → ∀ a, S i a → ¬ S j a) ∧
    ∀ i t, env[i]? = some (some t) → ∃ v, σ[i]? = some (some v) ∧ Rep G Z H t v (S i)
/-- locked slots stay -/
def Lck (lc : List Nat) (env env' : Env) : Prop := env'.length = env.length ∧ ∀ r ∈ lc, env'[r]? = env[r]?
theorem Lck.refl {lc : List Nat} {env : Env} : Lck lc env env := ⟨rfl, fun _ _ => rfl⟩
theorem Lck.trans {lc : List Nat} {e1 e2 e3 : Env} (a : Lck lc e1 e2) (b : Lck lc e2 e3) : Lck lc e1 e3 := ⟨b.1.trans a.1, fun r h => (b.2 r h).trans (a.2 r h)⟩
/-- a child's way down, by the heap alone -/
def kidV (H : Hp) (v : V) (j : Nat) (w : V) : Prop := ∃ a, v = .ref a ∧
  ((∃ C dx fs, H a = some (.ins C dx fs) ∧ (fs[j]?).map (·.2) = some w) ∨ (∃ kvs : List (Key × V), Rd H a (.dK kvs) ∧ (kvs[j]?).map (·.2) = some w) ∨ ∃ kvs : List (List Key × V), Rd H a (.dT kvs) ∧ (kvs[j]?).map (·.2) = some w)
def navV (H : Hp) : V → List Nat → V → Prop
  | v, [], w => v = w
  | v, j :: p, w => ∃ u, kidV H v j u ∧ navV H u p w
theorem Rd.inj {H : Hp} {a : Addr} {u w : HO} (h : Rd H a u) (h' : Rd H a w) (hu : ∀ o x, u ≠ .frz o x) (hw : ∀ o x, w ≠ .frz o x) : u = w := by
  rcases h with h | ⟨o, h⟩ <;> rcases h' with h' | ⟨o', h'⟩ <;> rw [h] at h'
  · exact Option.some.inj h'
  · exact absurd (Option.some.inj h') (hu _ _)
  · exact absurd (Option.some.inj h').symm (hw _ _)
  · cases h'; rfl
theorem Rd.ins {H : Hp} {a : Addr} {u : HO} {C dx : Addr} {fs : List (Str × V)} (h : Rd H a u) (h' : H a = some (.ins C dx fs)) : u = .ins C dx fs := by
  rcases h with h | ⟨o, h⟩ <;> rw [h'] at h <;> cases h
  rfl
theorem kidV.inj {H : Hp} {v : V} {j : Nat} {w w' : V} (h : kidV H v j w) (h' : kidV H v j w') : w = w' := by
  obtain ⟨a, rfl, h⟩ := h
  obtain ⟨a', e, h'⟩ := h'
  cases e
  rcases h with ⟨C, dx, fs, h, e⟩ | ⟨kvs, h, e⟩ | ⟨kvs, h, e⟩ <;> rcases h' with ⟨C', dx', fs', h', e'⟩ | ⟨kvs', h', e'⟩ | ⟨kvs', h', e'⟩
  · rw [h] at h'; cases h'; rw [e] at e'; exact Option.some.inj e'
  · exact nomatch Rd.ins h' h
  · exact nomatch Rd.ins h' h
  · exact nomatch Rd.ins h h'
  · have := Rd.inj h h' (fun _ _ z => nomatch z) (fun _ _ z => nomatch z); cases this; rw [e] at e'; exact Option.some.inj e'
  · exact nomatch Rd.inj h h' (fun _ _ z => nomatch z) (fun _ _ z => nomatch z)
  · exact nomatch Rd.ins h h'
  · exact nomatch Rd.inj h h' (fun _ _ z => nomatch z) (fun _ _ z => nomatch z)
  · have := Rd.inj h h' (fun _ _ z => nomatch z) (fun _ _ z => nomatch z); cases this; rw [e] at e'; exact Option.some.inj e'
theorem navV.inj {H : Hp} : ∀ {p : List Nat} {v w w' : V}, navV H v p w → navV H v p w' → w = w'
  | [], _, _, _, h, h' => h.symm.trans h'
  | _ :: _, _, _, _, ⟨u, k, h⟩, ⟨u', k', h'⟩ => by cases k.inj k'; exact navV.inj h h'
/-- what is read: a tree at hand, or a place -/
def RepRV (G : Gd) (σ : St) (Z : Sa) (H : Hp) : RV → V → Sa → Prop
  | .tmp t, v, S => Rep G Z H t v S
  | .plc r p, v, S => (∀ a, ¬ S a) ∧ ∃ u, σ[r]? = some (some u) ∧ navV H u p v
section
variable {G : Gd} {lc : List Nat} {Y : Sa} {env env' : Env} {σ σ' : St} {H H' : Hp} {F F' Fc Fc' Z Z' : Sa}
/-- something else has run beside -/
theorem R.frame (h : R G lc Y env σ H F Z) (p : Post Fc Z H Fc' Z' H') (fmc : ∀ a, Fc a → ∃ o, H a = some o ∧ MutO o) (d : ∀ a, F a → ¬ Fc a) (dy : ∀ a, Y a → ¬ Fc a) (dz : ∀ a, Z a → ¬ Fc a) (hz : ∀ a, Z' a → H' a ≠ none) : R G lc Y env σ H' F Z' := by
  obtain ⟨hl, fm, zf, yf, S, s1, s2, s3, s4⟩ := h
  have ne : ∀ a, F a → H a ≠ none := fun a z => by obtain ⟨o, e, _⟩ := fm a z; rw [e]; exact fun q => nomatch q
  refine ⟨hl, fun a z => ?_, fun a z => ⟨fun q => ?_, hz a z⟩, fun a z => ⟨(yf a z).1, fun q => ?_, fun q => (yf a z).2.2 (p.al a q)⟩, S, s1, s2, s3, fun i t e => ?_⟩
  · obtain ⟨o, e, m⟩ := fm a z
    exact ⟨o, p.keep a o e (d a z), m⟩
  · rcases p.zup a z with y | y | y
    · exact (zf a y).1 q
    · exact d a q y
    · exact ne a q y
  · rcases p.zup a q with y | y | y
    · exact (yf a z).2.1 y
    · exact dy a z y
    · exact (yf a z).2.2 y
  · obtain ⟨v, e1, r⟩ := s4 i t e
    refine ⟨v, e1, r.stab t p.keep fmc (fun a z => ?_) dz p.zin⟩
    by_cases hi : i ∈ lc
    · exact dy a (s2 i hi a z)
    · exact d a (s1 i hi a z)
/-- a slot is locked while something runs -/
theorem R.lock {r : Nat} (h : R G lc Y env σ H F Z) (hr : r ∉ lc) : ∃ Sr : Sa, (∀ a, Sr a → F a) ∧ R G (r :: lc) (fun a => Y a ∨ Sr a) env σ H (fun a => F a ∧ ¬ Sr a) Z ∧
    ∀ {H' F' Z' env' σ'} {Fb : Sa}, R G (r :: lc) (fun a => Y a ∨ Sr a) env' σ' H' F' Z' → (∀ a o, H a = some o → ¬ Fb a → H' a = some o) → (∀ a, Z a → Z' a) → (∀ a, Fb a → ∃ o, H a = some o ∧ MutO o) → (∀ a, Fb a → ¬ Y a ∧ ¬ Sr a ∧ ¬ Z a) → Lck (r :: lc) env env' → (∀ i ∈ r :: lc, σ'[i]? = σ[i]?) →
      R G lc Y env' σ' H' (fun a => F' a ∨ Sr a) Z' := by
  obtain ⟨hl, fm, zf, yf, S, s1, s2, s3, s4⟩ := h
  have ne : ∀ a, F a → H a ≠ none := fun a z => by obtain ⟨o, e, _⟩ := fm a z; rw [e]; exact fun q => nomatch q
  refine ⟨S r, s1 r hr, ⟨hl, fun a z => fm a z.1, fun a z => ⟨fun q => (zf a z).1 q.1, (zf a z).2⟩, fun a z => ?_, S, fun i hi a z => ?_, fun i hi a z => ?_, s3, s4⟩, ?_⟩
  · rcases z with z | z
    · exact ⟨fun q => (yf a z).1 q.1, (yf a z).2⟩
    · exact ⟨fun q => q.2 z, fun q => (zf a q).1 (s1 r hr a z), ne a (s1 r hr a z)⟩
  · have h1 : i ∉ lc := fun q => hi (List.mem_cons_of_mem _ q)
    have h2 : i ≠ r := fun q => hi (by rw [q]; exact List.mem_cons_self)
    exact ⟨s1 i h1 a z, s3 i r h2 a z⟩
  · rcases List.mem_cons.mp hi with rfl | hi
    · exact .inr z
    · exact .inl (s2 i hi a z)
  · intro H' F' Z' env' σ' Fb h' keep zin fmb dj lk hσ
    obtain ⟨hl', fm', zf', yf', S', t1, t2, t3, t4⟩ := h'
    have dF' : ∀ a, F' a → ¬ Y a ∧ ¬ S r a := fun a z => ⟨fun q => (yf' a (.inl q)).1 z, fun q => (yf' a (.inr q)).1 z⟩
    refine ⟨hl', fun a z => ?_, fun a z => ⟨fun q => ?_, (zf' a z).2⟩, fun a z => ⟨fun q => ?_, (yf' a (.inl z)).2⟩, fun i => if i ∈ lc then S i else if i = r then S r else S' i, fun i hi a z => ?_, fun i hi a z => ?_, fun i j hij a z => ?_, fun i t e => ?_⟩
    · rcases z with z | z
      · exact fm' a z
      · obtain ⟨o, e, m⟩ := fm a (s1 r hr a z)
        exact ⟨o, keep a o e (fun q => (dj a q).2.1 z), m⟩
    · rcases q with q | q
      · exact (zf' a z).1 q
      · exact (yf' a (.inr q)).2.1 z
    · rcases q with q | q
      · exact (yf' a (.inl z)).1 q
      · exact (yf a z).1 (s1 r hr a q)
    · dsimp only at z
      rw [if_neg hi] at z
      split at z
      · exact .inr z
      · rename_i h2
        exact .inl (t1 i (fun q => (List.mem_cons.mp q).elim h2 hi) a z)
    · dsimp only at z
      rw [if_pos hi] at z
      exact s2 i hi a z
    · dsimp only at z ⊢
      have old : ∀ i j, i ≠ j → S i a → ¬ S j a := fun i j h => s3 i j h a
      have nw : ∀ i, i ∉ lc → i ≠ r → S' i a → F' a := fun i h1 h2 z => t1 i (fun q => (List.mem_cons.mp q).elim h2 h1) a z
      by_cases i1 : i ∈ lc
      · rw [if_pos i1] at z
        by_cases j1 : j ∈ lc
        · rw [if_pos j1]; exact old i j hij z
        · rw [if_neg j1]
          by_cases j2 : j = r
          · rw [if_pos j2]; exact old i r (fun q => hij (q.trans j2.symm)) z
          · rw [if_neg j2]; exact fun y => (dF' a (nw j j1 j2 y)).1 (s2 i i1 a z)
      · rw [if_neg i1] at z
        by_cases i2 : i = r
        · rw [if_pos i2] at z
          by_cases j1 : j ∈ lc
          · rw [if_pos j1]; exact old r j (fun q => hij (i2.trans q)) z
          · rw [if_neg j1]
            by_cases j2 : j = r
            · exact absurd (i2.trans j2.symm) hij
            · rw [if_neg j2]; exact fun y => (dF' a (nw j j1 j2 y)).2 z
        · rw [if_neg i2] at z
          by_cases j1 : j ∈ lc
          · rw [if_pos j1]; exact fun y => (dF' a (nw i i1 i2 z)).1 (s2 j j1 a y)
          · rw [if_neg j1]
            by_cases j2 : j = r
            · rw [if_pos j2]; exact fun y => (dF' a (nw i i1 i2 z)).2 y
            · rw [if_neg j2]; exact t3 i j hij a z
    · by_cases hi : i ∈ r :: lc
      · have e0 : env[i]? = some (some t) := by rw [← lk.2 i hi]; exact e
        obtain ⟨v, e1, q⟩ := s4 i t e0
        refine ⟨v, by rw [hσ i hi]; exact e1, ?_⟩
        have q' : Rep G Z' H' t v (S i) := q.stab t keep fmb (fun a z => ?_) (fun a z y => (dj a y).2.2 z) zin
        · dsimp only
          by_cases i1 : i ∈ lc
          · rw [if_pos i1]; exact q'
          · rw [if_neg i1]
            rcases List.mem_cons.mp hi with rfl | hi
            · rw [if_pos rfl]; exact q'
            · exact absurd hi i1
        · rcases List.mem_cons.mp hi with rfl | hi
          · exact fun y => (dj a y).2.1 z
          · exact fun y => (dj a y).1 (s2 i hi a z)
      · obtain ⟨v, e1, q⟩ := t4 i t e
        refine ⟨v, e1, ?_⟩
        dsimp only
        rw [if_neg (fun y => hi (List.mem_cons_of_mem _ y)), if_neg (fun y => hi (by rw [y]; exact List.mem_cons_self))]
        exact q
/-- slots are forgotten -/
theorem R.forget (h : R G lc Y env σ H F Z) (hl : env'.length = σ'.length) (w : ∀ (j : Nat) (t : T), env'[j]? = some (some t) → env[j]? = some (some t) ∧ σ'[j]? = σ[j]?) : R G lc Y env' σ' H F Z := by
  obtain ⟨_, fm, zf, yf, S, s1, s2, s3, s4⟩ := h
  refine ⟨hl, fm, zf, yf, S, s1, s2, s3, fun i t e => ?_⟩
  obtain ⟨e1, e2⟩ := w i t e
  obtain ⟨v, e3, r⟩ := s4 i t e1
  exact ⟨v, e2.trans e3, r⟩
theorem R.sub (h : R G lc Y env σ H F Z) (hF : ∀ a, F a → F' a) (fm' : ∀ a, F' a → ∃ o, H a = some o ∧ MutO o) (hz : ∀ a, Z a → ¬ F' a) (hy : ∀ a, Y a → ¬ F' a) : R G lc Y env σ H F' Z := by
  obtain ⟨hl, fm, zf, yf, S, s1, s2, s3, s4⟩ := h
  exact ⟨hl, fm', fun a z => ⟨hz a z, (zf a z).2⟩, fun a z => ⟨hy a z, (yf a z).2⟩, S, fun i hi a z => hF a (s1 i hi a z), s2, s3, s4⟩
/-- a slot is taken out -/
theorem R.open_ {r : Nat} {t : T} (h : R G lc Y env σ H F Z) (hr : r ∉ lc) (e : env[r]? = some (some t)) :
    ∃ (u : V) (Sr : Sa), σ[r]? = some (some u) ∧ Rep G Z H t u Sr ∧ (∀ a, Sr a → F a) ∧ R G lc Y (env.set r none) σ H (fun a => F a ∧ ¬ Sr a) Z := by
  obtain ⟨hl, fm, zf, yf, S, s1, s2, s3, s4⟩ := h
  obtain ⟨u, e1, q⟩ := s4 r t e
  refine ⟨u, S r, e1, q, s1 r hr, by rw [List.length_set]; exact hl, fun a z => fm a z.1, fun a z => ⟨fun y => (zf a z).1 y.1, (zf a z).2⟩, fun a z => ⟨fun y => (yf a z).1 y.1, (yf a z).2⟩, fun i => if i = r then none_ else S i, fun i hi a z => ?_, fun i hi a z => ?_, fun i j hij a z => ?_, fun i t' e' => ?_⟩
  · dsimp only at z
    split at z
    · exact z.elim
    · rename_i n; exact ⟨s1 i hi a z, s3 i r n a z⟩
  · dsimp only at z
    split at z
    · exact z.elim
    · exact s2 i hi a z
  · dsimp only at z ⊢
    split at z
    · exact z.elim
    · split
      · exact id
      · exact s3 i j hij a z
  · by_cases hi : i = r
    · subst hi
      have : i < env.length := (List.getElem?_eq_some_iff.mp e).1
      rw [List.getElem?_set_self this] at e'; cases e'
    · rw [List.getElem?_set_ne (Ne.symm hi)] at e'
      obtain ⟨v, e2, q'⟩ := s4 i t' e'
      exact ⟨v, e2, by dsimp only; rw [if_neg hi]; exact q'⟩
/-- a slot is filled (in place, or bound anew) -/
theorem R.bind {r : Nat} {t : T} {u : V} {S' : Sa} (h : R G lc Y env σ H F Z) (hr : r ∉ lc) (hlen : r < env.length) (q : Rep G Z H t u S') (fm' : ∀ a, S' a → ∃ o, H a = some o ∧ MutO o) (d : ∀ a, S' a → ¬ F a) (dy : ∀ a, S' a → ¬ Y a) (dz : ∀ a, S' a → ¬ Z a)
    (hσl : σ'.length = σ.length) (hσ : ∀ i, i ≠ r → σ'[i]? = σ[i]?) (hσr : σ'[r]? = some (some u)) : R G lc Y (env.set r (some t)) σ' H (fun a => F a ∨ S' a) Z := by
  obtain ⟨hl, fm, zf, yf, S, s1, s2, s3, s4⟩ := h
  refine ⟨by rw [List.length_set, hσl]; exact hl, fun a z => z.elim (fm a) (fm' a), fun a z => ⟨fun y => y.elim (zf a z).1 fun y => dz a y z, (zf a z).2⟩, fun a z => ⟨fun y => y.elim (yf a z).1 fun y => dy a y z, (yf a z).2⟩, fun i => if i = r then S' else S i, fun i hi a z => ?_, fun i hi a z => ?_, fun i j hij a z => ?_, fun i t' e' => ?_⟩
  · dsimp only at z
    split at z
    · exact .inr z
    · exact .inl (s1 i hi a z)
  · dsimp only at z
    split at z
    · rename_i n; subst n; exact absurd hi hr
    · exact s2 i hi a z
  · dsimp only at z ⊢
    have old : ∀ i, i ≠ r → S i a → ¬ S' a := fun i _ z y => by
      by_cases hi : i ∈ lc
      · exact dy a y (s2 i hi a z)
      · exact d a y (s1 i hi a z)
    split at z
    · rename_i n
      rw [if_neg (fun y => hij (n.trans y.symm))]
      exact fun y => old j (fun y => hij (n.trans y.symm)) y z
    · rename_i n
      split
      · exact old i n z
      · exact s3 i j hij a z
  · by_cases hi : i = r
    · subst hi
      rw [List.getElem?_set_self hlen] at e'; cases e'
      exact ⟨u, hσr, by dsimp only; rw [if_pos rfl]; exact q⟩
    · rw [List.getElem?_set_ne (Ne.symm hi)] at e'
      obtain ⟨v, e2, q'⟩ := s4 i t' e'
      exact ⟨v, (hσ i hi).trans e2, by dsimp only; rw [if_neg hi]; exact q'⟩
theorem RepL.len : ∀ (xs : List T) {vs : List V} {S : Sa}, RepL G Z H xs vs S → vs.length = xs.length
  | [], vs, _, h => by
    have h' : vs = [] := h
    subst h'; rfl
  | _ :: xs, _, _, ⟨v, r, S1, S2, e, h1, h2, d, s1, s2⟩ => by rw [e, List.length_cons, List.length_cons, RepL.len xs h2]
theorem RepL.at_ : ∀ (xs : List T) {vs : List V} {S : Sa} {j : Nat} {x : T}, RepL G Z H xs vs S → xs[j]? = some x → ∃ (w : V) (Sj Sr : Sa), vs[j]? = some w ∧ Rep G Z H x w Sj ∧ (∀ a, Sj a → S a) ∧ (∀ a, Sr a → S a) ∧ (∀ a, Sr a → ¬ Sj a) ∧
    ∀ {H' : Hp} {Z' Fc : Sa} {x' : T} {S' : Sa}, Stab Fc H H' → (∀ a, Fc a → ∃ o, H a = some o ∧ MutO o) → (∀ a, Sr a → ¬ Fc a) → (∀ a, Z a → ¬ Fc a) → (∀ a, Z a → Z' a) → Rep G Z' H' x' w S' → (∀ a, Sr a → ¬ S' a) → RepL G Z' H' (xs.set j x') vs (fun a => Sr a ∨ S' a)
  | [], _, _, j, _, _, e => by simp at e
  | x :: xs, _, S, 0, y, ⟨v, r, S1, S2, e, h1, h2, d, s1, s2⟩, ey => by
    simp at ey; subst ey; subst e
    refine ⟨v, S1, S2, rfl, h1, s1, s2, fun a z y => d a y z, fun st fm hs hz hzz q dd => ?_⟩
    rw [List.set_cons_zero]
    exact ⟨v, r, _, _, rfl, q, RepL.stab xs h2 st fm hs hz hzz, fun a z y => dd a y z, fun a z => .inr z, fun a z => .inl z⟩
  | x :: xs, _, S, j + 1, y, ⟨v, r, S1, S2, e, h1, h2, d, s1, s2⟩, ey => by
    subst e
    obtain ⟨w, Sj, Sr, e1, q1, a1, a2, a3, k⟩ := RepL.at_ xs h2 (by simpa using ey)
    refine ⟨w, Sj, fun a => S1 a ∨ Sr a, by simpa using e1, q1, fun a z => s2 a (a1 a z), fun a z => z.elim (s1 a) fun z => s2 a (a2 a z), fun a z y => z.elim (fun z => d a z (a1 a y)) fun z => a3 a z y, fun {H' Z' Fc x' S'} st fm hs hz hzz q dd => ?_⟩
    rw [List.set_cons_succ]
    refine ⟨v, r, S1, fun a => Sr a ∨ S' a, rfl, Rep.stab x h1 st fm (fun a z => hs a (.inl z)) hz hzz, k st fm (fun a z => hs a (.inr z)) hz hzz q fun a z => dd a (.inr z), fun a z y => y.elim (fun y => d a z (a2 a y)) fun y => dd a (.inl z) y, fun a z => .inl (.inl z), fun a z => z.elim (fun z => .inl (.inr z)) .inr⟩
theorem zip_get {α β : Type} : ∀ {l : List α} {m : List β} {j : Nat} {b : β}, l.length = m.length → m[j]? = some b → ((l.zip m)[j]?).map (·.2) = some b
  | [], [], _, _, _, e => by simp at e
  | [], _ :: _, _, _, h, _ => by simp at h
  | _ :: _, [], _, _, _, e => by simp at e
  | a :: l, b :: m, 0, c, _, e => by simpa using e
  | a :: l, b :: m, j + 1, c, h, e => by
    have := zip_get (l := l) (m := m) (j := j) (b := c) (by simpa using h) (by simpa using e)
    simpa using this
theorem kid_of {k : Kd} {a : Addr} {vs : List V} {j : Nat} {w : V} (hd : k.deep = true) (hn : nodeAt G H k a vs) (hk : kidsOk k vs.length) (e : vs[j]? = some w) : kidV H (.ref a) j w := by
  cases k with
  | tup => cases hd
  | lst => cases hd
  | scr => cases hd
  | exn _ _ => cases hd
  | dct ks =>
    obtain ⟨nd, h⟩ := hn
    rcases h with ⟨kk, e1, h⟩ | ⟨kk, e1, h⟩
    · exact ⟨a, rfl, .inr (.inl ⟨_, h, zip_get (by subst e1; simpa [kidsOk] using hk) e⟩)⟩
    · exact ⟨a, rfl, .inr (.inr ⟨_, h, zip_get (by subst e1; simpa [kidsOk] using hk) e⟩)⟩
  | ins c ns =>
    obtain ⟨nd, dx, h⟩ := hn
    exact ⟨a, rfl, .inl ⟨_, _, _, h, zip_get hk e⟩⟩
theorem deep_ne {k : Kd} (h : k.deep = true) : ¬ immK k = true := by cases k <;> first | (cases h; done) | (intro z; cases z)
/-- a place within a tree: what stands there, what surrounds it -/
theorem placeL : ∀ (p : List Nat) {t : T} {u : V} {S : Sa} {x : T}, Rep G Z H t u S → t.get p = some x → ∃ (w : V) (Sx S1 : Sa), navV H u p w ∧ Rep G Z H x w Sx ∧ (∀ a, Sx a → S a) ∧ (∀ a, S1 a → S a) ∧ (∀ a, S1 a → ¬ Sx a) ∧
    ∀ {H' : Hp} {Z' Fc : Sa} {x' : T} {Sx' : Sa}, Stab Fc H H' → (∀ a, Fc a → ∃ o, H a = some o ∧ MutO o) → (∀ a, S1 a → ¬ Fc a) → (∀ a, Z a → ¬ Fc a) → (∀ a, Z a → Z' a) → Rep G Z' H' x' w Sx' → (∀ a, S1 a → ¬ Sx' a) → Rep G Z' H' (T.set x' t p) u (fun a => S1 a ∨ Sx' a)
  | [], t, u, S, x, h, e => by
    have e' : t = x := by cases t <;> simpa [T.get] using e
    subst e'
    refine ⟨u, S, none_, rfl, h, fun _ z => z, fun _ z => z.elim, fun _ z => z.elim, fun {H' Z' Fc x' Sx'} _ _ _ _ _ q _ => ?_⟩
    have es : T.set x' t [] = x' := by cases t <;> rfl
    rw [es]
    exact q.mono x' fun a z => .inr z
  | j :: p, t, u, S, x, h, e => by
    cases t with
    | hole => cases e
    | non => cases e
    | bl _ => cases e
    | int _ => cases e
    | str _ => cases e
    | nd k f xs =>
      have e1 : (if (f && k.deep) = true then (match xs[j]? with | some y => y.get p | none => none) else none) = some x := e
      split at e1
      · rename_i hc
        rw [Bool.and_eq_true] at hc
        obtain ⟨rfl, hd⟩ := hc
        cases ej : xs[j]? with
        | none => rw [ej] at e1; cases e1
        | some y =>
          rw [ej] at e1
          obtain ⟨a, vs, S0, rfl, hn, hk, hl, hF⟩ := h
          unfold ndF at hF
          rw [if_neg (deep_ne hd), if_pos rfl] at hF
          obtain ⟨w1, Sj, Sr, ew, q1, a1, a2, a3, k1⟩ := RepL.at_ xs hl ej
          obtain ⟨w, Sx, S1, nv, qx, b1, b2, b3, k2⟩ := placeL p q1 e1
          refine ⟨w, Sx, fun b => b = a ∨ Sr b ∨ S1 b, ⟨w1, kid_of hd hn hk ew, nv⟩, qx, fun b z => hF.2.2 b (a1 b (b1 b z)), fun b z => ?_, fun b z y => ?_, fun {H' Z' Fc x' Sx'} st fm hs hz hzz q dd => ?_⟩
          · rcases z with rfl | z | z
            · exact hF.1
            · exact hF.2.2 b (a2 b z)
            · exact hF.2.2 b (a1 b (b2 b z))
          · rcases z with rfl | z | z
            · exact hF.2.1 (a1 b (b1 b y))
            · exact a3 b z (b1 b y)
            · exact b3 b z y
          · have es : T.set x' (.nd k true xs) (j :: p) = .nd k true (xs.set j (T.set x' y p)) := by
              show (match xs[j]? with | some y => T.nd k true (xs.set j (T.set x' y p)) | none => T.nd k true xs) = _
              rw [ej]
            rw [es]
            have r1 := k2 st fm (fun b z => hs b (.inr (.inr z))) hz hzz q (fun b z => dd b (.inr (.inr z)))
            have r2 := k1 st fm (fun b z => hs b (.inr (.inl z))) hz hzz r1 (fun b z y => y.elim (fun y => a3 b z (b2 b y)) fun y => dd b (.inr (.inl z)) y)
            refine ⟨a, vs, _, rfl, hn.stab st (.inr (hs a (.inl rfl))) fm, hk, r2, ?_⟩
            unfold ndF
            rw [if_neg (deep_ne hd), if_pos rfl]
            refine ⟨.inl (.inl rfl), fun z => ?_, fun b z => ?_⟩
            · rcases z with z | z | z
              · exact hF.2.1 (a2 a z)
              · exact hF.2.1 (a1 a (b2 a z))
              · exact dd a (.inl rfl) z
            · rcases z with z | z | z
              · exact .inl (.inr (.inl z))
              · exact .inl (.inr (.inr z))
              · exact .inr z
      · cases e1
end
end TI
end
section
set_option maxHeartbeats 400000
/-! TS2: what is wanted of the code's outcomes; contexts. -/
namespace TI
open PySem L2

section
variable {G : Gd} {lc : List Nat} {Y : Sa} {env env' : Env} {σ σ' : St} {H H' : Hp} {F F' Fc Fc' Z Z' : Sa}
theorem navV_stab : ∀ (p : List Nat) {t : T} {u w : V} {S : Sa} {x : T}, Rep G Z H t u S → t.get p = some x → navV H u p w → Stab Fc H H' → (∀ a, S a → ¬ Fc a) → navV H' u p w
  | [], _, _, _, _, _, _, _, n, _, _ => n
  | j :: p, t, u, w, S, x, h, e, n, st, hs => by
    cases t with
    | hole => cases e
    | non => cases e
    | bl _ => cases e
    | int _ => cases e
    | str _ => cases e
    | nd k f xs =>
      have e1 : (if (f && k.deep) = true then (match xs[j]? with | some y => y.get p | none => none) else none) = some x := e
      split at e1
      · rename_i hc
        rw [Bool.and_eq_true] at hc
        obtain ⟨rfl, hd⟩ := hc
        cases ej : xs[j]? with
        | none => rw [ej] at e1; cases e1
        | some y =>
          rw [ej] at e1
          obtain ⟨a, vs, S0, rfl, hn, hk, hl, hF⟩ := h
          unfold ndF at hF
          rw [if_neg (deep_ne hd), if_pos rfl] at hF
          obtain ⟨w1, Sj, Sr, ew, q1, a1, _, _, _⟩ := RepL.at_ xs hl ej
          obtain ⟨u1, k1, n1⟩ := n
          have k2 := kid_of hd hn hk ew
          cases k1.inj k2
          refine ⟨w1, ?_, navV_stab p q1 e1 n1 st fun b z => hs b (hF.2.2 b (a1 b z))⟩
          obtain ⟨b, eb, k1⟩ := k1
          cases eb
          have na := hs a hF.1
          refine ⟨a, rfl, ?_⟩
          rcases k1 with ⟨C, dx, fs, q, z⟩ | ⟨kvs, q, z⟩ | ⟨kvs, q, z⟩
          · exact .inl ⟨C, dx, fs, st a _ q na, z⟩
          · exact .inr (.inl ⟨kvs, rd_stab q st na, z⟩)
          · exact .inr (.inr ⟨kvs, rd_stab q st na, z⟩)
      · cases e1
/-- what a reading has at hand -/
theorem look_rep {rv : RV} {v : V} {S : Sa} {t : T} (r : R G lc Y env σ H F Z) (q : RepRV G σ Z H rv v S) (e : lookR env rv = some t) : ∃ S', Rep G Z H t v S' ∧ (∀ a, S' a → S a ∨ F a ∨ Y a) := by
  cases rv with
  | tmp x => cases e; exact ⟨S, q, fun a z => .inl z⟩
  | plc i p =>
    have e1 : (match env[i]? with | some (some u) => u.get p | _ => none) = some t := e
    cases ei : env[i]? with
    | none => rw [ei] at e1; cases e1
    | some o =>
      cases o with
      | none => rw [ei] at e1; cases e1
      | some x =>
        rw [ei] at e1
        obtain ⟨hl, fm, zf, yf, S0, s1, s2, s3, s4⟩ := r
        obtain ⟨u, eu, rp⟩ := s4 i x ei
        obtain ⟨_, u', eu', nv⟩ := q
        rw [eu] at eu'; cases eu'
        obtain ⟨w, Sx, S1, nw, rx, a1, _⟩ := placeL p rp e1
        cases nv.inj nw
        refine ⟨Sx, rx, fun a z => ?_⟩
        by_cases hi : i ∈ lc
        · exact .inr (.inr (s2 i hi a (a1 a z)))
        · exact .inr (.inl (s1 i hi a (a1 a z)))
end

/-! ### wishes -/
/-- the classes of exceptions: what stands for class c with fields xs -/
def ExcAt (G : Gd) (cs : Nat → List Str) (Z : Sa) (H : Hp) (c : Nat) (xs : List T) (cls : Value) (d : Option Addr) : Prop :=
  cls = .ref (G.ca c) ∧ ∃ vs, RepL G Z H xs vs none_ ∧ xs.length = (cs c).length ∧ ((xs = [] ∧ d = none) ∨ ∃ dd, d = some dd ∧ ∃ fs, H dd = some (.xd fs) ∧ ∀ f, fs.lookup f = ((cs c).zip vs).lookup f)
structure Bs where
  G : Gd
  K : Ek
  cs : Nat → List Str
  W : WX
abbrev Bs.k (B : Bs) (lc pn : List Nat) : Ek := { B.K with lc := lc, pn := pn }
/-- behind a step: the slots, the footprint, what is at hand -/
structure Aft (G : Gd) (lc : List Nat) (Y : Sa) (env : Env) (σ : St) (F Z : Sa) (H : Hp) (env' : Env) (σ' : St) (F' Z' : Sa) (H' : Hp) (S : Sa) : Prop where
  r : R G lc Y env' σ' H' F' Z'
  sm : ∀ a, S a → ∃ o, H' a = some o ∧ MutO o
  sd : ∀ a, S a → ¬ F' a ∧ ¬ Z' a ∧ ¬ Y a
  p : Post F Z H (fun a => F' a ∨ S a) Z' H'
  lk : Lck lc env env'
/-- what is wanted of an outcome: VR ties the tree's side to the machine's -/
def OQ {α β : Type} (B : Bs) (lc : List Nat) (Y : Sa) (env : Env) (σ : St) (F Z : Sa) (H : Hp) (VR : α → β → Sa → Sa → Hp → Prop) (o : Out α) (Q : β → Hp → Prop) : Prop := match o with
  | .ok a env' => ∀ (b : β) (H' : Hp) (F' Z' S : Sa), Aft B.G lc Y env σ F Z H env' σ F' Z' H' S → VR a b S Z' H' → Q b H'
  | .err c xs env' => ∀ (cls : Value) (d : Option Addr) (H' : Hp) (F' Z' : Sa), Aft B.G lc Y env σ F Z H env' σ F' Z' H' none_ → ExcAt B.G B.cs Z' H' c xs cls d → B.W cls d σ H'
  | .stuck => False
abbrev VR1 (G : Gd) (σ : St) : RV → V → Sa → Sa → Hp → Prop := fun rv v S Z H => RepRV G σ Z H rv v S
abbrev VRb : Bool → Bool → Sa → Sa → Hp → Prop := fun a b _ _ _ => a = b
/-- several -/
def RepRVs (G : Gd) (σ : St) (Z : Sa) (H : Hp) : List RV → List V → Sa → Prop
  | [], vs, _ => vs = []
  | x :: xs, vs, S => ∃ v r S1 S2, vs = v :: r ∧ RepRV G σ Z H x v S1 ∧ RepRVs G σ Z H xs r S2 ∧ (∀ a, S1 a → ¬ S2 a) ∧ (∀ a, S1 a → S a) ∧ ∀ a, S2 a → S a
abbrev VRl (G : Gd) (σ : St) : List RV → List V → Sa → Sa → Hp → Prop := fun rv v S Z H => RepRVs G σ Z H rv v S
abbrev VRv (G : Gd) : List T → List V → Sa → Sa → Hp → Prop := fun xs vs S Z H => RepL G Z H xs vs S
section
variable {B : Bs} {lc : List Nat} {Y : Sa} {env env1 env2 : Env} {σ : St} {H H1 H2 : Hp} {F F1 F2 Z Z1 Z2 S1 S2 : Sa} {α β γ δ : Type}
theorem R.ne {G : Gd} (r : R G lc Y env σ H F Z) : ∀ a, F a → H a ≠ none := fun a z => by obtain ⟨o, e, _⟩ := r.fm a z; rw [e]; exact fun q => nomatch q
theorem Aft.refl {G : Gd} (r : R G lc Y env σ H F Z) : Aft G lc Y env σ F Z H env σ F Z H none_ :=
  ⟨r, fun _ z => z.elim, fun _ z => z.elim, ⟨fun _ _ h _ => h, fun _ h => h, fun _ h => h.elim .inl False.elim, fun _ h => h, fun _ h => .inl h⟩, Lck.refl⟩
theorem Aft.ne {G : Gd} {σ' : St} (a : Aft G lc Y env σ F Z H env1 σ' F1 Z1 H1 S1) : ∀ x, S1 x → H1 x ≠ none := fun x z => by obtain ⟨o, e, _⟩ := a.sm x z; rw [e]; exact fun q => nomatch q
/-- one step behind another; what was at hand stays -/
theorem Aft.step {G : Gd} {σ1 σ2 : St} (a : Aft G lc Y env σ F Z H env1 σ1 F1 Z1 H1 S1) (b : Aft G lc Y env1 σ1 F1 Z1 H1 env2 σ2 F2 Z2 H2 S2) : Aft G lc Y env σ F Z H env2 σ2 F2 Z2 H2 (fun x => S1 x ∨ S2 x) ∧ (∀ x, S1 x → ¬ S2 x) := by
  have q : ∀ x, S1 x → ¬ (F2 x ∨ S2 x) := fun x z y => by
    rcases b.p.grow x y with y | y
    · exact (a.sd x z).1 y
    · exact a.ne x z y
  refine ⟨⟨b.r, fun x z => z.elim (fun z => ?_) (b.sm x), fun x z => z.elim (fun z => ⟨fun y => q x z (.inl y), fun y => ?_, (a.sd x z).2.2⟩) (b.sd x), ?_, a.lk.trans b.lk⟩, fun x z y => q x z (.inr y)⟩
  · obtain ⟨o, e, m⟩ := a.sm x z
    exact ⟨o, b.p.keep x o e (a.sd x z).1, m⟩
  · rcases b.p.zup x y with y | y | y
    · exact (a.sd x z).2.1 y
    · exact (a.sd x z).1 y
    · exact a.ne x z y
  · have p2 := b.p.frame S1
    have p1 := a.p
    refine (p1.trans p2).sub (fun _ z => z) fun x z => ?_
    rcases z with z | z | z
    · exact .inl (.inl (.inl z))
    · exact .inl (.inr z)
    · exact .inl (.inl (.inr z))
theorem Aft.less {G : Gd} {σ1 : St} (a : Aft G lc Y env σ F Z H env1 σ1 F1 Z1 H1 S1) (h : ∀ x, S2 x → S1 x) : Aft G lc Y env σ F Z H env1 σ1 F1 Z1 H1 S2 :=
  ⟨a.r, fun x z => a.sm x (h x z), fun x z => a.sd x (h x z), a.p.sub (fun _ z => z) fun x z => .inl (z.elim .inl fun z => .inr (h x z)), a.lk⟩
/-- what was at hand is over the later heap as it was -/
theorem Aft.rep {G : Gd} {σ1 σ2 : St} (a : Aft G lc Y env σ F Z H env1 σ1 F1 Z1 H1 S1) (b : Aft G lc Y env1 σ1 F1 Z1 H1 env2 σ2 F2 Z2 H2 S2) {t : T} {v : V} {S : Sa} (q : Rep G Z1 H1 t v S) (h : ∀ x, S x → S1 x) : Rep G Z2 H2 t v S :=
  q.stab t b.p.keep a.r.fm (fun x z => (a.sd x (h x z)).1) (fun x z => (a.r.zf x z).1) b.p.zin
theorem Aft.repL {G : Gd} {σ1 σ2 : St} (a : Aft G lc Y env σ F Z H env1 σ1 F1 Z1 H1 S1) (b : Aft G lc Y env1 σ1 F1 Z1 H1 env2 σ2 F2 Z2 H2 S2) {t : List T} {v : List V} {S : Sa} (q : RepL G Z1 H1 t v S) (h : ∀ x, S x → S1 x) : RepL G Z2 H2 t v S :=
  RepL.stab t q b.p.keep a.r.fm (fun x z => (a.sd x (h x z)).1) (fun x z => (a.r.zf x z).1) b.p.zin
/-- a wish of the first state, from the second one -/
theorem OQ.rebase {VR : α → β → Sa → Sa → Hp → Prop} {o : Out α} {Q : β → Hp → Prop} (h : OQ B lc Y env σ F Z H VR o Q) (a : Aft B.G lc Y env σ F Z H env1 σ F1 Z1 H1 S1) :
    OQ B lc Y env1 σ F1 Z1 H1 (fun x b S Z' H' => ∃ S', VR x b S' Z' H' ∧ (∀ y, S' y → S1 y ∨ S y)) o Q := by
  cases o with
  | stuck => exact h
  | ok x e =>
    intro b H' F' Z' S b' q
    obtain ⟨S', q, hs⟩ := q
    exact h b H' F' Z' S' ((a.step b').1.less hs) q
  | err c xs e =>
    intro cls d H' F' Z' b' q
    exact h cls d H' F' Z' ((a.step b').1.less fun _ z => z.elim) q
theorem OQ.bind {VR : α → β → Sa → Sa → Hp → Prop} {VR' : γ → δ → Sa → Sa → Hp → Prop} {o : Out γ} {f : γ → Env → Out α} {Q : β → Hp → Prop} {Q1 : δ → Hp → Prop} (h : OQ B lc Y env σ F Z H VR (o.bind f) Q)
    (k : ∀ (a : γ) (env1 : Env) (b : δ) (H1 : Hp) (F1 Z1 S1 : Sa), o = .ok a env1 → Aft B.G lc Y env σ F Z H env1 σ F1 Z1 H1 S1 → VR' a b S1 Z1 H1 → OQ B lc Y env σ F Z H VR (f a env1) Q → Q1 b H1) : OQ B lc Y env σ F Z H VR' o Q1 := by
  cases o with
  | stuck => exact h
  | ok x e => exact fun b H' F' Z' S a q => k x e b H' F' Z' S rfl a q h
  | err c xs e => exact h
end
end TI
end
section
set_option maxHeartbeats 400000
/-! TS3: readings of the code; one operand, two, several. -/
namespace TI
open PySem L2
/-- what a step of the code means as a reading -/
def tG {γ δ : Type} (B : Bs) (VR : St → γ → δ → Sa → Sa → Hp → Prop) (ev : Ek → Env → Out γ) : St → Hp → (δ → Hp → Prop) → Prop := fun σ H Q =>
  ∃ (lc pn : List Nat) (Y : Sa) (env : Env) (F Z : Sa), R B.G lc Y env σ H F Z ∧ OQ B lc Y env σ F Z H (VR σ) (ev (B.k lc pn) env) Q
def tR (B : Bs) (c : C) : TE := tG B (VR1 B.G) (fun K env => evR K c env)
def tB (B : Bs) (c : C) : TT := tG B (fun _ => VRb) (fun K env => evB K c env)
def tL (B : Bs) (c : C) : TA := tG B (VRl B.G) (fun K env => evL K c env)
def tV (B : Bs) (c : C) : TA := tG B (fun _ => VRv B.G) (fun K env => evV K c env)
theorem _root_.L2.PE.tim {X : Cx} {e : Expr} {t t' : TE} (h : PE X e t) (k : ∀ σ H Q, t' σ H Q → t σ H Q) : PE X e t' := ⟨fun pins s σ H Q I w => h.run pins s σ H Q I (k σ H Q w)⟩
theorem _root_.L2.PT.tim {X : Cx} {e : Expr} {t t' : TT} (h : PT X e t) (k : ∀ σ H Q, t' σ H Q → t σ H Q) : PT X e t' := ⟨fun pins s σ H Q I w => h.run pins s σ H Q I (k σ H Q w)⟩
theorem _root_.L2.PA.tim {X : Cx} {e : List Expr} {t t' : TA} (h : PA X e t) (k : ∀ σ H Q, t' σ H Q → t σ H Q) : PA X e t' := ⟨fun pos pins s σ H Q I w => h.run pos pins s σ H Q I (k σ H Q w)⟩
theorem _root_.L2.PS.tim {X : Cx} {e : Stmt} {t t' : TS} (h : PS X e t) (k : ∀ D σ H, t' D σ H → t D σ H) : PS X e t' := ⟨fun pins s σ H D I w => h.run pins s σ H D I (k D σ H w)⟩
theorem _root_.L2.PSs.tim {X : Cx} {e : List Stmt} {t t' : TS} (h : PSs X e t) (k : ∀ D σ H, t' D σ H → t D σ H) : PSs X e t' := ⟨fun pins s σ H D I w => h.run pins s σ H D I (k D σ H w)⟩
section
variable {B : Bs} {lc pn : List Nat} {Y : Sa} {env env1 env2 : Env} {σ : St} {H H1 H2 : Hp} {F F1 F2 Z Z1 Z2 S1 S2 : Sa} {α β γ δ : Type}
theorem R.dup {G : Gd} {r : Nat} (h : R G lc Y env σ H F Z) (hr : r ∈ lc) : R G (r :: lc) Y env σ H F Z := by
  obtain ⟨hl, fm, zf, yf, S, s1, s2, s3, s4⟩ := h
  exact ⟨hl, fm, zf, yf, S, fun i hi => s1 i fun z => hi (List.mem_cons_of_mem _ z), fun i hi => s2 i ((List.mem_cons.mp hi).elim (fun z => z ▸ hr) id), s3, s4⟩
theorem R.undup {G : Gd} {r : Nat} (h : R G (r :: lc) Y env σ H F Z) (hr : r ∈ lc) : R G lc Y env σ H F Z := by
  obtain ⟨hl, fm, zf, yf, S, s1, s2, s3, s4⟩ := h
  exact ⟨hl, fm, zf, yf, S, fun i hi => s1 i fun z => (List.mem_cons.mp z).elim (fun y => hi (y ▸ hr)) hi, fun i hi => s2 i (List.mem_cons_of_mem _ hi), s3, s4⟩
/-- what was read stays what it was -/
theorem rv_stay {G : Gd} {rv : RV} {v : V} (a : Aft G lc Y env σ F Z H env1 σ F1 Z1 H1 S1) (q : RepRV G σ Z1 H1 rv v S1) (b : Aft G lc Y env1 σ F1 Z1 H1 env2 σ F2 Z2 H2 S2) (hp : ∀ r j p, rv ≠ .plc r (j :: p)) : RepRV G σ Z2 H2 rv v S1 := by
  cases rv with
  | tmp t => exact a.rep b q fun _ z => z
  | plc r p =>
    cases p with
    | nil => obtain ⟨n, u, e, w⟩ := q; exact ⟨n, u, e, w⟩
    | cons j p => exact absurd rfl (hp r j p)
/-- the second operand: what was read first is locked or stays -/
theorem second {VR : α → β → Sa → Sa → Hp → Prop} {VR' : St → γ → δ → Sa → Sa → Hp → Prop} {ev : Ek → Env → Out γ} {rv : RV} {v : V} {f : γ → Env → Out α} {Q : β → Hp → Prop} {Q2 : δ → Hp → Prop}
    (a : Aft B.G lc Y env σ F Z H env1 σ F1 Z1 H1 S1) (q : RepRV B.G σ Z1 H1 rv v S1)
    (h : OQ B lc Y env σ F Z H VR (((B.k lc pn).withP env1 rv fun K => ev K env1).bind f) Q)
    (k : ∀ (x : γ) (e2 : Env) (w : δ) (H2 : Hp) (F2 Z2 S2 : Sa), Aft B.G lc Y env1 σ F1 Z1 H1 e2 σ F2 Z2 H2 S2 → RepRV B.G σ Z2 H2 rv v S1 → VR' σ x w S2 Z2 H2 → OQ B lc Y env σ F Z H VR (f x e2) Q → Q2 w H2) :
    tG B VR' ev σ H1 Q2 := by
  by_cases hp : ∃ r j p, rv = .plc r (j :: p)
  · obtain ⟨r, j, p, rfl⟩ := hp
    have hk : ∃ t, lookR env1 (.plc r (j :: p)) = some t ∧ ((B.k lc pn).withP env1 (.plc r (j :: p)) fun K => ev K env1) = ev (B.k (r :: lc) pn) env1 := by
      cases el : lookR env1 (.plc r (j :: p)) with
      | none =>
        exfalso
        have : ((B.k lc pn).withP env1 (.plc r (j :: p)) fun K => ev K env1) = .stuck := by
          show (match lookR env1 (.plc r (j :: p)) with | some _ => _ | none => _) = _
          rw [el]
        rw [this] at h
        exact h
      | some t =>
        refine ⟨t, rfl, ?_⟩
        show (match lookR env1 (.plc r (j :: p)) with | some _ => _ | none => _) = _
        rw [el]
        rfl
    obtain ⟨t, ht, hk⟩ := hk
    rw [hk] at h
    -- the slot's own tree
    have e1 : (match env1[r]? with | some (some u) => u.get (j :: p) | _ => none) = some t := ht
    cases ei : env1[r]? with
    | none => rw [ei] at e1; cases e1
    | some o =>
      cases o with
      | none => rw [ei] at e1; cases e1
      | some x =>
        rw [ei] at e1
        by_cases hr : r ∈ lc
        · -- locked already
          refine ⟨r :: lc, pn, Y, env1, F1, Z1, a.r.dup hr, ?_⟩
          have h' : OQ B (r :: lc) Y env1 σ F1 Z1 H1 (VR' σ) (ev (B.k (r :: lc) pn) env1) Q2 := by
            have hb := h
            cases eo : ev (B.k (r :: lc) pn) env1 with
            | stuck => rw [eo] at hb; exact hb
            | ok x2 e2 =>
              rw [eo] at hb
              intro w H2 F2 Z2 S2 b q2
              have b' : Aft B.G lc Y env1 σ F1 Z1 H1 e2 σ F2 Z2 H2 S2 := ⟨b.r.undup hr, b.sm, b.sd, b.p, ⟨b.lk.1, fun i hi => b.lk.2 i (List.mem_cons_of_mem _ hi)⟩⟩
              refine k x2 e2 w H2 F2 Z2 S2 b' ⟨q.1, ?_⟩ q2 hb
              obtain ⟨_, u, eu, nv⟩ := q
              obtain ⟨hl, fm, zf, yf, S, s1, s2, s3, s4⟩ := a.r
              obtain ⟨u', eu', rp⟩ := s4 r x ei
              rw [eu] at eu'; cases eu'
              exact ⟨u, eu, navV_stab (j :: p) rp e1 nv b.p.keep fun y z => (yf y (s2 r hr y z)).1⟩
            | err c xs e2 =>
              rw [eo] at hb
              intro cls d H2 F2 Z2 b q2
              have b' : Aft B.G lc Y env1 σ F1 Z1 H1 e2 σ F2 Z2 H2 none_ := ⟨b.r.undup hr, b.sm, b.sd, b.p, ⟨b.lk.1, fun i hi => b.lk.2 i (List.mem_cons_of_mem _ hi)⟩⟩
              exact hb cls d H2 F2 Z2 ((a.step b').1.less fun _ z => z.elim) q2
          exact h'
        · obtain ⟨u0, eu0, nv⟩ := q.2
          obtain ⟨Sr, hSr, r1, back⟩ := a.r.lock hr
          have rp : ∃ Sx : Sa, Rep B.G Z1 H1 x u0 Sx ∧ ∀ y, Sx y → Y y ∨ Sr y := by
            obtain ⟨hl, fm, zf, yf, S, s1, s2, s3, s4⟩ := r1
            obtain ⟨u', eu', rp⟩ := s4 r x ei
            rw [eu0] at eu'; cases eu'
            exact ⟨S r, rp, s2 r List.mem_cons_self⟩
          obtain ⟨Sx, rp, hx⟩ := rp
          refine ⟨r :: lc, pn, _, env1, _, Z1, r1, ?_⟩
          have conv : ∀ {e2 : Env} {F2 Z2 S2 : Sa} {H2 : Hp}, Aft B.G (r :: lc) (fun y => Y y ∨ Sr y) env1 σ (fun y => F1 y ∧ ¬ Sr y) Z1 H1 e2 σ F2 Z2 H2 S2 → Aft B.G lc Y env1 σ F1 Z1 H1 e2 σ (fun y => F2 y ∨ Sr y) Z2 H2 S2 := by
            intro e2 F2 Z2 S2 H2 b
            have hF2 : ∀ y, F2 y → (F1 y ∧ ¬ Sr y) ∨ H1 y = none := fun y z => b.p.grow y (.inl z)
            refine ⟨back (Fb := fun y => F1 y ∧ ¬ Sr y) b.r b.p.keep b.p.zin (fun y z => a.r.fm y z.1) (fun y z => ⟨fun w => (a.r.yf y w).1 z.1, z.2, fun w => (a.r.zf y w).1 z.1⟩) b.lk (fun _ _ => rfl), b.sm, fun y z => ⟨fun w => ?_, (b.sd y z).2.1, fun w => (b.sd y z).2.2 (.inl w)⟩, ?_, ⟨b.lk.1, fun i hi => b.lk.2 i (List.mem_cons_of_mem _ hi)⟩⟩
            · rcases w with w | w
              · exact (b.sd y z).1 w
              · exact (b.sd y z).2.2 (.inr w)
            · refine b.p.sub (fun y z => z.1) fun y z => ?_
              rcases z with (z | z) | z
              · exact .inl (.inl z)
              · exact .inr (.inl (hSr y z))
              · exact .inl (.inr z)
          have hb := h
          cases eo : ev (B.k (r :: lc) pn) env1 with
          | stuck => rw [eo] at hb; exact hb
          | ok x2 e2 =>
            rw [eo] at hb
            intro w H2 F2 Z2 S2 b q2
            refine k x2 e2 w H2 _ Z2 S2 (conv b) ⟨q.1, u0, eu0, ?_⟩ q2 hb
            refine navV_stab (j :: p) rp e1 nv b.p.keep fun y z w => ?_
            rcases hx y z with z | z
            · exact (a.r.yf y z).1 w.1
            · exact w.2 z
          | err c xs e2 =>
            rw [eo] at hb
            intro cls d H2 F2 Z2 b q2
            exact hb cls d H2 _ Z2 ((a.step (conv b)).1.less fun _ z => z.elim) q2
  · have hp' : ∀ r j p, rv ≠ .plc r (j :: p) := fun r j p e => hp ⟨r, j, p, e⟩
    have hk : ((B.k lc pn).withP env1 rv fun K => ev K env1) = ev (B.k lc pn) env1 := by
      cases rv with
      | tmp t => rfl
      | plc r p => cases p with
        | nil => rfl
        | cons j p => exact absurd rfl (hp' r j p)
    rw [hk] at h
    refine ⟨lc, pn, Y, env1, F1, Z1, a.r, ?_⟩
    cases eo : ev (B.k lc pn) env1 with
    | stuck => rw [eo] at h; exact h
    | ok x2 e2 =>
      rw [eo] at h
      intro w H2 F2 Z2 S2 b q2
      exact k x2 e2 w H2 F2 Z2 S2 b (rv_stay a q b hp') q2 h
    | err c xs e2 =>
      rw [eo] at h
      intro cls d H2 F2 Z2 b q2
      exact h cls d H2 F2 Z2 ((a.step b).1.less fun _ z => z.elim) q2
end
end TI
end
section
set_option maxHeartbeats 400000
/-! TS4: contexts; rules of expressions. -/
namespace TI
open PySem L2
structure Ct (B : Bs) (X : Cx) (sc : List (Str × NameKind)) (n : Nat) : Prop where
  G : B.G.K = X.K
  nd : X.N.Nodup
  calm : X.calm = true
  room : Room n X.A
  tk : Takes X B.W
  vis : ∀ x, (sc.lookup x = some .local ∨ sc.lookup x = some .cell ∨ sc.lookup x = some .free) → Vis X.env.scope x
  loc : ∀ x, sc.lookup x = some .local → X.env.scope.names.lookup x = some .local
  cel : ∀ x, sc.lookup x = some .cell → X.env.scope.names.lookup x = some .cell ∧ X.fn x = true
  glo : ∀ x, sc.lookup x = some .globalImplicit → Gl X x
/-- a result: laid anew, or what was there -/
structure Res (G : Gd) (Z : Sa) (H : Hp) (z : T) (v : V) (H' : Hp) (S : Sa) : Prop where
  keep : ∀ a o, H a = some o → H' a = some o
  fresh : ∀ a, S a → H a = none
  sm : ∀ a, S a → ∃ o, H' a = some o ∧ MutO o
  rep : Rep G Z H' z v S
section
variable {B : Bs} {X : Cx} {sc : List (Str × NameKind)} {n : Nat} {lc pn : List Nat} {Y : Sa} {env env1 env2 : Env} {σ : St} {H H1 H2 H' : Hp} {F F1 F2 Z Z1 Z2 S S1 S2 : Sa} {α β γ δ : Type}
theorem Res.al {G : Gd} {z : T} {v : V} (h : Res G Z H z v H' S) : ∀ a, H' a = none → H a = none := fun a e => by
  cases q : H a with
  | none => rfl
  | some o => rw [h.keep a o q] at e; cases e
theorem Post.ext {G : Gd} {z : T} {v : V} (h : Res G Z H z v H' S) : Post none_ Z H none_ Z H' := ⟨fun a o e _ => h.keep a o e, h.al, fun _ z => z.elim, fun _ z => z, fun _ z => .inl z⟩
theorem R.ext {G : Gd} {z : T} {v : V} (r : R G lc Y env σ H F Z) (h : Res G Z H z v H' S) : R G lc Y env σ H' F Z :=
  r.frame (Post.ext h) (fun _ z => z.elim) (fun _ _ z => z.elim) (fun _ _ z => z.elim) (fun _ _ z => z.elim) fun a z e => (r.zf a z).2 (h.al a e)
theorem Aft.res {G : Gd} {z : T} {v : V} {σ' : St} (a : Aft G lc Y env σ F Z H env1 σ' F1 Z1 H1 S1) (h : Res G Z1 H1 z v H' S) : Aft G lc Y env σ F Z H env1 σ' F1 Z1 H' S := by
  refine ⟨a.r.ext h, h.sm, fun x z => ⟨fun y => a.r.ne x y (h.fresh x z), fun y => (a.r.zf x y).2 (h.fresh x z), fun y => (a.r.yf x y).2.2 (h.fresh x z)⟩, ?_, a.lk⟩
  refine ⟨fun x o e hf => h.keep x o (a.p.keep x o e hf), fun x e => a.p.al x (h.al x e), fun x z => ?_, a.p.zin, a.p.zup⟩
  rcases z with z | z
  · exact a.p.grow x (.inl z)
  · exact .inr (a.p.al x (h.fresh x z))
/-- of a scalar, or of what owns nothing -/
theorem Res.same {G : Gd} {z : T} {v : V} (h : Rep G Z H z v none_) : Res G Z H z v H none_ := ⟨fun _ _ e => e, fun _ z => z.elim, fun _ z => z.elim, h⟩
theorem keep_new {p : Addr} {o : HO} (h : H p = none) : ∀ a u, H a = some u → L2.upd H p o a = some u := fun a u e => by rw [upd_ne (ne_of_none e h)]; exact e
/-- of nothing but new objects: what was there is still what it was -/
theorem Rep.grow {G : Gd} {t : T} {v : V} (h : Rep G Z H t v S) (k : ∀ a u, H a = some u → H' a = some u) : Rep G Z H' t v S :=
  h.stab t (F := none_) (fun a o e _ => k a o e) (fun _ z => z.elim) (fun _ _ z => z) (fun _ _ z => z) fun _ z => z
theorem RepL.grow {G : Gd} {t : List T} {v : List V} (h : RepL G Z H t v S) (k : ∀ a u, H a = some u → H' a = some u) : RepL G Z H' t v S :=
  RepL.stab t h (F := none_) (fun a o e _ => k a o e) (fun _ z => z.elim) (fun _ _ z => z) (fun _ _ z => z) fun _ z => z
theorem Res.newL {G : Gd} {p : Addr} {xs : List T} {vs : List V} (hp : H p = none) (h : RepL G Z H xs vs none_) : Res G Z H (.lst true xs) (.ref p) (L2.upd H p (.lst vs)) (fun a => a = p) := by
  refine ⟨keep_new hp, fun a z => z ▸ hp, fun a z => ⟨.lst vs, by subst z; exact upd_same, trivial⟩, p, vs, none_, rfl, upd_same, trivial, h.grow (keep_new hp), ?_⟩
  unfold ndF
  rw [if_neg (fun q => nomatch q), if_pos rfl]
  exact ⟨rfl, fun z => z, fun _ z => z.elim⟩
theorem Rep.newT {G : Gd} {p : Addr} {f : Bool} {xs : List T} {vs : List V} (hp : H p = none) (h : RepL G Z H xs vs S) : Rep G Z (L2.upd H p (.tup vs)) (.nd .tup f xs) (.ref p) S := by
  refine ⟨p, vs, S, rfl, SqT.of upd_same, trivial, h.grow (keep_new hp), ?_⟩
  unfold ndF
  rw [if_pos imm_t]
  exact fun _ z => z
theorem Res.newT {G : Gd} {p : Addr} {f : Bool} {xs : List T} {vs : List V} (hp : H p = none) (h : RepL G Z H xs vs none_) : Res G Z H (.nd .tup f xs) (.ref p) (L2.upd H p (.tup vs)) none_ :=
  ⟨keep_new hp, fun _ z => z.elim, fun _ z => z.elim, Rep.newT hp h⟩
/-! ### names, constants -/
theorem s_var {i : Nat} {x : Str} {pos : Pos} (hN : X.N[i]? = some x) (hv : Vis X.env.scope x) (hd : (x == ("__debug__" : Str)) = false) (hcd : (x == ("__classdict__" : Str)) = false) : PE X (.Name x pos) (tR B (.var i)) := by
  refine (pe_var hN hv hd hcd).tim fun σ H Q ⟨lc, pn, Y, env, F, Z, r, h⟩ => ?_
  have h1 : OQ B lc Y env σ F Z H (VR1 B.G σ) (match env[i]? with | some (some t) => if t.free = true then Out.ok (RV.tmp t) env else Out.ok (RV.plc i []) env | _ => Out.stuck) Q := h
  cases e : env[i]? with
  | none => rw [e] at h1; exact h1.elim
  | some o =>
    cases o with
    | none => rw [e] at h1; exact h1.elim
    | some t =>
      rw [e] at h1
      obtain ⟨S, s1, s2, s3, s4⟩ := r.sl
      obtain ⟨v, ev, q⟩ := s4 i t e
      refine ⟨v, ev, ?_⟩
      by_cases f : t.free = true
      · have h2 : OQ B lc Y env σ F Z H (VR1 B.G σ) (Out.ok (RV.tmp t) env) Q := by rw [← if_pos (c := t.free = true) f (t := Out.ok (RV.tmp t) env) (e := Out.ok (RV.plc i []) env)]; exact h1
        exact h2 v H F Z none_ (Aft.refl r) (q.bare t f)
      · have h2 : OQ B lc Y env σ F Z H (VR1 B.G σ) (Out.ok (RV.plc i []) env) Q := by rw [← if_neg (c := t.free = true) f (t := Out.ok (RV.tmp t) env) (e := Out.ok (RV.plc i []) env)]; exact h1
        exact h2 v H F Z none_ (Aft.refl r) ⟨fun _ z => z, v, ev, rfl⟩
theorem s_int {i : Int} {k : Nat} {pos : Pos} : PE X (.Constant (.int i) k pos) (tR B (.int i)) := pe_int.tim fun σ H Q ⟨lc, pn, Y, env, F, Z, r, h⟩ => h (.int i) H F Z none_ (Aft.refl r) rfl
theorem s_bl {i : Bool} {k : Nat} {pos : Pos} : PE X (.Constant (.bool i) k pos) (tR B (.bl i)) := pe_bl.tim fun σ H Q ⟨lc, pn, Y, env, F, Z, r, h⟩ => h (.bl i) H F Z none_ (Aft.refl r) rfl
theorem s_str {i : Str} {k : Nat} {pos : Pos} : PE X (.Constant (.str i) k pos) (tR B (.str i)) := pe_str.tim fun σ H Q ⟨lc, pn, Y, env, F, Z, r, h⟩ => h (.str i) H F Z none_ (Aft.refl r) rfl
theorem s_non {k : Nat} {pos : Pos} : PE X (.Constant .none k pos) (tR B .non) := pe_non.tim fun σ H Q ⟨lc, pn, Y, env, F, Z, r, h⟩ => h .non H F Z none_ (Aft.refl r) rfl
theorem key_rep {G : Gd} (k : Key) : Rep G Z H (Key.t k) (kV k) none_ := by cases k <;> rfl
theorem s_glb {x : Str} {k : Key} {u : Value} {pos : Pos} (hg : Gl X x) (hm : X.mg x = some u) (r : RelV (kV k) u) (hd : (x == ("__debug__" : Str)) = false) : PE X (.Name x pos) (tR B (.glb x k)) :=
  (pe_glob hg hm r hd).tim fun σ H Q ⟨lc, pn, Y, env, F, Z, r, h⟩ => h (kV k) H F Z none_ (Aft.refl r) (key_rep k)
/-! ### several -/
theorem s_nilL : PA X [] (tL B .nil) := pa_nil.tim fun σ H Q ⟨lc, pn, Y, env, F, Z, r, h⟩ => h [] H F Z none_ (Aft.refl r) rfl
theorem s_nilV : PA X [] (tV B .nil) := pa_nil.tim fun σ H Q ⟨lc, pn, Y, env, F, Z, r, h⟩ => h [] H F Z none_ (Aft.refl r) rfl
theorem s_consL {e : Expr} {es : List Expr} {a c : C} (ha : PE X e (tR B a)) (hr : PA X es (tL B c)) (hs : starEach (e :: es) X.env = (false, eval e X.env) :: starEach es X.env) : PA X (e :: es) (tL B (.cons a c)) := by
  refine (pa_cons ha hr hs).tim fun σ H Q ⟨lc, pn, Y, env, F, Z, r, h⟩ => ⟨lc, pn, Y, env, F, Z, r, ?_⟩
  have h1 : OQ B lc Y env σ F Z H (VRl B.G σ) ((evR (B.k lc pn) a env).bind fun x e => ((B.k lc pn).withP e x fun K => evL K c e).bind fun xs e => .ok (x :: xs) e) Q := h
  refine OQ.bind h1 fun rv e1 v H1 F1 Z1 S1 _ a1 q1 h2 => ?_
  refine second a1 q1 h2 fun xs e2 ws H2 F2 Z2 S2 b q1' q2 h3 => ?_
  obtain ⟨ab, d⟩ := a1.step b
  exact h3 (v :: ws) H2 F2 Z2 _ ab ⟨v, ws, S1, S2, rfl, q1', q2, d, fun _ z => .inl z, fun _ z => .inr z⟩
/-! ### what is kept -/
theorem Rep.whole_frz {G : Gd} {t : T} {v : V} (h : Rep G Z H t v S) (w : t.whole = true) (hz : ∀ a, S a → Z a) : Rep G Z H t.frz v none_ := h.frz t w (fun _ z => z) hz
/-- a value is kept: a place's is shared from now on -/
theorem val_ok {VR : α → β → Sa → Sa → Hp → Prop} {rv : RV} {v : V} {f : T → Env → Out α} {Q : β → Hp → Prop} {Q2 : Prop} (a : Aft B.G lc Y env σ F Z H env1 σ F1 Z1 H1 S1) (q : RepRV B.G σ Z1 H1 rv v S1)
    (h : OQ B lc Y env σ F Z H VR ((valR (B.k lc pn) rv env1).bind f) Q)
    (k : ∀ (t : T) (e2 : Env) (F2 Z2 S2 : Sa), Aft B.G lc Y env σ F Z H e2 σ F2 Z2 H1 S2 → Rep B.G Z2 H1 t v S2 → OQ B lc Y env σ F Z H VR (f t e2) Q → Q2) : Q2 := by
  cases rv with
  | tmp t => exact k t env1 F1 Z1 S1 a q h
  | plc i p =>
    have h1 : OQ B lc Y env σ F Z H VR ((match env1[i]? with
      | some (some t) => (match t.get p with
        | some x => if ((B.k lc pn).open_ i && x.whole) = true then Out.ok x.frz (env1.set i (some (T.set x.frz t p))) else Out.stuck
        | none => Out.stuck)
      | _ => Out.stuck).bind f) Q := h
    cases e : env1[i]? with
    | none => rw [e] at h1; exact h1.elim
    | some o =>
      cases o with
      | none => rw [e] at h1; exact h1.elim
      | some t =>
        rw [e] at h1
        dsimp only at h1
        cases ex : t.get p with
        | none => rw [ex] at h1; exact h1.elim
        | some x =>
          rw [ex] at h1
          dsimp only at h1
          by_cases hc : ((B.k lc pn).open_ i && x.whole) = true
          · rw [if_pos hc] at h1
            rw [Bool.and_eq_true] at hc
            have hi : i ∉ lc := by
              have := hc.1
              simp [Ek.open_] at this
              exact this
            obtain ⟨u, Sr, eu, rp, hSr, r0⟩ := a.r.open_ hi e
            obtain ⟨nS, u', eu', nv⟩ := q
            rw [eu] at eu'; cases eu'
            obtain ⟨w, Sx, S3, nw, rx, b1, b2, b3, put⟩ := placeL p rp ex
            cases nv.inj nw
            -- what is shared goes over to Z
            have hlen : i < env1.length := (List.getElem?_eq_some_iff.mp e).1
            have fr : Rep B.G (fun y => Z1 y ∨ Sx y) H1 x.frz v none_ := rx.frz x hc.2 (fun _ z => .inl z) fun _ z => .inr z
            have rt := put (H' := H1) (Z' := fun y => Z1 y ∨ Sx y) (Fc := none_) (x' := x.frz) (Sx' := none_) (fun _ _ e _ => e) (fun _ z => z.elim) (fun _ _ z => z) (fun _ _ z => z) (fun _ z => .inl z) fr (fun _ _ z => z)
            have pst : Post Sr Z1 H1 S3 (fun y => Z1 y ∨ Sx y) H1 := ⟨fun _ _ e _ => e, fun _ e => e, fun y z => .inl (b2 y z), fun _ z => .inl z, fun y z => z.elim .inl fun z => .inr (.inl (b1 y z))⟩
            have fmr : ∀ y, Sr y → ∃ o, H1 y = some o ∧ MutO o := fun y z => a.r.fm y (hSr y z)
            have r1 := r0.frame pst fmr (fun y z => z.2) (fun y z w => (a.r.yf y z).1 (hSr y w)) (fun y z w => (a.r.zf y z).1 (hSr y w)) fun y z => by
              rcases z with z | z
              · exact (a.r.zf y z).2
              · exact a.r.ne y (hSr y (b1 y z))
            have r2 := r1.bind (r := i) (σ' := σ) hi (by rw [List.length_set]; exact hlen) rt (fun y z => fmr y (z.elim (b2 y) False.elim)) (fun y z w => w.2 (z.elim (b2 y) False.elim)) (fun y z w => (a.r.yf y w).1 (hSr y (z.elim (b2 y) False.elim)))
              (fun y z w => z.elim (fun z => w.elim (fun w => (a.r.zf y w).1 (hSr y (b2 y z))) fun w => b3 y z w) False.elim) rfl (fun _ _ => rfl) eu
            rw [List.set_set] at r2
            refine k x.frz _ _ _ none_ ⟨r2, fun _ z => z.elim, fun _ z => z.elim, ?_, ⟨by rw [List.length_set]; exact a.lk.1, fun j hj => ?_⟩⟩ fr h1
            · have p0 := a.p
              refine ⟨p0.keep, p0.al, fun y z => ?_, fun y z => .inl (p0.zin y z), fun y z => ?_⟩
              · rcases z with (z | z) | z
                · exact p0.grow y (.inl z.1)
                · exact p0.grow y (.inl (hSr y (z.elim (b2 y) False.elim)))
                · exact z.elim
              · rcases z with z | z
                · exact p0.zup y z
                · exact .inr (p0.grow y (.inl (hSr y (b1 y z))))
            · rw [List.getElem?_set_ne (fun w => hi (by rw [w]; exact hj))]
              exact a.lk.2 j hj
          · rw [if_neg hc] at h1; exact h1.elim
theorem s_consV {e : Expr} {es : List Expr} {a c : C} (ha : PE X e (tR B a)) (hr : PA X es (tV B c)) (hs : starEach (e :: es) X.env = (false, eval e X.env) :: starEach es X.env) : PA X (e :: es) (tV B (.cons a c)) := by
  refine (pa_cons ha hr hs).tim fun σ H Q ⟨lc, pn, Y, env, F, Z, r, h⟩ => ⟨lc, pn, Y, env, F, Z, r, ?_⟩
  have h1 : OQ B lc Y env σ F Z H (VRv B.G) ((evR (B.k lc pn) a env).bind fun x e => (valR (B.k lc pn) x e).bind fun v e => (evV (B.k lc pn) c e).bind fun vs e => .ok (v :: vs) e) Q := h
  refine OQ.bind h1 fun rv e1 v H1 F1 Z1 S1 _ a1 q1 h2 => ?_
  refine val_ok a1 q1 h2 fun t e2 F2 Z2 S2 a2 q2 h3 => ?_
  refine second (rv := .tmp t) a2 q2 h3 fun xs e3 ws H3 F3 Z3 S3 b q2' q3 h4 => ?_
  obtain ⟨ab, d⟩ := a2.step b
  exact h4 (v :: ws) H3 F3 Z3 _ ab ⟨v, ws, S2, S3, rfl, q2', q3, d, fun _ z => .inl z, fun _ z => .inr z⟩
theorem lim_line {m : Nat} (h : m ≤ lim) : m ≤ sizeLine := Nat.le_trans h (by decide)
/-! ### displays -/
theorem s_tup {es : List Expr} {c : C} {k : Nat} {pos : Pos} (h : PA X es (tV B c)) : PE X (.Tuple es k pos) (tR B (.tup c)) := by
  refine (pe_tup h).tim fun σ H Q ⟨lc, pn, Y, env, F, Z, r, h⟩ => ⟨lc, pn, Y, env, F, Z, r, ?_⟩
  have h1 : OQ B lc Y env σ F Z H (VR1 B.G σ) ((evV (B.k lc pn) c env).bind fun xs e => if xs.length ≤ lim then Out.ok (.tmp (.nd .tup (!T.freeL xs) xs)) e else .stuck) Q := h
  refine OQ.bind h1 fun xs e1 vs H1 F1 Z1 S1 _ a1 q1 h2 => ?_
  by_cases hc : xs.length ≤ lim
  · rw [if_pos hc] at h2
    refine ⟨by rw [RepL.len xs q1]; exact lim_line hc, fun p hp => ?_⟩
    have rs : Res B.G Z1 H1 .non .non (L2.upd H1 p (.tup vs)) none_ := ⟨keep_new hp, fun _ z => z.elim, fun _ z => z.elim, rfl⟩
    have a2 := a1.res rs
    have hne := a1.ne
    refine h2 (.ref p) _ F1 Z1 S1 ⟨a2.r, fun y z => ?_, a1.sd, ⟨a2.p.keep, a2.p.al, fun y z => a1.p.grow y z, a2.p.zin, a2.p.zup⟩, a1.lk⟩ (Rep.newT hp q1)
    obtain ⟨o, e, m⟩ := a1.sm y z
    exact ⟨o, keep_new hp y o e, m⟩
  · rw [if_neg hc] at h2; exact h2.elim
theorem s_lst {es : List Expr} {c : C} {pos : Pos} (h : PA X es (tV B c)) : PE X (.List es pos) (tR B (.lst c)) := by
  refine (pe_lst h).tim fun σ H Q ⟨lc, pn, Y, env, F, Z, r, h⟩ => ⟨lc, pn, Y, env, F, Z, r, ?_⟩
  have h1 : OQ B lc Y env σ F Z H (VR1 B.G σ) ((evV (B.k lc pn) c env).bind fun xs e => if xs.length ≤ lim ∧ T.wholeL xs = true then Out.ok (.tmp (.lst true (T.frzL xs))) e else .stuck) Q := h
  refine OQ.bind h1 fun xs e1 vs H1 F1 Z1 S1 _ a1 q1 h2 => ?_
  by_cases hc : xs.length ≤ lim ∧ T.wholeL xs = true
  · rw [if_pos hc] at h2
    refine ⟨by rw [RepL.len xs q1]; exact lim_line hc.1, fun p hp => ?_⟩
    have hne := a1.ne
    -- what the items owned is shared from now on
    have fr : RepL B.G (fun y => Z1 y ∨ S1 y) H1 (T.frzL xs) vs none_ := q1.frz xs hc.2 (fun _ z => .inl z) fun _ z => .inr z
    have r1 : R B.G lc Y e1 σ H1 F1 (fun y => Z1 y ∨ S1 y) := by
      refine a1.r.frame (Fc := S1) (Fc' := none_) ⟨fun _ _ e _ => e, fun _ e => e, fun _ z => z.elim, fun _ z => .inl z, fun y z => z.elim .inl fun z => .inr (.inl z)⟩ a1.sm (fun y z w => (a1.sd y w).1 z) (fun y z w => (a1.sd y w).2.2 z) (fun y z w => (a1.sd y w).2.1 z) fun y z => ?_
      rcases z with z | z
      · exact (a1.r.zf y z).2
      · exact hne y z
    have rs : Res B.G (fun y => Z1 y ∨ S1 y) H1 (.lst true (T.frzL xs)) (.ref p) (L2.upd H1 p (.lst vs)) (fun y => y = p) := Res.newL hp fr
    have a1' : Aft B.G lc Y env σ F Z H e1 σ F1 (fun y => Z1 y ∨ S1 y) H1 none_ := by
      refine ⟨r1, fun _ z => z.elim, fun _ z => z.elim, ⟨a1.p.keep, a1.p.al, fun y z => a1.p.grow y (z.elim .inl False.elim), fun y z => .inl (a1.p.zin y z), fun y z => ?_⟩, a1.lk⟩
      rcases z with z | z
      · exact a1.p.zup y z
      · exact .inr (a1.p.grow y (.inr z))
    exact h2 (.ref p) _ F1 _ _ (a1'.res rs) rs.rep
  · rw [if_neg hc] at h2; exact h2.elim
end
end TI
end
section
set_option maxHeartbeats 400000
/-! TS5: == of trees, operators. -/
namespace TI
open PySem L2
section
variable {G : Gd} {X : Cx} {pins : List (Addr × Obj)} {σ : St} {H : Hp} {s : Shared} {Z S S' : Sa}
theorem Rep.tupD {f : Bool} {xs : List T} {v : V} (h : Rep G Z H (.nd .tup f xs) v S) : ∃ a vs S0, v = .ref a ∧ SqT G.K H a vs ∧ RepL G Z H xs vs S0 := by
  obtain ⟨a, vs, S0, e, n, _, l, _⟩ := h
  exact ⟨a, vs, S0, e, n, l⟩
theorem Rep.lstD {f : Bool} {xs : List T} {v : V} (h : Rep G Z H (.nd .lst f xs) v S) : ∃ a vs S0, v = .ref a ∧ H a = some (.lst vs) ∧ RepL G Z H xs vs S0 := by
  obtain ⟨a, vs, S0, e, n, _, l, _⟩ := h
  exact ⟨a, vs, S0, e, n, l⟩
theorem eqvL_self {f : T → T → Option Bool} (hf : ∀ (x y : T) (v : V) (S S' : Sa) (b : Bool), Rep G Z H x v S → Rep G Z H y v S' → f x y = some b → b = true) :
    ∀ (xs ys : List T) {vs : List V} {S S' : Sa} {b : Bool}, RepL G Z H xs vs S → RepL G Z H ys vs S' → eqvL f xs ys = some b → b = true
  | [], [], _, _, _, _, _, _, e => by cases e; rfl
  | [], _ :: _, vs, _, _, _, h, h', _ => by
    obtain ⟨v, r, S1, S2, e1, _⟩ := h'
    have e2 : vs = [] := h
    rw [e1] at e2; cases e2
  | _ :: _, [], vs, _, _, _, h, h', _ => by
    obtain ⟨v, r, S1, S2, e1, _⟩ := h
    have e2 : vs = [] := h'
    rw [e1] at e2; cases e2
  | x :: xs, y :: ys, vs, _, _, b, h, h', e => by
    obtain ⟨v, r, S1, S2, e1, q1, q2, _⟩ := h
    obtain ⟨v', r', S1', S2', e1', q1', q2', _⟩ := h'
    rw [e1] at e1'; cases e1'
    have e0 : (match f x y, eqvL f xs ys with | some a, some b => some (a && b) | _, _ => none) = some b := e
    cases ef : f x y with
    | none => rw [ef] at e0; cases e0
    | some c =>
      cases er : eqvL f xs ys with
      | none => rw [ef, er] at e0; cases e0
      | some d =>
        rw [ef, er] at e0
        cases e0
        rw [hf x y v _ _ c q1 q1' ef, eqvL_self hf xs ys q2 q2' er]
        rfl
/-- the sorts of data -/
def scT : T → Option V
  | .non => some .non
  | .bl b => some (.bl b)
  | .int i => some (.int i)
  | .str x => some (.str x)
  | _ => none
theorem Rep.sc {t : T} {v x : V} (h : Rep G Z H t v S) (e : scT t = some x) : v = x := by
  cases t <;> first | (cases e; done) | (cases e; exact h)
theorem sc_flat {t : T} {x : V} (e : scT t = some x) : flatV x = true := by
  cases t <;> first | (cases e; done) | (cases e; rfl)
inductive Sort3 : T → Prop
  | sc {t : T} (x : V) (e : scT t = some x) : Sort3 t
  | tup (f : Bool) (xs : List T) : Sort3 (.nd .tup f xs)
  | lst (f : Bool) (xs : List T) : Sort3 (.nd .lst f xs)
theorem sort_l {n : Nat} {t u : T} {b : Bool} (e : eqvN n t u = some b) : Sort3 t := by
  cases t with
  | hole => cases n <;> cases u <;> cases e
  | non => exact .sc .non rfl
  | bl b => exact .sc (.bl b) rfl
  | int i => exact .sc (.int i) rfl
  | str x => exact .sc (.str x) rfl
  | nd k f xs =>
    cases k with
    | tup => exact .tup f xs
    | lst => exact .lst f xs
    | scr => cases n <;> cases u <;> cases e
    | dct ks => cases n <;> cases u <;> cases e
    | ins c ns => cases n <;> cases u <;> cases e
    | exn c ns => cases n <;> cases u <;> cases e
theorem sort_r {n : Nat} {t u : T} {b : Bool} (e : eqvN n t u = some b) : Sort3 u := by
  cases sort_l e with
  | sc x ex =>
    cases u with
    | hole => cases n <;> cases t <;> first | (cases e; done) | cases ex
    | non => exact .sc .non rfl
    | bl b => exact .sc (.bl b) rfl
    | int i => exact .sc (.int i) rfl
    | str x => exact .sc (.str x) rfl
    | nd k f xs =>
      cases k with
      | tup => exact .tup f xs
      | lst => exact .lst f xs
      | scr => cases n <;> cases t <;> first | (cases e; done) | cases ex
      | dct ks => cases n <;> cases t <;> first | (cases e; done) | cases ex
      | ins c ns => cases n <;> cases t <;> first | (cases e; done) | cases ex
      | exn c ns => cases n <;> cases t <;> first | (cases e; done) | cases ex
  | tup f0 xs0 =>
    cases u with
    | hole => cases n <;> cases e
    | non => exact .sc .non rfl
    | bl b => exact .sc (.bl b) rfl
    | int i => exact .sc (.int i) rfl
    | str x => exact .sc (.str x) rfl
    | nd k f xs =>
      cases k with
      | tup => exact .tup f xs
      | lst => exact .lst f xs
      | scr => cases n <;> cases e
      | dct ks => cases n <;> cases e
      | ins c ns => cases n <;> cases e
      | exn c ns => cases n <;> cases e
  | lst f0 xs0 =>
    cases u with
    | hole => cases n <;> cases e
    | non => exact .sc .non rfl
    | bl b => exact .sc (.bl b) rfl
    | int i => exact .sc (.int i) rfl
    | str x => exact .sc (.str x) rfl
    | nd k f xs =>
      cases k with
      | tup => exact .tup f xs
      | lst => exact .lst f xs
      | scr => cases n <;> cases e
      | dct ks => cases n <;> cases e
      | ins c ns => cases n <;> cases e
      | exn c ns => cases n <;> cases e
theorem eqvN_sc {n : Nat} {t u : T} {x y : V} (e : scT t = some x) (e' : scT u = some y) : eqvN n t u = some (eqV x y) := by
  cases t <;> first | (cases e; done) | (cases u <;> first | (cases e'; done) | (cases e; cases e'; cases n <;> first | rfl | (simp only [eqvN, eqV, Bool.beq_eq_decide_eq])))
theorem eqvN_sct {n : Nat} {t : T} {x : V} {f : Bool} {xs : List T} (e : scT t = some x) : eqvN n t (.nd .tup f xs) = some false := by cases t <;> first | (cases e; done) | (cases n <;> rfl)
theorem eqvN_scl {n : Nat} {t : T} {x : V} {f : Bool} {xs : List T} (e : scT t = some x) : eqvN n t (.nd .lst f xs) = some false := by cases t <;> first | (cases e; done) | (cases n <;> rfl)
theorem eqvN_tsc {n : Nat} {t : T} {x : V} {f : Bool} {xs : List T} (e : scT t = some x) : eqvN n (.nd .tup f xs) t = some false := by cases t <;> first | (cases e; done) | (cases n <;> rfl)
theorem eqvN_lsc {n : Nat} {t : T} {x : V} {f : Bool} {xs : List T} (e : scT t = some x) : eqvN n (.nd .lst f xs) t = some false := by cases t <;> first | (cases e; done) | (cases n <;> rfl)
theorem eqvN_tl {n : Nat} {f f' : Bool} {xs ys : List T} : eqvN n (.nd .tup f xs) (.nd .lst f' ys) = some false := by cases n <;> rfl
theorem eqvN_lt {n : Nat} {f f' : Bool} {xs ys : List T} : eqvN n (.nd .lst f xs) (.nd .tup f' ys) = some false := by cases n <;> rfl
theorem eqV_self {x : V} (f : flatV x = true) : eqV x x = true := by cases x <;> first | (cases f; done) | simp [eqV]
theorem flat_ref {a : Addr} (f : flatV (.ref a) = true) : False := by cases f
theorem tup_lst (I : Inv X pins σ H s) (hG : G.K = X.K) {a : Addr} {vs ws : List V} (h : SqT G.K H a vs) (h' : H a = some (.lst ws)) : False := by
  rcases h with (h1 | ⟨o, h1⟩) | ⟨o, its, m, h1, hc, _⟩
  · rw [h1] at h'; cases h'
  · rw [h1] at h'; cases h'
  · have k1 := I.kIn _ _ (by rw [← hG]; exact h1)
    obtain ⟨its', m', _, k2, _⟩ := I.lst h'
    rw [k1] at k2; cases k2
    injection hc with q
    exact absurd q (by decide)
/-- two trees that stand for one value are equal -/
theorem eqvN_self (I : Inv X pins σ H s) (hG : G.K = X.K) : ∀ (n : Nat) (t u : T) (v : V) (S S' : Sa) (b : Bool), Rep G Z H t v S → Rep G Z H u v S' → eqvN n t u = some b → b = true := by
  have core : ∀ (n : Nat) (t u : T) (v : V) (S S' : Sa) (b : Bool), (∀ (t u : T) (v : V) (S S' : Sa) (b : Bool), Rep G Z H t v S → Rep G Z H u v S' → eqvN (n - 1) t u = some b → b = true) → Rep G Z H t v S → Rep G Z H u v S' → eqvN n t u = some b → b = true := by
    intro n t u v S S' b ih h h' e
    cases sort_l e with
    | sc x ex =>
      have e1 := h.sc ex
      cases sort_r e with
      | sc y ey =>
        have e2 := h'.sc ey
        rw [eqvN_sc ex ey, ← e1, ← e2] at e
        cases e
        exact eqV_self (by rw [e1]; exact sc_flat ex)
      | tup f xs => obtain ⟨a, _, _, e2, _⟩ := h'.tupD; rw [e1] at e2; rw [e2] at ex; exact (flat_ref (sc_flat ex)).elim
      | lst f xs => obtain ⟨a, _, _, e2, _⟩ := h'.lstD; rw [e1] at e2; rw [e2] at ex; exact (flat_ref (sc_flat ex)).elim
    | tup f xs =>
      obtain ⟨a, vs, S0, e1, h1, l1⟩ := h.tupD
      cases sort_r e with
      | sc y ey => have e2 := h'.sc ey; rw [e1] at e2; rw [← e2] at ey; exact (flat_ref (sc_flat ey)).elim
      | tup f' ys =>
        obtain ⟨a', vs', S0', e1', h1', l1'⟩ := h'.tupD
        rw [e1] at e1'; cases e1'
        have ev := I.tuple_inj (hG ▸ h1) (hG ▸ h1')
        subst ev
        cases n with
        | zero => cases e
        | succ n => exact eqvL_self ih xs ys l1 l1' e
      | lst f' ys =>
        obtain ⟨a', vs', S0', e1', h1', l1'⟩ := h'.lstD
        rw [e1] at e1'; cases e1'
        exact (tup_lst I hG h1 h1').elim
    | lst f xs =>
      obtain ⟨a, vs, S0, e1, h1, l1⟩ := h.lstD
      cases sort_r e with
      | sc y ey => have e2 := h'.sc ey; rw [e1] at e2; rw [← e2] at ey; exact (flat_ref (sc_flat ey)).elim
      | tup f' ys =>
        obtain ⟨a', vs', S0', e1', h1', l1'⟩ := h'.tupD
        rw [e1] at e1'; cases e1'
        exact (tup_lst I hG h1' h1).elim
      | lst f' ys =>
        obtain ⟨a', vs', S0', e1', h1', l1'⟩ := h'.lstD
        rw [e1] at e1'; cases e1'
        rw [h1] at h1'; cases h1'
        cases n with
        | zero => cases e
        | succ n =>
          have e0 : (if xs.length = ys.length then eqvL (eqvN n) xs ys else some false) = some b := e
          rw [if_pos (by rw [← RepL.len xs l1, RepL.len ys l1'])] at e0
          exact eqvL_self ih xs ys l1 l1' e0
  intro n
  induction n with
  | zero => exact fun t u v S S' b h h' e => core 0 t u v S S' b (fun t u v S S' b h h' e => by
      cases sort_l e with
      | sc x ex => cases sort_r e with
        | sc y ey =>
          have e1 := h.sc ex; have e2 := h'.sc ey
          have e0 : eqvN 0 t u = some b := e
          rw [eqvN_sc ex ey, ← e1, ← e2] at e0
          cases e0
          exact eqV_self (by rw [e1]; exact sc_flat ex)
        | tup f xs => obtain ⟨a, _, _, e2, _⟩ := h'.tupD; have e1 := h.sc ex; rw [e1] at e2; rw [e2] at ex; exact (flat_ref (sc_flat ex)).elim
        | lst f xs => obtain ⟨a, _, _, e2, _⟩ := h'.lstD; have e1 := h.sc ex; rw [e1] at e2; rw [e2] at ex; exact (flat_ref (sc_flat ex)).elim
      | tup f xs => cases sort_r e with
        | sc y ey => obtain ⟨a, _, _, e1, _⟩ := h.tupD; have e2 := h'.sc ey; rw [e1] at e2; rw [← e2] at ey; exact (flat_ref (sc_flat ey)).elim
        | tup f' ys => cases e
        | lst f' ys =>
          obtain ⟨a, vs, S0, e1, h1, l1⟩ := h.tupD
          obtain ⟨a', vs', S0', e1', h1', l1'⟩ := h'.lstD
          rw [e1] at e1'; cases e1'
          exact (tup_lst I hG h1 h1').elim
      | lst f xs => cases sort_r e with
        | sc y ey => obtain ⟨a, _, _, e1, _⟩ := h.lstD; have e2 := h'.sc ey; rw [e1] at e2; rw [← e2] at ey; exact (flat_ref (sc_flat ey)).elim
        | tup f' ys =>
          obtain ⟨a, vs, S0, e1, h1, l1⟩ := h.lstD
          obtain ⟨a', vs', S0', e1', h1', l1'⟩ := h'.tupD
          rw [e1] at e1'; cases e1'
          exact (tup_lst I hG h1' h1).elim
        | lst f' ys => cases e) h h' e
  | succ n ih => exact fun t u v S S' b h h' e => core (n + 1) t u v S S' b ih h h' e
/-- the pairs' answers -/
def pairE (f : T → T → Option Bool) (xs ys : List T) (j : Nat) : Bool := match xs[j]?, ys[j]? with
  | some x, some y => (f x y).getD false
  | _, _ => false
theorem eqvL_val {f : T → T → Option Bool} : ∀ {xs ys : List T} {b : Bool}, eqvL f xs ys = some b → b = ((List.range (min xs.length ys.length)).all (pairE f xs ys) && xs.length == ys.length)
  | [], [], _, e => by cases e; rfl
  | [], _ :: _, _, e => by cases e; simp
  | _ :: _, [], _, e => by cases e; simp
  | x :: xs, y :: ys, b, e => by
    have e0 : (match f x y, eqvL f xs ys with | some a, some b => some (a && b) | _, _ => none) = some b := e
    cases ef : f x y with
    | none => rw [ef] at e0; cases e0
    | some c =>
      cases er : eqvL f xs ys with
      | none => rw [ef, er] at e0; cases e0
      | some d =>
        rw [ef, er] at e0
        cases e0
        have ih := eqvL_val er
        have e1 : min (x :: xs).length (y :: ys).length = min xs.length ys.length + 1 := by simp only [List.length_cons]; omega
        rw [e1, List.range_succ_eq_map, List.all_cons, List.all_map]
        have e2 : pairE f (x :: xs) (y :: ys) 0 = c := by simp [pairE, ef]
        have e3 : (pairE f (x :: xs) (y :: ys)) ∘ Nat.succ = pairE f xs ys := by
          funext j; simp [pairE, Function.comp]
        rw [e2, e3, ih]
        simp [Bool.and_assoc]
theorem eqvL_some {f : T → T → Option Bool} : ∀ {xs ys : List T} {b : Bool} {j : Nat} {x y : T}, eqvL f xs ys = some b → xs[j]? = some x → ys[j]? = some y → f x y = some (pairE f xs ys j)
  | [], _, _, _, _, _, _, e, _ => by simp at e
  | _ :: _, [], _, _, _, _, _, _, e => by simp at e
  | x :: xs, y :: ys, b, j, x', y', e, ex, ey => by
    have e0 : (match f x y, eqvL f xs ys with | some a, some b => some (a && b) | _, _ => none) = some b := e
    cases ef : f x y with
    | none => rw [ef] at e0; cases e0
    | some c =>
      cases er : eqvL f xs ys with
      | none => rw [ef, er] at e0; cases e0
      | some d =>
        cases j with
        | zero => simp at ex ey; subst ex ey; simp [pairE, ef]
        | succ j =>
          have := eqvL_some (j := j) er (by simpa using ex) (by simpa using ey)
          rw [this]; simp [pairE]
theorem RepL.get : ∀ (xs : List T) {vs : List V} {S : Sa} {j : Nat} {w : V}, RepL G Z H xs vs S → vs[j]? = some w → ∃ x Sx, xs[j]? = some x ∧ Rep G Z H x w Sx := fun xs vs S j w h e => by
  have hl := RepL.len xs h
  have hj : j < xs.length := by rw [← hl]; exact (List.getElem?_eq_some_iff.mp e).1
  obtain ⟨w', Sj, Sr, e', q, _⟩ := RepL.at_ xs h (List.getElem?_eq_getElem hj)
  rw [e] at e'; cases e'
  exact ⟨xs[j], Sj, List.getElem?_eq_getElem hj, q⟩
/-- the children's answers -/
theorem kids_eqAt {f : T → T → Option Bool} {A : Around} {xs ys : List T} {vs ws : List V} {its its2 : List Value} {b : Bool} (hf : ∀ (x y : T) (v w : V) (v' w' : Value) (S S' : Sa) (b : Bool), Rep G Z H x v S → Rep G Z H y w S' → RelV v v' → RelV w w' → f x y = some b → SeqAt.EqAt A s v' w' b)
    (l1 : RepL G Z H xs vs S) (l2 : RepL G Z H ys ws S') (r1 : Vals vs its) (r2 : Vals ws its2) (e : eqvL f xs ys = some b) : ∀ j (h1 : j < its.toArray.size) (h2 : j < its2.toArray.size), SeqAt.EqAt A s its.toArray[j] its2.toArray[j] (pairE f xs ys j) := by
  intro j h1 h2
  have n1 : j < its.length := by simpa using h1
  have n2 : j < its2.length := by simpa using h2
  have m1 : j < vs.length := by rw [r1.length]; exact n1
  have m2 : j < ws.length := by rw [r2.length]; exact n2
  obtain ⟨x, Sx, ex, qx⟩ := RepL.get xs l1 (List.getElem?_eq_getElem m1)
  obtain ⟨y, Sy, ey, qy⟩ := RepL.get ys l2 (List.getElem?_eq_getElem m2)
  obtain ⟨u1, eu1, ru1⟩ := r1.get (List.getElem?_eq_getElem m1)
  obtain ⟨u2, eu2, ru2⟩ := r2.get (List.getElem?_eq_getElem m2)
  have := hf x y _ _ u1 u2 _ _ _ qx qy ru1 ru2 (eqvL_some e ex ey)
  rw [List.getElem?_eq_getElem n1] at eu1
  rw [List.getElem?_eq_getElem n2] at eu2
  cases eu1; cases eu2
  simpa using this
theorem sc_tup_at {A : Around} {x : V} {v' : Value} {a : Addr} {items : Array Value} (f : flatV x = true) (r : RelV x v') (it : s.heap.IsTuple a items) (hu : A.units < cLine) : SeqAt.EqAt A s v' (.ref a) false := by
  cases x with
  | non => cases r; exact SeqAt.EqAt.none_tuple it hu
  | bl b => cases r; exact SeqAt.EqAt.bool_tuple b it hu
  | int i => obtain ⟨t, rfl⟩ := r; exact SeqAt.EqAt.int_tuple i t it hu
  | str i => obtain ⟨t, rfl⟩ := r; exact SeqAt.EqAt.str_tuple i t it hu
  | byt _ => cases f
  | flt _ => cases f
  | ref _ => cases f
  | ty _ => cases f
theorem sc_lst_at {A : Around} {x : V} {v' : Value} {a : Addr} {items : Array Value} (f : flatV x = true) (r : RelV x v') (it : s.heap.IsList a items) (hu : A.units < cLine) : SeqAt.EqAt A s v' (.ref a) false := by
  cases x with
  | non => cases r; exact SeqAt.EqAt.none_list it hu
  | bl b => cases r; exact SeqAt.EqAt.bool_list b it hu
  | int i => obtain ⟨t, rfl⟩ := r; exact SeqAt.EqAt.int_list i t it hu
  | str i => obtain ⟨t, rfl⟩ := r; exact SeqAt.EqAt.str_list i t it hu
  | byt _ => cases f
  | flt _ => cases f
  | ref _ => cases f
  | ty _ => cases f
theorem tup_sc_at {A : Around} {x : V} {v' : Value} {a : Addr} {items : Array Value} (f : flatV x = true) (r : RelV x v') (it : s.heap.IsTuple a items) (hu : A.units < cLine) : SeqAt.EqAt A s (.ref a) v' false := by
  cases x with
  | non => cases r; exact SeqAt.EqAt.tuple_none it hu
  | bl b => cases r; exact SeqAt.EqAt.tuple_bool b it hu
  | int i => obtain ⟨t, rfl⟩ := r; exact SeqAt.EqAt.tuple_int i t it hu
  | str i => obtain ⟨t, rfl⟩ := r; exact SeqAt.EqAt.tuple_str i t it hu
  | byt _ => cases f
  | flt _ => cases f
  | ref _ => cases f
  | ty _ => cases f
theorem lst_sc_at {A : Around} {x : V} {v' : Value} {a : Addr} {items : Array Value} (f : flatV x = true) (r : RelV x v') (it : s.heap.IsList a items) (hu : A.units < cLine) : SeqAt.EqAt A s (.ref a) v' false := by
  cases x with
  | non => cases r; exact SeqAt.EqAt.list_none it hu
  | bl b => cases r; exact SeqAt.EqAt.list_bool b it hu
  | int i => obtain ⟨t, rfl⟩ := r; exact SeqAt.EqAt.list_int i t it hu
  | str i => obtain ⟨t, rfl⟩ := r; exact SeqAt.EqAt.list_str i t it hu
  | byt _ => cases f
  | flt _ => cases f
  | ref _ => cases f
  | ty _ => cases f
theorem tupX (I : Inv X pins σ H s) (hG : G.K = X.K) {f : Bool} {xs : List T} {v : V} {v' : Value} (h : Rep G Z H (.nd .tup f xs) v S) (r : RelV v v') : ∃ (a : Addr) (vs : List V) (S0 : Sa) (its : List Value), v = .ref a ∧ v' = .ref a ∧ Vals vs its ∧ s.heap.IsTuple a its.toArray ∧ RepL G Z H xs vs S0 := by
  obtain ⟨a, vs, S0, rfl, h1, l1⟩ := h.tupD
  have h1' : SqT X.K H a vs := hG ▸ h1
  obtain ⟨its, rv, it, _⟩ := I.tuple h1'
  cases r
  exact ⟨a, vs, S0, its, rfl, rfl, rv, it, l1⟩
theorem lstX (I : Inv X pins σ H s) {f : Bool} {xs : List T} {v : V} {v' : Value} (h : Rep G Z H (.nd .lst f xs) v S) (r : RelV v v') : ∃ (a : Addr) (vs : List V) (S0 : Sa) (its : List Value), v = .ref a ∧ v' = .ref a ∧ H a = some (.lst vs) ∧ Vals vs its ∧ s.heap.IsList a its.toArray ∧ RepL G Z H xs vs S0 := by
  obtain ⟨a, vs, S0, rfl, h1, l1⟩ := h.lstD
  obtain ⟨its, rv, it, _⟩ := I.list (SqL.of h1)
  cases r
  exact ⟨a, vs, S0, its, rfl, rfl, h1, rv, it.isList, l1⟩
theorem eqvN_at (I : Inv X pins σ H s) (hG : G.K = X.K) : ∀ (n : Nat) (A : Around) (t u : T) (v w : V) (v' w' : Value) (S S' : Sa) (b : Bool), A.units + n + 2 < cLine → Rep G Z H t v S → Rep G Z H u w S' → RelV v v' → RelV w w' → eqvN n t u = some b → SeqAt.EqAt A s v' w' b := by
  intro n
  induction n with
  | zero =>
    intro A t u v w v' w' S S' b hu h h' r r' e
    have hu : A.units < cLine := by omega
    cases sort_l e with
    | sc x ex =>
      have e1 := h.sc ex; subst e1
      cases sort_r e with
      | sc y ey => have e2 := h'.sc ey; subst e2; rw [eqvN_sc ex ey] at e; cases e; exact eqAt_V r r' (sc_flat ex) (sc_flat ey)
      | tup f xs => obtain ⟨a, vs, S0, its, rfl, rfl, rv, it, l1⟩ := tupX I hG h' r'; rw [eqvN_sct ex] at e; cases e; exact sc_tup_at (sc_flat ex) r it hu
      | lst f xs => obtain ⟨a, vs, S0, its, rfl, rfl, _, rv, it, l1⟩ := lstX I h' r'; rw [eqvN_scl ex] at e; cases e; exact sc_lst_at (sc_flat ex) r it hu
    | tup f xs =>
      obtain ⟨a, vs, S0, its, rfl, rfl, rv, it, l1⟩ := tupX I hG h r
      cases sort_r e with
      | sc y ey => have e2 := h'.sc ey; subst e2; rw [eqvN_tsc ey] at e; cases e; exact tup_sc_at (sc_flat ey) r' it hu
      | tup f' ys => cases e
      | lst f' ys => obtain ⟨a', vs', S0', its', rfl, rfl, _, rv', it', l1'⟩ := lstX I h' r'; rw [eqvN_tl] at e; cases e; exact SeqAt.EqAt.tuple_list it it' hu
    | lst f xs =>
      obtain ⟨a, vs, S0, its, rfl, rfl, _, rv, it, l1⟩ := lstX I h r
      cases sort_r e with
      | sc y ey => have e2 := h'.sc ey; subst e2; rw [eqvN_lsc ey] at e; cases e; exact lst_sc_at (sc_flat ey) r' it hu
      | tup f' ys => obtain ⟨a', vs', S0', its', rfl, rfl, rv', it', l1'⟩ := tupX I hG h' r'; rw [eqvN_lt] at e; cases e; exact SeqAt.EqAt.list_tuple it it' hu
      | lst f' ys => cases e
  | succ n ih =>
    intro A t u v w v' w' S S' b hun h h' r r' e
    have hu : A.units < cLine := by omega
    have ih' : ∀ (x y : T) (v w : V) (v' w' : Value) (S S' : Sa) (b : Bool), Rep G Z H x v S → Rep G Z H y w S' → RelV v v' → RelV w w' → eqvN n x y = some b → SeqAt.EqAt A.in1 s v' w' b := fun x y v w v' w' S S' b => ih A.in1 x y v w v' w' S S' b (by show A.units + 1 + n + 2 < cLine; omega)
    cases sort_l e with
    | sc x ex =>
      have e1 := h.sc ex; subst e1
      cases sort_r e with
      | sc y ey => have e2 := h'.sc ey; subst e2; rw [eqvN_sc ex ey] at e; cases e; exact eqAt_V r r' (sc_flat ex) (sc_flat ey)
      | tup f xs => obtain ⟨a, vs, S0, its, rfl, rfl, rv, it, l1⟩ := tupX I hG h' r'; rw [eqvN_sct ex] at e; cases e; exact sc_tup_at (sc_flat ex) r it hu
      | lst f xs => obtain ⟨a, vs, S0, its, rfl, rfl, _, rv, it, l1⟩ := lstX I h' r'; rw [eqvN_scl ex] at e; cases e; exact sc_lst_at (sc_flat ex) r it hu
    | tup f xs =>
      obtain ⟨a, vs, S0, its, e1, e1', rv, it, l1⟩ := tupX I hG h r
      cases sort_r e with
      | sc y ey => have e2 := h'.sc ey; subst e2; subst e1'; rw [eqvN_tsc ey] at e; cases e; exact tup_sc_at (sc_flat ey) r' it hu
      | tup f' ys =>
        obtain ⟨a', vs', S0', its', e2, e2', rv', it', l1'⟩ := tupX I hG h' r'
        by_cases haa : a = a'
        · subst haa
          rw [e1] at h; rw [e2] at h'
          rw [eqvN_self I hG (n + 1) _ _ _ _ _ b h h' e, e1', e2']
          exact SeqAt.EqAt.same _
        · have e0 : eqvL (eqvN n) xs ys = some b := e
          have q := SeqAt.EqAt.of_refs haa (SeqAt.RcAt.tuples it it' hu (kids_eqAt ih' l1 l1' rv rv' e0))
          rw [eqvL_val e0, ← RepL.len _ l1, ← RepL.len _ l1', rv.length, rv'.length, e1', e2']
          simpa using q
      | lst f' ys => obtain ⟨a', vs', S0', its', rfl, rfl, _, rv', it', l1'⟩ := lstX I h' r'; subst e1'; rw [eqvN_tl] at e; cases e; exact SeqAt.EqAt.tuple_list it it' hu
    | lst f xs =>
      obtain ⟨a, vs, S0, its, e1, e1', _, rv, it, l1⟩ := lstX I h r
      cases sort_r e with
      | sc y ey => have e2 := h'.sc ey; subst e2; subst e1'; rw [eqvN_lsc ey] at e; cases e; exact lst_sc_at (sc_flat ey) r' it hu
      | tup f' ys => obtain ⟨a', vs', S0', its', rfl, rfl, rv', it', l1'⟩ := tupX I hG h' r'; subst e1'; rw [eqvN_lt] at e; cases e; exact SeqAt.EqAt.list_tuple it it' hu
      | lst f' ys =>
        obtain ⟨a', vs', S0', its', e2, e2', _, rv', it', l1'⟩ := lstX I h' r'
        have n1 := RepL.len _ l1; have n2 := RepL.len _ l1'; have n3 := rv.length; have n4 := rv'.length
        by_cases haa : a = a'
        · subst haa
          rw [e1] at h; rw [e2] at h'
          rw [eqvN_self I hG (n + 1) _ _ _ _ _ b h h' e, e1', e2']
          exact SeqAt.EqAt.same _
        · have e0 : (if xs.length = ys.length then eqvL (eqvN n) xs ys else some false) = some b := e
          rw [e1', e2']
          by_cases hl : xs.length = ys.length
          · rw [if_pos hl] at e0
            have hs : its.toArray.size = its'.toArray.size := by simp; omega
            have q := SeqAt.EqAt.of_refs haa (SeqAt.RcAt.lists it it' hs hu (kids_eqAt ih' l1 l1' rv rv' e0))
            rw [eqvL_val e0, ← hl, Nat.min_self, ← n1, n3]
            simpa using q
          · rw [if_neg hl] at e0
            cases e0
            exact SeqAt.EqAt.of_refs haa (SeqAt.RcAt.lists_lengths it it' (by simp; omega) hu)
theorem RcAt_sc {A : Around} {x y : V} {v' w' : Value} (fx : flatV x = true) (fy : flatV y = true) (r : RelV x v') (r' : RelV y w') : SeqAt.RcAt A s v' w' (eqV x y) := by
  cases x with
  | non =>
    cases r
    cases y with
    | non =>
      cases r'
      exact SeqAt.RcAt.none_none
    | bl y =>
      cases r'
      exact SeqAt.RcAt.none_bool y
    | int y =>
      obtain ⟨u, rfl⟩ := r'
      exact SeqAt.RcAt.none_int y u
    | str y =>
      obtain ⟨u, rfl⟩ := r'
      exact SeqAt.RcAt.none_str y u
    | byt _ => cases fy
    | flt _ => cases fy
    | ref _ => cases fy
    | ty _ => cases fy
  | bl x =>
    cases r
    cases y with
    | non =>
      cases r'
      exact SeqAt.RcAt.bool_none x
    | bl y =>
      cases r'
      exact SeqAt.RcAt.bool_bool x y
    | int y =>
      obtain ⟨u, rfl⟩ := r'
      exact SeqAt.RcAt.bool_int x y u
    | str y =>
      obtain ⟨u, rfl⟩ := r'
      exact SeqAt.RcAt.bool_str x y u
    | byt _ => cases fy
    | flt _ => cases fy
    | ref _ => cases fy
    | ty _ => cases fy
  | int x =>
    obtain ⟨t, rfl⟩ := r
    cases y with
    | non =>
      cases r'
      exact SeqAt.RcAt.int_none x t
    | bl y =>
      cases r'
      exact SeqAt.RcAt.int_bool x t y
    | int y =>
      obtain ⟨u, rfl⟩ := r'
      exact SeqAt.RcAt.int_int x t y u
    | str y =>
      obtain ⟨u, rfl⟩ := r'
      exact SeqAt.RcAt.int_str x t y u
    | byt _ => cases fy
    | flt _ => cases fy
    | ref _ => cases fy
    | ty _ => cases fy
  | str x =>
    obtain ⟨t, rfl⟩ := r
    cases y with
    | non =>
      cases r'
      exact SeqAt.RcAt.str_none x t
    | bl y =>
      cases r'
      exact SeqAt.RcAt.str_bool x t y
    | int y =>
      obtain ⟨u, rfl⟩ := r'
      exact SeqAt.RcAt.str_int x t y u
    | str y =>
      obtain ⟨u, rfl⟩ := r'
      exact SeqAt.RcAt.str_str x t y u
    | byt _ => cases fy
    | flt _ => cases fy
    | ref _ => cases fy
    | ty _ => cases fy
  | byt _ => cases fx
  | flt _ => cases fx
  | ref _ => cases fx
  | ty _ => cases fx
theorem RcAt_sct {A : Around} {x : V} {v' : Value} {a : Addr} {items : Array Value} (f : flatV x = true) (r : RelV x v') (it : s.heap.IsTuple a items) (hu : A.units < cLine) : SeqAt.RcAt A s v' (.ref a) false := by
  cases x with
  | non => cases r; exact SeqAt.RcAt.none_tuple it hu
  | bl b => cases r; exact SeqAt.RcAt.bool_tuple b it hu
  | int i => obtain ⟨t, rfl⟩ := r; exact SeqAt.RcAt.int_tuple i t it hu
  | str i => obtain ⟨t, rfl⟩ := r; exact SeqAt.RcAt.str_tuple i t it hu
  | byt _ => cases f
  | flt _ => cases f
  | ref _ => cases f
  | ty _ => cases f
theorem RcAt_tsc {A : Around} {x : V} {v' : Value} {a : Addr} {items : Array Value} (f : flatV x = true) (r : RelV x v') (it : s.heap.IsTuple a items) (hu : A.units < cLine) : SeqAt.RcAt A s (.ref a) v' false := by
  cases x with
  | non => cases r; exact SeqAt.RcAt.tuple_none it hu
  | bl b => cases r; exact SeqAt.RcAt.tuple_bool b it hu
  | int i => obtain ⟨t, rfl⟩ := r; exact SeqAt.RcAt.tuple_int i t it hu
  | str i => obtain ⟨t, rfl⟩ := r; exact SeqAt.RcAt.tuple_str i t it hu
  | byt _ => cases f
  | flt _ => cases f
  | ref _ => cases f
  | ty _ => cases f
theorem RcAt_scl {A : Around} {x : V} {v' : Value} {a : Addr} {items : Array Value} (f : flatV x = true) (r : RelV x v') (it : s.heap.IsList a items) (hu : A.units < cLine) : SeqAt.RcAt A s v' (.ref a) false := by
  cases x with
  | non => cases r; exact SeqAt.RcAt.none_list it hu
  | bl b => cases r; exact SeqAt.RcAt.bool_list b it hu
  | int i => obtain ⟨t, rfl⟩ := r; exact SeqAt.RcAt.int_list i t it hu
  | str i => obtain ⟨t, rfl⟩ := r; exact SeqAt.RcAt.str_list i t it hu
  | byt _ => cases f
  | flt _ => cases f
  | ref _ => cases f
  | ty _ => cases f
theorem RcAt_lsc {A : Around} {x : V} {v' : Value} {a : Addr} {items : Array Value} (f : flatV x = true) (r : RelV x v') (it : s.heap.IsList a items) (hu : A.units < cLine) : SeqAt.RcAt A s (.ref a) v' false := by
  cases x with
  | non => cases r; exact SeqAt.RcAt.list_none it hu
  | bl b => cases r; exact SeqAt.RcAt.list_bool b it hu
  | int i => obtain ⟨t, rfl⟩ := r; exact SeqAt.RcAt.list_int i t it hu
  | str i => obtain ⟨t, rfl⟩ := r; exact SeqAt.RcAt.list_str i t it hu
  | byt _ => cases f
  | flt _ => cases f
  | ref _ => cases f
  | ty _ => cases f
theorem RcAt_at (I : Inv X pins σ H s) (hG : G.K = X.K) {n : Nat} {A : Around} {t u : T} {v w : V} {v' w' : Value} {b : Bool} (hun : A.units + n + 2 < cLine) (h : Rep G Z H t v S) (h' : Rep G Z H u w S') (r : RelV v v') (r' : RelV w w') (e : eqvN n t u = some b) : SeqAt.RcAt A s v' w' b := by
  have hu : A.units < cLine := by omega
  cases sort_l e with
  | sc x ex =>
    have e1 := h.sc ex; subst e1
    cases sort_r e with
    | sc y ey => have e2 := h'.sc ey; subst e2; rw [eqvN_sc ex ey] at e; cases e; exact RcAt_sc (sc_flat ex) (sc_flat ey) r r'
    | tup f xs => obtain ⟨a, vs, S0, its, rfl, rfl, rv, it, l1⟩ := tupX I hG h' r'; rw [eqvN_sct ex] at e; cases e; exact RcAt_sct (sc_flat ex) r it hu
    | lst f xs => obtain ⟨a, vs, S0, its, rfl, rfl, _, rv, it, l1⟩ := lstX I h' r'; rw [eqvN_scl ex] at e; cases e; exact RcAt_scl (sc_flat ex) r it hu
  | tup f xs =>
    obtain ⟨a, vs, S0, its, e1, e1', rv, it, l1⟩ := tupX I hG h r
    cases sort_r e with
    | sc y ey => have e2 := h'.sc ey; subst e2; subst e1'; rw [eqvN_tsc ey] at e; cases e; exact RcAt_tsc (sc_flat ey) r' it hu
    | tup f' ys =>
      obtain ⟨a', vs', S0', its', e2, e2', rv', it', l1'⟩ := tupX I hG h' r'
      cases n with
      | zero => cases e
      | succ n =>
        have e0 : eqvL (eqvN n) xs ys = some b := e
        have q := SeqAt.RcAt.tuples it it' hu (kids_eqAt (A := A.in1) (fun x y v w v' w' S S' b => eqvN_at I hG n A.in1 x y v w v' w' S S' b (by show A.units + 1 + n + 2 < cLine; omega)) l1 l1' rv rv' e0)
        rw [eqvL_val e0, ← RepL.len _ l1, ← RepL.len _ l1', rv.length, rv'.length, e1', e2']
        simpa using q
    | lst f' ys => obtain ⟨a', vs', S0', its', rfl, rfl, _, rv', it', l1'⟩ := lstX I h' r'; subst e1'; rw [eqvN_tl] at e; cases e; exact SeqAt.RcAt.tuple_list it it' hu
  | lst f xs =>
    obtain ⟨a, vs, S0, its, e1, e1', _, rv, it, l1⟩ := lstX I h r
    cases sort_r e with
    | sc y ey => have e2 := h'.sc ey; subst e2; subst e1'; rw [eqvN_lsc ey] at e; cases e; exact RcAt_lsc (sc_flat ey) r' it hu
    | tup f' ys => obtain ⟨a', vs', S0', its', rfl, rfl, rv', it', l1'⟩ := tupX I hG h' r'; subst e1'; rw [eqvN_lt] at e; cases e; exact SeqAt.RcAt.list_tuple it it' hu
    | lst f' ys =>
      obtain ⟨a', vs', S0', its', e2, e2', _, rv', it', l1'⟩ := lstX I h' r'
      have n1 := RepL.len _ l1; have n2 := RepL.len _ l1'; have n3 := rv.length; have n4 := rv'.length
      cases n with
      | zero => cases e
      | succ n =>
        have e0 : (if xs.length = ys.length then eqvL (eqvN n) xs ys else some false) = some b := e
        rw [e1', e2']
        by_cases hl : xs.length = ys.length
        · rw [if_pos hl] at e0
          have hs : its.toArray.size = its'.toArray.size := by simp; omega
          have q := SeqAt.RcAt.lists it it' hs hu (kids_eqAt (A := A.in1) (fun x y v w v' w' S S' b => eqvN_at I hG n A.in1 x y v w v' w' S S' b (by show A.units + 1 + n + 2 < cLine; omega)) l1 l1' rv rv' e0)
          rw [eqvL_val e0, ← hl, Nat.min_self, ← n1, n3]
          simpa using q
        · rw [if_neg hl] at e0
          cases e0
          exact SeqAt.RcAt.lists_lengths it it' (by simp; omega) hu
theorem RcNeAt_sc {A : Around} {x y : V} {v' w' : Value} (fx : flatV x = true) (fy : flatV y = true) (r : RelV x v') (r' : RelV y w') : SeqAt.RcNeAt A s v' w' (!eqV x y) := by
  cases x with
  | non =>
    cases r
    cases y with
    | non =>
      cases r'
      exact SeqAt.RcNeAt.none_none
    | bl y =>
      cases r'
      exact SeqAt.RcNeAt.none_bool y
    | int y =>
      obtain ⟨u, rfl⟩ := r'
      exact SeqAt.RcNeAt.none_int y u
    | str y =>
      obtain ⟨u, rfl⟩ := r'
      exact SeqAt.RcNeAt.none_str y u
    | byt _ => cases fy
    | flt _ => cases fy
    | ref _ => cases fy
    | ty _ => cases fy
  | bl x =>
    cases r
    cases y with
    | non =>
      cases r'
      exact SeqAt.RcNeAt.bool_none x
    | bl y =>
      cases r'
      exact SeqAt.RcNeAt.bool_bool x y
    | int y =>
      obtain ⟨u, rfl⟩ := r'
      exact SeqAt.RcNeAt.bool_int x y u
    | str y =>
      obtain ⟨u, rfl⟩ := r'
      exact SeqAt.RcNeAt.bool_str x y u
    | byt _ => cases fy
    | flt _ => cases fy
    | ref _ => cases fy
    | ty _ => cases fy
  | int x =>
    obtain ⟨t, rfl⟩ := r
    cases y with
    | non =>
      cases r'
      exact SeqAt.RcNeAt.int_none x t
    | bl y =>
      cases r'
      exact SeqAt.RcNeAt.int_bool x t y
    | int y =>
      obtain ⟨u, rfl⟩ := r'
      exact SeqAt.RcNeAt.int_int x t y u
    | str y =>
      obtain ⟨u, rfl⟩ := r'
      exact SeqAt.RcNeAt.int_str x t y u
    | byt _ => cases fy
    | flt _ => cases fy
    | ref _ => cases fy
    | ty _ => cases fy
  | str x =>
    obtain ⟨t, rfl⟩ := r
    cases y with
    | non =>
      cases r'
      exact SeqAt.RcNeAt.str_none x t
    | bl y =>
      cases r'
      exact SeqAt.RcNeAt.str_bool x t y
    | int y =>
      obtain ⟨u, rfl⟩ := r'
      exact SeqAt.RcNeAt.str_int x t y u
    | str y =>
      obtain ⟨u, rfl⟩ := r'
      exact SeqAt.RcNeAt.str_str x t y u
    | byt _ => cases fy
    | flt _ => cases fy
    | ref _ => cases fy
    | ty _ => cases fy
  | byt _ => cases fx
  | flt _ => cases fx
  | ref _ => cases fx
  | ty _ => cases fx
theorem RcNeAt_sct {A : Around} {x : V} {v' : Value} {a : Addr} {items : Array Value} (f : flatV x = true) (r : RelV x v') (it : s.heap.IsTuple a items) (hu : A.units < cLine) : SeqAt.RcNeAt A s v' (.ref a) true := by
  cases x with
  | non => cases r; exact SeqAt.RcNeAt.none_tuple it hu
  | bl b => cases r; exact SeqAt.RcNeAt.bool_tuple b it hu
  | int i => obtain ⟨t, rfl⟩ := r; exact SeqAt.RcNeAt.int_tuple i t it hu
  | str i => obtain ⟨t, rfl⟩ := r; exact SeqAt.RcNeAt.str_tuple i t it hu
  | byt _ => cases f
  | flt _ => cases f
  | ref _ => cases f
  | ty _ => cases f
theorem RcNeAt_tsc {A : Around} {x : V} {v' : Value} {a : Addr} {items : Array Value} (f : flatV x = true) (r : RelV x v') (it : s.heap.IsTuple a items) (hu : A.units < cLine) : SeqAt.RcNeAt A s (.ref a) v' true := by
  cases x with
  | non => cases r; exact SeqAt.RcNeAt.tuple_none it hu
  | bl b => cases r; exact SeqAt.RcNeAt.tuple_bool b it hu
  | int i => obtain ⟨t, rfl⟩ := r; exact SeqAt.RcNeAt.tuple_int i t it hu
  | str i => obtain ⟨t, rfl⟩ := r; exact SeqAt.RcNeAt.tuple_str i t it hu
  | byt _ => cases f
  | flt _ => cases f
  | ref _ => cases f
  | ty _ => cases f
theorem RcNeAt_scl {A : Around} {x : V} {v' : Value} {a : Addr} {items : Array Value} (f : flatV x = true) (r : RelV x v') (it : s.heap.IsList a items) (hu : A.units < cLine) : SeqAt.RcNeAt A s v' (.ref a) true := by
  cases x with
  | non => cases r; exact SeqAt.RcNeAt.none_list it hu
  | bl b => cases r; exact SeqAt.RcNeAt.bool_list b it hu
  | int i => obtain ⟨t, rfl⟩ := r; exact SeqAt.RcNeAt.int_list i t it hu
  | str i => obtain ⟨t, rfl⟩ := r; exact SeqAt.RcNeAt.str_list i t it hu
  | byt _ => cases f
  | flt _ => cases f
  | ref _ => cases f
  | ty _ => cases f
theorem RcNeAt_lsc {A : Around} {x : V} {v' : Value} {a : Addr} {items : Array Value} (f : flatV x = true) (r : RelV x v') (it : s.heap.IsList a items) (hu : A.units < cLine) : SeqAt.RcNeAt A s (.ref a) v' true := by
  cases x with
  | non => cases r; exact SeqAt.RcNeAt.list_none it hu
  | bl b => cases r; exact SeqAt.RcNeAt.list_bool b it hu
  | int i => obtain ⟨t, rfl⟩ := r; exact SeqAt.RcNeAt.list_int i t it hu
  | str i => obtain ⟨t, rfl⟩ := r; exact SeqAt.RcNeAt.list_str i t it hu
  | byt _ => cases f
  | flt _ => cases f
  | ref _ => cases f
  | ty _ => cases f
theorem RcNeAt_at (I : Inv X pins σ H s) (hG : G.K = X.K) {n : Nat} {A : Around} {t u : T} {v w : V} {v' w' : Value} {b : Bool} (hun : A.units + n + 2 < cLine) (h : Rep G Z H t v S) (h' : Rep G Z H u w S') (r : RelV v v') (r' : RelV w w') (e : eqvN n t u = some b) : SeqAt.RcNeAt A s v' w' (!b) := by
  have hu : A.units < cLine := by omega
  cases sort_l e with
  | sc x ex =>
    have e1 := h.sc ex; subst e1
    cases sort_r e with
    | sc y ey => have e2 := h'.sc ey; subst e2; rw [eqvN_sc ex ey] at e; cases e; exact RcNeAt_sc (sc_flat ex) (sc_flat ey) r r'
    | tup f xs => obtain ⟨a, vs, S0, its, rfl, rfl, rv, it, l1⟩ := tupX I hG h' r'; rw [eqvN_sct ex] at e; cases e; exact RcNeAt_sct (sc_flat ex) r it hu
    | lst f xs => obtain ⟨a, vs, S0, its, rfl, rfl, _, rv, it, l1⟩ := lstX I h' r'; rw [eqvN_scl ex] at e; cases e; exact RcNeAt_scl (sc_flat ex) r it hu
  | tup f xs =>
    obtain ⟨a, vs, S0, its, e1, e1', rv, it, l1⟩ := tupX I hG h r
    cases sort_r e with
    | sc y ey => have e2 := h'.sc ey; subst e2; subst e1'; rw [eqvN_tsc ey] at e; cases e; exact RcNeAt_tsc (sc_flat ey) r' it hu
    | tup f' ys =>
      obtain ⟨a', vs', S0', its', e2, e2', rv', it', l1'⟩ := tupX I hG h' r'
      cases n with
      | zero => cases e
      | succ n =>
        have e0 : eqvL (eqvN n) xs ys = some b := e
        have q := SeqAt.RcNeAt.tuples it it' hu (kids_eqAt (A := A.in1) (fun x y v w v' w' S S' b => eqvN_at I hG n A.in1 x y v w v' w' S S' b (by show A.units + 1 + n + 2 < cLine; omega)) l1 l1' rv rv' e0)
        rw [eqvL_val e0, ← RepL.len _ l1, ← RepL.len _ l1', rv.length, rv'.length, e1', e2']
        simpa using q
    | lst f' ys => obtain ⟨a', vs', S0', its', rfl, rfl, _, rv', it', l1'⟩ := lstX I h' r'; subst e1'; rw [eqvN_tl] at e; cases e; exact SeqAt.RcNeAt.tuple_list it it' hu
  | lst f xs =>
    obtain ⟨a, vs, S0, its, e1, e1', _, rv, it, l1⟩ := lstX I h r
    cases sort_r e with
    | sc y ey => have e2 := h'.sc ey; subst e2; subst e1'; rw [eqvN_lsc ey] at e; cases e; exact RcNeAt_lsc (sc_flat ey) r' it hu
    | tup f' ys => obtain ⟨a', vs', S0', its', rfl, rfl, rv', it', l1'⟩ := tupX I hG h' r'; subst e1'; rw [eqvN_lt] at e; cases e; exact SeqAt.RcNeAt.list_tuple it it' hu
    | lst f' ys =>
      obtain ⟨a', vs', S0', its', e2, e2', _, rv', it', l1'⟩ := lstX I h' r'
      have n1 := RepL.len _ l1; have n2 := RepL.len _ l1'; have n3 := rv.length; have n4 := rv'.length
      cases n with
      | zero => cases e
      | succ n =>
        have e0 : (if xs.length = ys.length then eqvL (eqvN n) xs ys else some false) = some b := e
        rw [e1', e2']
        by_cases hl : xs.length = ys.length
        · rw [if_pos hl] at e0
          have hs : its.toArray.size = its'.toArray.size := by simp; omega
          have q := SeqAt.RcNeAt.lists it it' hs hu (kids_eqAt (A := A.in1) (fun x y v w v' w' S S' b => eqvN_at I hG n A.in1 x y v w v' w' S S' b (by show A.units + 1 + n + 2 < cLine; omega)) l1 l1' rv rv' e0)
          rw [eqvL_val e0, ← hl, Nat.min_self, ← n1, n3]
          simpa using q
        · rw [if_neg hl] at e0
          cases e0
          exact SeqAt.RcNeAt.lists_lengths it it' (by simp; omega) hu
end
end TI
end
section
set_option maxHeartbeats 400000
/-! TS6: operators on two operands. -/
namespace TI
open PySem L2
/-- an operation by trees -/
def rT2 (B : Bs) (f : T → T → Option T) : R2 := fun x y H Q => ∃ (Z S1 S2 : Sa) (t u z : T), Rep B.G Z H t x S1 ∧ Rep B.G Z H u y S2 ∧ f t u = some z ∧ ∀ (v : V) (H' : Hp) (S : Sa), Res B.G Z H z v H' S → Q v H'
section
variable {B : Bs} {X : Cx} {sc : List (Str × NameKind)} {n : Nat} {lc pn : List Nat} {Y : Sa} {env env1 env2 : Env} {σ : St} {H H1 H2 H' : Hp} {F F1 F2 Z Z1 Z2 S S1 S2 : Sa} {α β γ δ : Type}
theorem s_two {f : T → T → Option T} {a b c : C} (hc : ev c = two f (ev a) (ev b)) {σ : St} {H : Hp} {Q : VK} (h : tR B c σ H Q) : tOp (rT2 B f) (tR B a) (tR B b) σ H Q := by
  obtain ⟨lc, pn, Y, env, F, Z, r, h⟩ := h
  have h1 : OQ B lc Y env σ F Z H (VR1 B.G σ) ((evR (B.k lc pn) a env).bind fun x e => ((B.k lc pn).withP e x fun K => evR K b e).bind fun y e => match lookR e x, lookR e y with
    | some t, some u => (lift (f t u) e).bind fun z e => .ok (.tmp z) e
    | _, _ => .stuck) Q := by
    have h2 : OQ B lc Y env σ F Z H (VR1 B.G σ) ((ev c).r (B.k lc pn) env) Q := h
    rw [hc] at h2
    exact h2
  refine ⟨lc, pn, Y, env, F, Z, r, OQ.bind h1 fun rv e1 v H1 F1 Z1 S1 _ a1 q1 h2 => ?_⟩
  refine second a1 q1 h2 fun rw' e2 w H2 F2 Z2 S2 b q1' q2 h3 => ?_
  obtain ⟨ab, d⟩ := a1.step b
  cases e1' : lookR e2 rv with
  | none => rw [e1'] at h3; exact h3.elim
  | some t =>
    cases e2' : lookR e2 rw' with
    | none => rw [e1', e2'] at h3; exact h3.elim
    | some u =>
      rw [e1', e2'] at h3
      dsimp only at h3
      cases ef : f t u with
      | none => rw [ef] at h3; exact h3.elim
      | some z =>
        rw [ef] at h3
        obtain ⟨T1, r1, _⟩ := look_rep ab.r q1' e1'
        obtain ⟨T2, r2, _⟩ := look_rep ab.r q2 e2'
        refine ⟨Z2, T1, T2, t, u, z, r1, r2, ef, fun v' H' S' rs => ?_⟩
        exact h3 v' H' F2 Z2 S' (ab.res rs) rs.rep
theorem s_bin {op : BO} {o : Operator} {x y : Expr} {a b : C} {pos : Pos} (ho : OpR X (binaryOp o) (rT2 B (binT op))) (ha : PE X x (tR B a)) (hb : PE X y (tR B b)) : PE X (.BinOp x o y pos) (tR B (.bin op a b)) :=
  (pe_op ho ha hb).tim fun _ _ _ h => s_two rfl h
theorem s_cmp {op : CP} {o : CmpOp} {x y : Expr} {a b : C} {pos : Pos} (ho : OpR X (compareOp o) (rT2 B fun t u => (cmpT op t u).map .bl)) (ha : PE X x (tR B a)) (hb : PE X y (tR B b)) (hm : behindInMarks o y = false) : PE X (.Compare x [o] [y] pos) (tR B (.cmp op a b)) :=
  (pe_cmpR ho ha hb hm).tim fun _ _ _ h => s_two rfl h
/-! ### results -/
theorem freeL_append : ∀ (xs ys : List T), T.freeL (xs ++ ys) = (T.freeL xs && T.freeL ys)
  | [], ys => by simp [T.freeL]
  | x :: xs, ys => by simp [T.freeL, freeL_append xs ys, Bool.and_assoc]
theorem RepL.app {G : Gd} : ∀ {xs ys : List T} {vs ws : List V}, RepL G Z H xs vs none_ → RepL G Z H ys ws none_ → RepL G Z H (xs ++ ys) (vs ++ ws) none_
  | [], ys, vs, ws, h, h' => by
    have e : vs = [] := h
    subst e
    exact h'
  | x :: xs, ys, vs, ws, ⟨v, r, S1, S2, e, h1, h2, d, s1, s2⟩, h' => by
    subst e
    exact ⟨v, r ++ ws, none_, none_, rfl, h1.mono x s1, RepL.app (h2.mono xs s2) h', fun _ z => z.elim, fun _ z => z, fun _ z => z⟩
theorem RepL.nil_iff {G : Gd} {xs : List T} {vs : List V} (h : RepL G Z H xs vs S) : xs = [] ↔ vs = [] := by
  have hl := RepL.len xs h
  rw [← List.length_eq_zero_iff, ← List.length_eq_zero_iff, hl]
theorem capL_some {xs : List T} {z : T} (h : capL xs = some z) : xs.length ≤ lim ∧ T.freeL xs = true ∧ z = .lst true xs := by
  unfold capL at h
  split at h
  · rename_i q; cases h; exact ⟨q.1, q.2, rfl⟩
  · cases h
theorem capT_some {xs : List T} {z : T} (h : capT xs = some z) : xs.length ≤ lim ∧ T.freeL xs = true ∧ z = .tup xs := by
  unfold capT at h
  split at h
  · rename_i q; cases h; exact ⟨q.1, q.2, rfl⟩
  · cases h
theorem capS_some {s : Str} {z : T} (h : capS s = some z) : s.length ≤ lim ∧ z = .str s := by
  unfold capS at h
  split at h
  · rename_i q; cases h; exact ⟨q, rfl⟩
  · cases h
/-! ### ints and more -/
theorem small_ok {i : Int} (h : small i = true) : -(2 ^ 64) < i ∧ i < 2 ^ 64 := by
  unfold small at h
  rw [Bool.and_eq_true, decide_eq_true_eq, decide_eq_true_eq] at h
  exact h
theorem Str.length_append (x y : Str) : (x ++ y).length = x.length + y.length := by
  show (x.cps ++ y.cps).size = _
  rw [Array.size_append]; rfl
theorem rep_flat {G : Gd} : ∀ (k : Nat) {xs : List T} {vs : List V}, RepL G Z H xs vs none_ → RepL G Z H (List.replicate k xs).flatten (List.replicate k vs).flatten none_
  | 0, _, _, _ => rfl
  | k + 1, xs, vs, h => by
    rw [List.replicate_succ, List.replicate_succ, List.flatten_cons, List.flatten_cons]
    exact RepL.app h (rep_flat k h)
theorem freeL_flat : ∀ (k : Nat) {xs : List T}, T.freeL xs = true → T.freeL (List.replicate k xs).flatten = true
  | 0, _, _ => rfl
  | k + 1, xs, h => by rw [List.replicate_succ, List.flatten_cons, freeL_append, h, freeL_flat k h]; rfl
theorem freeL_of_flat : ∀ (k : Nat) {xs : List T}, 0 < k → T.freeL (List.replicate k xs).flatten = true → T.freeL xs = true
  | 0, _, h, _ => absurd h (by decide)
  | k + 1, xs, _, h => by
    rw [List.replicate_succ, List.flatten_cons, freeL_append, Bool.and_eq_true] at h
    exact h.1
theorem o_add (hG : B.G.K = X.K) : OpR X (binaryOp .Add) (rT2 B (binT .add)) := by
  intro pins s σ H x y v u Q I rx ry ⟨Z, S1, S2, t, u', z, h1, h2, e, k⟩
  cases t with
  | int i =>
    cases u' with
    | int j =>
      cases e
      exact op_add pins s σ H x y v u Q I rx ry ⟨i, j, h1, h2, k _ H none_ (Res.same rfl)⟩
    | _ => cases e
  | str a =>
    cases u' with
    | str b =>
      have e' : capS (a ++ b) = some z := e
      obtain ⟨hl, rfl⟩ := capS_some e'
      exact op_add_str pins s σ H x y v u Q I rx ry ⟨a, b, h1, h2, by rw [← Str.length_append]; exact lim_line hl, k _ H none_ (Res.same rfl)⟩
    | _ => cases e
  | nd k1 f1 xs =>
    cases u' with
    | nd k2 f2 ys =>
      cases k1 <;> cases k2 <;> first | (cases e; done) | skip
      · have e' : capT (xs ++ ys) = some z := e
        obtain ⟨hl, hf, rfl⟩ := capT_some e'
        rw [freeL_append, Bool.and_eq_true] at hf
        obtain ⟨a, vs, S0, rfl, n1, l1⟩ := h1.tupD
        obtain ⟨b, ws, S0', rfl, n2, l2⟩ := h2.tupD
        have l1 := l1.bare xs hf.1
        have l2 := l2.bare ys hf.2
        have len1 := RepL.len xs l1
        have len2 := RepL.len ys l2
        refine op_catA pins s σ H _ _ v u Q I rx ry ⟨a, b, vs, ws, rfl, rfl, hG ▸ n1, hG ▸ n2, ?_, fun ez => ?_, fun _ ez => ?_, fun _ _ p hp => ?_⟩
        · rw [len1, len2, ← List.length_append]; exact lim_line hl
        · refine k _ H none_ (Res.same ?_)
          have : xs = [] := (RepL.nil_iff l1).mpr ez
          subst this
          refine ⟨b, ws, none_, rfl, n2, trivial, l2, ?_⟩
          unfold ndF; rw [if_pos imm_t]; exact fun _ z => z
        · refine k _ H none_ (Res.same ?_)
          have : ys = [] := (RepL.nil_iff l2).mpr ez
          subst this
          rw [List.append_nil]
          refine ⟨a, vs, none_, rfl, n1, trivial, l1, ?_⟩
          unfold ndF; rw [if_pos imm_t]; exact fun _ z => z
        · exact k _ _ none_ (Res.newT hp (RepL.app l1 l2))
      · have e' : capL (xs ++ ys) = some z := e
        obtain ⟨hl, hf, rfl⟩ := capL_some e'
        rw [freeL_append, Bool.and_eq_true] at hf
        obtain ⟨a, vs, S0, rfl, n1, l1⟩ := h1.lstD
        obtain ⟨b, ws, S0', rfl, n2, l2⟩ := h2.lstD
        have l1 := l1.bare xs hf.1
        have l2 := l2.bare ys hf.2
        refine op_cat pins s σ H _ _ v u Q I rx ry ⟨a, b, vs, ws, rfl, rfl, n1, n2, ?_, fun p hp => k _ _ _ (Res.newL hp (RepL.app l1 l2))⟩
        rw [RepL.len xs l1, RepL.len ys l2, ← List.length_append]; exact lim_line hl
    | _ => cases k1 <;> cases e
  | _ => cases e
theorem o_sub : OpR X (binaryOp .Sub) (rT2 B (binT .sub)) := by
  intro pins s σ H x y v u Q I rx ry ⟨Z, S1, S2, t, u', z, h1, h2, e, k⟩
  cases t with
  | int i =>
    cases u' with
    | int j =>
      cases e
      exact op_sub pins s σ H x y v u Q I rx ry ⟨i, j, h1, h2, k _ H none_ (Res.same rfl)⟩
    | _ => cases e
  | _ => cases e
theorem o_mul (hG : B.G.K = X.K) : OpR X (binaryOp .Mult) (rT2 B (binT .mul)) := by
  intro pins s σ H x y v u Q I rx ry ⟨Z, S1, S2, t, u', z, h1, h2, e, k⟩
  cases t with
  | int i =>
    cases u' with
    | int j =>
      have e' : (if (small i || small j) = true then some (T.int (i * j)) else none) = some z := e
      split at e'
      · rename_i hc
        cases e'
        refine op_mul pins s σ H x y v u Q I rx ry ⟨i, j, h1, h2, ?_, k _ H none_ (Res.same rfl)⟩
        rw [Bool.or_eq_true] at hc
        rcases hc with hc | hc
        · exact .inl (small_ok hc)
        · exact .inr (small_ok hc)
      · cases e'
    | _ => cases e
  | nd k1 f1 xs =>
    cases u' with
    | int m =>
      cases k1 <;> first | (cases e; done) | skip
      · have e' : (if xs ≠ [] ∧ xs.length ≤ 1000 ∧ 2 ≤ m ∧ m ≤ 1000 then capT (List.replicate m.toNat xs).flatten else none) = some z := e
        split at e'
        · rename_i hc
          obtain ⟨hl, hf, rfl⟩ := capT_some e'
          obtain ⟨a, vs, S0, rfl, n1, l1⟩ := h1.tupD
          have hf1 : T.freeL xs = true := freeL_of_flat m.toNat (by omega) hf
          have l1 := l1.bare xs hf1
          have hm : y = .int m := h2
          subst hm
          refine op_repT pins s σ H _ _ v u Q I rx ry ⟨a, m, vs, rfl, rfl, hG ▸ n1, fun ez => hc.1 ((RepL.nil_iff l1).mpr ez), hc.2.2.1, hc.2.2.2, by rw [RepL.len xs l1]; exact hc.2.1, fun p hp => k _ _ _ (Res.newT hp (rep_flat _ l1))⟩
        · cases e'
      · have e' : (if xs.length * m.toNat ≤ lim ∧ m < 2 ^ 60 ∧ -(2 ^ 60) < m then capL (List.replicate m.toNat xs).flatten else none) = some z := e
        split at e'
        · rename_i hc
          obtain ⟨hl, hf, rfl⟩ := capL_some e'
          obtain ⟨a, vs, S0, rfl, n1, l1⟩ := h1.lstD
          have hm : y = .int m := h2
          subst hm
          by_cases h0 : 0 < m.toNat
          · have hf1 : T.freeL xs = true := freeL_of_flat m.toNat h0 hf
            have l1 := l1.bare xs hf1
            refine op_rep pins s σ H _ _ v u Q I rx ry ⟨a, m, vs, rfl, rfl, n1, by omega, by omega, ?_, fun p hp => k _ _ _ (Res.newL hp (rep_flat _ l1))⟩
            rw [RepL.len xs l1]; exact lim_line hc.1
          · have h0 : m.toNat = 0 := by omega
            refine op_rep pins s σ H _ _ v u Q I rx ry ⟨a, m, vs, rfl, rfl, n1, by omega, by omega, by rw [h0]; simp, fun p hp => k _ _ _ (Res.newL hp ?_)⟩
            rw [h0]; rfl
        · cases e'
    | _ => cases k1 <;> cases e
  | _ => cases e
theorem o_fdiv : OpR X (binaryOp .FloorDiv) (rT2 B (binT .fdiv)) := by
  intro pins s σ H x y v u Q I rx ry ⟨Z, S1, S2, t, u', z, h1, h2, e, k⟩
  cases t with
  | int i =>
    cases u' with
    | int j =>
      have e' : (if 0 < j ∧ j < 1073741824 then some (T.int (i / j)) else none) = some z := e
      split at e'
      · rename_i hc
        cases e'
        exact op_fdiv pins s σ H x y v u Q I rx ry ⟨i, j, h1, h2, hc, k _ H none_ (Res.same rfl)⟩
      · cases e'
    | _ => cases e
  | _ => cases e
theorem o_mod : OpR X (binaryOp .Mod) (rT2 B (binT .mod)) := by
  intro pins s σ H x y v u Q I rx ry ⟨Z, S1, S2, t, u', z, h1, h2, e, k⟩
  cases t with
  | int i =>
    cases u' with
    | int j =>
      have e' : (if 0 < j then some (T.int (i % j)) else none) = some z := e
      split at e'
      · rename_i hc
        cases e'
        exact op_mod pins s σ H x y v u Q I rx ry ⟨i, j, h1, h2, hc, k _ H none_ (Res.same rfl)⟩
      · cases e'
    | _ => cases e
  | _ => cases e
theorem o_pow : OpR X (binaryOp .Pow) (rT2 B (binT .pow)) := by
  intro pins s σ H x y v u Q I rx ry ⟨Z, S1, S2, t, u', z, h1, h2, e, k⟩
  cases t with
  | int i =>
    cases u' with
    | int j =>
      have e' : (if 0 ≤ j ∧ j ≤ 1000 ∧ small i = true then some (T.int (i ^ j.toNat)) else none) = some z := e
      split at e'
      · rename_i hc
        cases e'
        have hs := small_ok hc.2.2
        exact op_pow pins s σ H x y v u Q I rx ry ⟨i, j, h1, h2, ⟨hc.1, by omega, by omega⟩, k _ H none_ (Res.same rfl)⟩
      · cases e'
    | _ => cases e
  | _ => cases e
/-! ### comparisons -/
theorem o_eq (hG : B.G.K = X.K) (hr : Room n X.A) : OpR X (compareOp .Eq) (rT2 B fun t u => (cmpT .eq t u).map .bl) := by
  intro pins s σ H x y v u Q I rx ry ⟨Z, S1, S2, t, u', z, h1, h2, e, k⟩
  have e' : (eqvN 30 t u').map T.bl = some z := e
  cases eb : eqvN 30 t u' with
  | none => rw [eb] at e'; cases e'
  | some b =>
    rw [eb] at e'; cases e'
    exact RcAt_at I hG (A := X.A) (by have := hr.units; omega) h1 h2 rx ry eb _ _ _ _ ⟨.bl b, H, I, rfl, k _ H none_ (Res.same rfl)⟩
theorem o_ne (hG : B.G.K = X.K) (hr : Room n X.A) : OpR X (compareOp .NotEq) (rT2 B fun t u => (cmpT .ne t u).map .bl) := by
  intro pins s σ H x y v u Q I rx ry ⟨Z, S1, S2, t, u', z, h1, h2, e, k⟩
  have e' : ((eqvN 30 t u').map (!·)).map T.bl = some z := e
  cases eb : eqvN 30 t u' with
  | none => rw [eb] at e'; cases e'
  | some b =>
    rw [eb] at e'; cases e'
    exact RcNeAt_at I hG (A := X.A) (by have := hr.units; omega) h1 h2 rx ry eb _ _ _ _ ⟨.bl (!b), H, I, rfl, k _ H none_ (Res.same rfl)⟩
theorem o_int {o : CmpOp} {op : CP} {g : Int → Int → Bool} (ho : OpR X (compareOp o) (rI0 fun i j => .bl (g i j))) (hg : ∀ i j, cmpT op (.int i) (.int j) = some (g i j)) (hn : ∀ t u b, cmpT op t u = some b → ∃ i j, t = .int i ∧ u = .int j) : OpR X (compareOp o) (rT2 B fun t u => (cmpT op t u).map .bl) := by
  intro pins s σ H x y v u Q I rx ry ⟨Z, S1, S2, t, u', z, h1, h2, e, k⟩
  dsimp only at e
  cases eb : cmpT op t u' with
  | none => rw [eb] at e; cases e
  | some b =>
    obtain ⟨i, j, rfl, rfl⟩ := hn t u' b eb
    rw [hg] at e
    cases e
    exact ho pins s σ H x y v u Q I rx ry ⟨i, j, h1, h2, k _ H none_ (Res.same rfl)⟩
theorem o_lt : OpR X (compareOp .Lt) (rT2 B fun t u => (cmpT .lt t u).map .bl) := o_int op_lt (fun _ _ => rfl) fun t u b e => by cases t <;> cases u <;> first | (cases e; done) | exact ⟨_, _, rfl, rfl⟩
theorem o_le : OpR X (compareOp .LtE) (rT2 B fun t u => (cmpT .le t u).map .bl) := o_int op_le (fun _ _ => rfl) fun t u b e => by cases t <;> cases u <;> first | (cases e; done) | exact ⟨_, _, rfl, rfl⟩
theorem o_gt : OpR X (compareOp .Gt) (rT2 B fun t u => (cmpT .gt t u).map .bl) := o_int op_gt (fun _ _ => rfl) fun t u b e => by cases t <;> cases u <;> first | (cases e; done) | exact ⟨_, _, rfl, rfl⟩
theorem o_ge : OpR X (compareOp .GtE) (rT2 B fun t u => (cmpT .ge t u).map .bl) := o_int op_ge (fun _ _ => rfl) fun t u b e => by cases t <;> cases u <;> first | (cases e; done) | exact ⟨_, _, rfl, rfl⟩
theorem isN_val {t : T} {b : Bool} {G : Gd} {x : V} (h : Rep G Z H t x S) {u : T} (e : cmpT .isN t u = some b) : (u = .non ∧ b = decide (x = .non)) ∨ ∃ p q, t = .bl p ∧ u = .bl q ∧ b = decide (p = q) := by
  cases t <;> cases u <;> first
    | (cases e; done)
    | (cases e; exact .inr ⟨_, _, rfl, rfl, rfl⟩)
    | (cases e; refine .inl ⟨rfl, ?_⟩; have h' := h; first
        | (rw [show x = _ from h']; rfl)
        | (obtain ⟨a, vs, S0, rfl, _⟩ := h'; rfl))
theorem o_isN : OpR X (compareOp .Is) (rT2 B fun t u => (cmpT .isN t u).map .bl) := by
  intro pins s σ H x y v u Q I rx ry ⟨Z, S1, S2, t, u', z, h1, h2, e, k⟩
  dsimp only at e
  cases eb : cmpT .isN t u' with
  | none => rw [eb] at e; cases e
  | some b =>
    rw [eb] at e; cases e
    rcases isN_val h1 eb with ⟨rfl, rfl⟩ | ⟨p, q, rfl, rfl, rfl⟩
    · exact op_isN pins s σ H x y v u Q I rx ry ⟨h2, k _ H none_ (Res.same rfl)⟩
    · exact op_is_bl pins s σ H x y v u Q I rx ry ⟨p, q, h1, h2, k _ H none_ (Res.same rfl)⟩
theorem notN_isN {t u : T} : cmpT .notN t u = (cmpT .isN t u).map (!·) := by
  cases t <;> cases u <;> rfl
theorem o_notN : OpR X (compareOp .IsNot) (rT2 B fun t u => (cmpT .notN t u).map .bl) := by
  intro pins s σ H x y v u Q I rx ry ⟨Z, S1, S2, t, u', z, h1, h2, e, k⟩
  dsimp only at e
  rw [notN_isN] at e
  cases eb : cmpT .isN t u' with
  | none => rw [eb] at e; cases e
  | some b =>
    rw [eb] at e; cases e
    rcases isN_val h1 eb with ⟨rfl, rfl⟩ | ⟨p, q, rfl, rfl, rfl⟩
    · exact op_notN pins s σ H x y v u Q I rx ry ⟨h2, k _ H none_ (Res.same rfl)⟩
    · exact op_isnot_bl pins s σ H x y v u Q I rx ry ⟨p, q, h1, h2, k _ H none_ (Res.same rfl)⟩
end
end TI
end
section
set_option maxHeartbeats 400000
/-! TS7: truth, and, or, not, one of two; subscripts, slices. -/
namespace TI
open PySem L2
section
variable {B : Bs} {X : Cx} {sc : List (Str × NameKind)} {n : Nat} {lc pn : List Nat} {Y : Sa} {env env1 env2 : Env} {σ : St} {H H1 H2 H' : Hp} {F F1 F2 Z Z1 Z2 S S1 S2 : Sa} {α β γ δ : Type}
theorem OQ.mono {VR : α → β → Sa → Sa → Hp → Prop} {o : Out α} {Q Q' : β → Hp → Prop} (h : OQ B lc Y env σ F Z H VR o Q) (k : ∀ b H, Q b H → Q' b H) : OQ B lc Y env σ F Z H VR o Q' := by
  cases o with
  | ok a e => exact fun b H' F' Z' S a q => k b H' (h b H' F' Z' S a q)
  | err c xs e => exact h
  | stuck => exact h
theorem tG.mono {VR : St → γ → δ → Sa → Sa → Hp → Prop} {ev : Ek → Env → Out γ} {Q Q' : δ → Hp → Prop} (h : tG B VR ev σ H Q) (k : ∀ b H, Q b H → Q' b H) : tG B VR ev σ H Q' := by
  obtain ⟨lc, pn, Y, env, F, Z, r, h⟩ := h
  exact ⟨lc, pn, Y, env, F, Z, r, h.mono k⟩
/-- behind what is at hand, something of a new state -/
theorem tG.again {VR : α → β → Sa → Sa → Hp → Prop} {VR' : St → γ → δ → Sa → Sa → Hp → Prop} {ev : Ek → Env → Out γ} {f : γ → Env → Out α} {Q : β → Hp → Prop} {Q2 : δ → Hp → Prop}
    (a : Aft B.G lc Y env σ F Z H env1 σ F1 Z1 H1 S1) (h : OQ B lc Y env σ F Z H VR ((ev (B.k lc pn) env1).bind f) Q)
    (k : ∀ (x : γ) (e2 : Env) (w : δ) (H2 : Hp) (F2 Z2 S2 : Sa), Aft B.G lc Y env σ F Z H e2 σ F2 Z2 H2 S2 → VR' σ x w S2 Z2 H2 → OQ B lc Y env σ F Z H VR (f x e2) Q → Q2 w H2) :
    tG B VR' ev σ H1 Q2 := by
  refine ⟨lc, pn, Y, env1, F1, Z1, a.r, ?_⟩
  cases eo : ev (B.k lc pn) env1 with
  | stuck => rw [eo] at h; exact h
  | ok x e2 =>
    rw [eo] at h
    exact fun w H2 F2 Z2 S2 b q => k x e2 w H2 F2 Z2 S2 ((a.step b).1.less fun _ z => .inr z) q h
  | err c xs e2 =>
    rw [eo] at h
    exact fun cls d H2 F2 Z2 b q => h cls d H2 F2 Z2 ((a.step b).1.less fun _ z => z.elim) q
/-- the last part of a step: the same, with nothing behind -/
theorem tG.last {VR : α → β → Sa → Sa → Hp → Prop} {VR' : St → α → β → Sa → Sa → Hp → Prop} {ev : Ek → Env → Out α} {Q : β → Hp → Prop}
    (a : Aft B.G lc Y env σ F Z H env1 σ F1 Z1 H1 S1) (hV : VR' σ = VR) (h : OQ B lc Y env σ F Z H VR (ev (B.k lc pn) env1) Q) : tG B VR' ev σ H1 Q := by
  have h' : OQ B lc Y env σ F Z H VR ((ev (B.k lc pn) env1).bind fun x e => .ok x e) Q := by
    cases eo : ev (B.k lc pn) env1 with
    | stuck => rw [eo] at h; exact h
    | ok x e2 => rw [eo] at h; exact h
    | err c xs e2 => rw [eo] at h; exact h
  exact tG.again a h' fun x e2 w H2 F2 Z2 S2 b q k => k w H2 F2 Z2 S2 b (hV ▸ q)
/-! ### truth -/
theorem tru_rep {G : Gd} {K : PySem.W.Frag} (hG : G.K = K) {t : T} {v : V} {b : Bool} (h : Rep G Z H t v S) (e : truT t = some b) : TruV K v H b := by
  cases t with
  | hole => cases e
  | non => cases e; rw [show v = .non from h]; rfl
  | bl c => cases e; rw [show v = .bl _ from h]; rfl
  | int i => cases e; rw [show v = .int i from h]; rfl
  | str s =>
    have e' : (if s.length ≤ lim then some ((s.length : Int) != 0) else none) = some b := e
    split at e'
    · rename_i hl
      cases e'
      rw [show v = .str s from h]
      exact ⟨lim_line hl, rfl⟩
    · cases e'
  | nd k f xs =>
    cases k with
    | tup =>
      cases e
      obtain ⟨a, vs, S0, rfl, n, l⟩ := h.tupD
      refine .inr (.inl ⟨vs, hG ▸ n, ?_⟩)
      have := RepL.len xs l
      cases xs <;> cases vs <;> simp at this <;> rfl
    | lst =>
      cases e
      obtain ⟨a, vs, S0, rfl, n, l⟩ := h.lstD
      refine .inl ⟨vs, .inl (.inl n), ?_⟩
      have := RepL.len xs l
      cases xs <;> cases vs <;> simp at this <;> rfl
    | _ => cases e
theorem tru_at {f : Bool → Env → Out α} {VR : α → β → Sa → Sa → Hp → Prop} {Q : β → Hp → Prop} {rv : RV} {v : V} (hG : B.G.K = X.K) (a : Aft B.G lc Y env σ F Z H env1 σ F1 Z1 H1 S1) (q : RepRV B.G σ Z1 H1 rv v S1)
    (h : OQ B lc Y env σ F Z H VR ((match lookR env1 rv with | some t => lift (truT t) env1 | none => Out.stuck).bind f) Q) : ∃ k, TruV X.K v H1 k ∧ OQ B lc Y env σ F Z H VR (f k env1) Q := by
  cases el : lookR env1 rv with
  | none => rw [el] at h; exact h.elim
  | some t =>
    rw [el] at h
    dsimp only at h
    cases et : truT t with
    | none => rw [et] at h; exact h.elim
    | some k =>
      rw [et] at h
      obtain ⟨T1, r1, _⟩ := look_rep a.r q el
      exact ⟨k, tru_rep hG r1 et, h⟩
theorem OQ_id {VR : α → β → Sa → Sa → Hp → Prop} {o : Out α} {Q : β → Hp → Prop} (h : OQ B lc Y env σ F Z H VR o Q) : OQ B lc Y env σ F Z H VR (o.bind fun x e => .ok x e) Q := by
  cases o with
  | ok a e => exact h
  | err c xs e => exact h
  | stuck => exact h
/-- a test is its value's truth -/
theorem b_truth {c : C} (hG : B.G.K = X.K) (hc : (ev c).b = truR (ev c).r) {Q : Bool → Hp → Prop} (h : tB B c σ H Q) : tR B c σ H fun v H' => ∃ k, TruV X.K v H' k ∧ Q k H' := by
  obtain ⟨lc, pn, Y, env, F, Z, r, h⟩ := h
  have h1 : OQ B lc Y env σ F Z H VRb ((evR (B.k lc pn) c env).bind fun x e => match lookR e x with | some t => lift (truT t) e | none => .stuck) Q := by
    have h2 : OQ B lc Y env σ F Z H VRb ((ev c).b (B.k lc pn) env) Q := h
    rw [hc] at h2
    exact h2
  refine ⟨lc, pn, Y, env, F, Z, r, OQ.bind h1 fun rv e1 v H1 F1 Z1 S1 _ a1 q1 h2 => ?_⟩
  obtain ⟨k, tk, h3⟩ := tru_at (f := fun x e => .ok x e) hG a1 q1 (OQ_id h2)
  exact ⟨k, tk, h3 k H1 F1 Z1 none_ (a1.less fun _ z => z.elim) rfl⟩
theorem s_truth {e : Expr} {c : C} (hG : B.G.K = X.K) (hc : (ev c).b = truR (ev c).r) (h : PE X e (tR B c)) (he : ∀ whole, isTrue e X.env whole = (do let v ← whole; standAt e.pos; holding [v] (truthy v))) : PT X e (tB B c) :=
  (pt_truth h he).tim fun _ _ _ w => b_truth hG hc w
theorem s_cmpB {op : CP} {o : CmpOp} {x y : Expr} {a b : C} {pos : Pos} (hG : B.G.K = X.K) (ho : OpR X (compareOp o) (rT2 B fun t u => (cmpT op t u).map .bl)) (ha : PE X x (tR B a)) (hb : PE X y (tR B b)) (hm : behindInMarks o y = false) : PT X (.Compare x [o] [y] pos) (tB B (.cmp op a b)) := by
  refine (pt_cmpR ho ha hb hm).tim fun σ H Q w => ?_
  have h1 := s_two (f := fun t u => (cmpT op t u).map .bl) rfl (b_truth hG (c := .cmp op a b) rfl w)
  refine tG.mono h1 fun v H1 h2 => tG.mono h2 fun v2 H2 h3 => ?_
  obtain ⟨Z, S1, S2, t, u, z, r1, r2, e, k⟩ := h3
  refine ⟨Z, S1, S2, t, u, z, r1, r2, e, fun v3 H3 S3 rs => ?_⟩
  obtain ⟨k', tk, q⟩ := k v3 H3 S3 rs
  dsimp only at e
  cases eb : cmpT op t u with
  | none => rw [eb] at e; cases e
  | some b' =>
    rw [eb] at e; cases e
    have hv : v3 = .bl b' := rs.rep
    subst hv
    have tk' : k' = b' := tk
    subst tk'
    exact ⟨k', rfl, q⟩
/-! ### not, and, or -/
theorem s_notv {e : Expr} {c : C} {pos : Pos} (hG : B.G.K = X.K) (h : PE X e (tR B c)) : PE X (.UnaryOp .Not e pos) (tR B (.notv c)) := by
  refine (pe_notT h).tim fun σ H Q ⟨lc, pn, Y, env, F, Z, r, h⟩ => ⟨lc, pn, Y, env, F, Z, r, ?_⟩
  have h0 : OQ B lc Y env σ F Z H (VR1 B.G σ) (((evR (B.k lc pn) c env).bind fun x e => match lookR e x with | some t => lift (truT t) e | none => .stuck).bind fun b e => .ok (.tmp (.bl (!b))) e) Q := h
  have h1 : OQ B lc Y env σ F Z H (VR1 B.G σ) ((evR (B.k lc pn) c env).bind fun x e => (match lookR e x with | some t => lift (truT t) e | none => .stuck).bind fun b e => .ok (.tmp (.bl (!b))) e) Q := by
    cases eo : evR (B.k lc pn) c env with
    | ok a e => rw [eo] at h0; exact h0
    | err c xs e => rw [eo] at h0; exact h0
    | stuck => rw [eo] at h0; exact h0
  refine OQ.bind h1 fun rv e1 v H1 F1 Z1 S1 _ a1 q1 h2 => ?_
  obtain ⟨k, tk, h3⟩ := tru_at hG a1 q1 h2
  exact ⟨k, tk, h3 (.bl (!k)) H1 F1 Z1 none_ (a1.less fun _ z => z.elim) rfl⟩
theorem s_notB {e : Expr} {c : C} {pos : Pos} (h : PT X e (tB B c)) : PT X (.UnaryOp .Not e pos) (tB B (.notv c)) := by
  refine (pt_not h).tim fun σ H Q ⟨lc, pn, Y, env, F, Z, r, h⟩ => ⟨lc, pn, Y, env, F, Z, r, ?_⟩
  have h1 : OQ B lc Y env σ F Z H VRb ((evB (B.k lc pn) c env).bind fun b e => .ok (!b) e) Q := h
  refine OQ.bind h1 fun b e1 b' H1 F1 Z1 S1 _ a1 q1 h2 => ?_
  have q1' : b = b' := q1
  subst q1'
  exact h2 (!b) H1 F1 Z1 S1 a1 rfl
theorem s_and {x y : Expr} {rest : List Expr} {a b : C} {pos : Pos} (ha : PE X x (tR B a)) (hb : PE X (.BoolOp .And (y :: rest) pos) (tR B b)) : PE X (.BoolOp .And (x :: y :: rest) pos) (tR B (.andv a b)) := by
  refine (pe_and ha hb).tim fun σ H Q ⟨lc, pn, Y, env, F, Z, r, h⟩ => ⟨lc, pn, Y, env, F, Z, r, ?_⟩
  have h1 : OQ B lc Y env σ F Z H (VR1 B.G σ) ((evR (B.k lc pn) a env).bind fun x e => match x with
      | .tmp (.bl c) => if c = true then evR (B.k lc pn) b e else .ok (.tmp (.bl false)) e
      | _ => .stuck) Q := h
  refine OQ.bind h1 fun rv e1 v H1 F1 Z1 S1 _ a1 q1 h2 => ?_
  cases rv with
  | plc i p => exact h2.elim
  | tmp t =>
    cases t with
    | bl c =>
      refine ⟨c, q1, ?_⟩
      dsimp only at h2
      cases c with
      | true => exact tG.last (VR' := VR1 B.G) (ev := fun K env => evR K b env) a1 rfl h2
      | false => exact h2 (.bl false) H1 F1 Z1 none_ (a1.less fun _ z => z.elim) rfl
    | _ => exact h2.elim
theorem s_or {x y : Expr} {rest : List Expr} {a b : C} {pos : Pos} (ha : PE X x (tR B a)) (hb : PE X (.BoolOp .Or (y :: rest) pos) (tR B b)) : PE X (.BoolOp .Or (x :: y :: rest) pos) (tR B (.orv a b)) := by
  refine (pe_or ha hb).tim fun σ H Q ⟨lc, pn, Y, env, F, Z, r, h⟩ => ⟨lc, pn, Y, env, F, Z, r, ?_⟩
  have h1 : OQ B lc Y env σ F Z H (VR1 B.G σ) ((evR (B.k lc pn) a env).bind fun x e => match x with
      | .tmp (.bl c) => if c = true then .ok (.tmp (.bl true)) e else evR (B.k lc pn) b e
      | _ => .stuck) Q := h
  refine OQ.bind h1 fun rv e1 v H1 F1 Z1 S1 _ a1 q1 h2 => ?_
  cases rv with
  | plc i p => exact h2.elim
  | tmp t =>
    cases t with
    | bl c =>
      refine ⟨c, q1, ?_⟩
      dsimp only at h2
      cases c with
      | false => exact tG.last (VR' := VR1 B.G) (ev := fun K env => evR K b env) a1 rfl h2
      | true => exact h2 (.bl true) H1 F1 Z1 none_ (a1.less fun _ z => z.elim) rfl
    | _ => exact h2.elim
theorem PW.tim {e : Expr} {t t' : TT} (h : PW X e t) (k : ∀ σ H Q, t' σ H Q → t σ H Q) : PW X e t' := ⟨fun wh pins s σ H Q I w => h.run wh pins s σ H Q I (k σ H Q w)⟩
theorem PW.pt {e : Expr} {t : TT} (h : PW X e t) : PT X e t := ⟨fun pins s σ H Q I w => h.run _ pins s σ H Q I w⟩
theorem s_andB {x y : Expr} {rest : List Expr} {a b : C} {pos : Pos} (ha : PT X x (tB B a)) (hb : PW X (.BoolOp .And (y :: rest) pos) (tB B b)) : PW X (.BoolOp .And (x :: y :: rest) pos) (tB B (.andv a b)) := by
  refine PW.tim (pw_and ha hb) fun σ H Q ⟨lc, pn, Y, env, F, Z, r, h⟩ => ⟨lc, pn, Y, env, F, Z, r, ?_⟩
  have h1 : OQ B lc Y env σ F Z H VRb ((evB (B.k lc pn) a env).bind fun c e => if c = true then evB (B.k lc pn) b e else .ok false e) Q := h
  refine OQ.bind h1 fun c e1 c' H1 F1 Z1 S1 _ a1 q1 h2 => ?_
  have q1' : c = c' := q1
  subst q1'
  cases c with
  | true => exact tG.last (VR' := fun _ => VRb) (ev := fun K env => evB K b env) a1 rfl h2
  | false => exact h2 false H1 F1 Z1 S1 a1 rfl
theorem s_orB {x y : Expr} {rest : List Expr} {a b : C} {pos : Pos} (ha : PT X x (tB B a)) (hb : PW X (.BoolOp .Or (y :: rest) pos) (tB B b)) : PW X (.BoolOp .Or (x :: y :: rest) pos) (tB B (.orv a b)) := by
  refine PW.tim (pw_or ha hb) fun σ H Q ⟨lc, pn, Y, env, F, Z, r, h⟩ => ⟨lc, pn, Y, env, F, Z, r, ?_⟩
  have h1 : OQ B lc Y env σ F Z H VRb ((evB (B.k lc pn) a env).bind fun c e => if c = true then .ok true e else evB (B.k lc pn) b e) Q := h
  refine OQ.bind h1 fun c e1 c' H1 F1 Z1 S1 _ a1 q1 h2 => ?_
  have q1' : c = c' := q1
  subst q1'
  cases c with
  | true => exact h2 true H1 F1 Z1 S1 a1 rfl
  | false => exact tG.last (VR' := fun _ => VRb) (ev := fun K env => evB K b env) a1 rfl h2
/-! ### one of two -/
theorem s_ife {c x y : Expr} {t a b : C} {pos : Pos} (hc : PT X c (tB B t)) (ha : PE X x (tR B a)) (hb : PE X y (tR B b)) : PE X (.IfExp c x y pos) (tR B (.ife t a b)) := by
  refine (pe_ifExp hc ha hb).tim fun σ H Q ⟨lc, pn, Y, env, F, Z, r, h⟩ => ⟨lc, pn, Y, env, F, Z, r, ?_⟩
  have h1 : OQ B lc Y env σ F Z H (VR1 B.G σ) ((evB (B.k lc pn) t env).bind fun c e => if c = true then evR (B.k lc pn) a e else evR (B.k lc pn) b e) Q := h
  refine OQ.bind h1 fun c e1 c' H1 F1 Z1 S1 _ a1 q1 h2 => ?_
  have q1' : c = c' := q1
  subst q1'
  cases c with
  | true => exact tG.last (VR' := VR1 B.G) (ev := fun K env => evR K a env) a1 rfl h2
  | false => exact tG.last (VR' := VR1 B.G) (ev := fun K env => evR K b env) a1 rfl h2
theorem s_ifeB {c x y : Expr} {t a b : C} {pos : Pos} (hc : PT X c (tB B t)) (ha : PT X x (tB B a)) (hb : PT X y (tB B b)) : PT X (.IfExp c x y pos) (tB B (.ife t a b)) := by
  refine ⟨fun pins s σ H Q I ⟨lc, pn, Y, env, F, Z, r, h⟩ => ?_⟩
  have h1 : OQ B lc Y env σ F Z H VRb ((evB (B.k lc pn) t env).bind fun c e => if c = true then evB (B.k lc pn) a e else evB (B.k lc pn) b e) Q := h
  refine PyProof.Rows.isTrue_IfExp (thn (hc.run pins s σ H _ I ⟨lc, pn, Y, env, F, Z, r, OQ.bind (Q1 := fun c H1 => if c = true then tB B a σ H1 Q else tB B b σ H1 Q) h1 fun c e1 c' H1 F1 Z1 S1 _ a1 q1 h2 => ?_⟩) fun d s1 ⟨H1, I1, q1⟩ => ?_)
  · have q1' : c = c' := q1
    subst q1'
    cases c with
    | true => exact tG.last (VR' := fun _ => VRb) (ev := fun K env => evB K a env) a1 rfl h2
    | false => exact tG.last (VR' := fun _ => VRb) (ev := fun K env => evB K b env) a1 rfl h2
  · cases d with
    | true => exact ha.run pins s1 σ H1 Q I1 q1
    | false => exact hb.run pins s1 σ H1 Q I1 q1
end
end TI
end
section
set_option maxHeartbeats 400000
/-! TS8: chains, subscripts, slices, built-in functions, methods of texts. -/
namespace TI
open PySem L2
section
variable {B : Bs} {X : Cx} {sc : List (Str × NameKind)} {n : Nat} {lc pn : List Nat} {Y : Sa} {env env1 env2 : Env} {σ : St} {H H1 H2 H' : Hp} {F F1 F2 Z Z1 Z2 S S1 S2 : Sa} {α β γ δ : Type}
/-! ### a < b < c -/
theorem s_chain0 {op op' : CP} {a b c : C} {Q : VK} (hw : tR B (.chain op op' a b c) σ H Q) : tChain (rT2 B fun t u => (cmpT op t u).map .bl) (rT2 B fun t u => (cmpT op' t u).map .bl) (tR B a) (tR B b) (tR B c) σ H Q := by
  obtain ⟨lc, pn, Y, env, F, Z, r, h⟩ := hw
  refine ⟨lc, pn, Y, env, F, Z, r, ?_⟩
  have h1 : OQ B lc Y env σ F Z H (VR1 B.G σ) ((evR (B.k lc pn) a env).bind fun x e => ((B.k lc pn).withP e x fun K => evR K b e).bind fun y e => match x, y with
    | .tmp t, .tmp u => if u.free = false then .stuck else (lift (cmpT op t u) e).bind fun z e => if z = true then (evR (B.k lc pn) c e).bind fun w e => (match w with
        | .tmp v => (lift (cmpT op' u v) e).bind fun z e => .ok (.tmp (.bl z)) e
        | _ => .stuck) else .ok (.tmp (.bl false)) e
    | _, _ => .stuck) Q := h
  refine OQ.bind h1 fun rv e1 v H1 F1 Z1 S1 _ a1 q1 h2 => ?_
  refine second a1 q1 h2 fun rw' e2 w H2 F2 Z2 S2 b q1' q2 h3 => ?_
  obtain ⟨ab, d⟩ := a1.step b
  cases rv with
  | plc _ _ => exact h3.elim
  | tmp t =>
    cases rw' with
    | plc _ _ => exact h3.elim
    | tmp u =>
      dsimp only at h3
      by_cases uf : u.free = false
      · rw [if_pos uf] at h3; exact h3.elim
      · rw [if_neg uf] at h3
        have uf' : u.free = true := by cases q : u.free <;> simp_all
        cases eb : cmpT op t u with
        | none => rw [eb] at h3; exact h3.elim
        | some k =>
          rw [eb] at h3
          have h4 : OQ B lc Y env σ F Z H (VR1 B.G σ) (if k = true then (evR (B.k lc pn) c e2).bind fun w e => (match w with
            | .tmp v => (lift (cmpT op' u v) e).bind fun z e => Out.ok (.tmp (.bl z)) e
            | _ => .stuck) else .ok (.tmp (.bl false)) e2) Q := h3
          refine ⟨Z2, S1, S2, t, u, .bl k, q1', q2, by dsimp only; rw [eb]; rfl, fun v' H' S' rs => ⟨k, rs.rep, ?_⟩⟩
          have ac := ab.res rs
          cases k with
          | false =>
            rw [if_neg (by decide)] at h4 ⊢
            exact h4 (.bl false) H' F2 Z2 none_ (ac.less fun _ z => z.elim) rfl
          | true =>
            rw [if_pos rfl] at h4 ⊢
            have qu : Rep B.G Z2 H' u w none_ := (q2.bare u uf').grow rs.keep
            have ac0 := ac.less (S2 := none_) fun _ z => z.elim
            refine second (rv := .tmp u) (ev := fun K e => evR K c e) (VR' := VR1 B.G) ac0 qu h4 fun x3 e3 w3 H3 F3 Z3 S3 b3 q3' q3 h5 => ?_
            cases x3 with
            | plc _ _ => exact h5.elim
            | tmp v3 =>
              dsimp only at h5
              cases eb' : cmpT op' u v3 with
              | none => rw [eb'] at h5; exact h5.elim
              | some k' =>
                rw [eb'] at h5
                refine ⟨Z3, none_, S3, u, v3, .bl k', q3', q3, by dsimp only; rw [eb']; rfl, fun v4 H4 S4 rs4 => ?_⟩
                have hv : v4 = .bl k' := rs4.rep
                subst hv
                exact h5 (.bl k') H4 F3 Z3 S4 ((ac0.step b3).1.res rs4) rs4.rep
theorem s_chain {op op' : CP} {o o' : CmpOp} {x y z : Expr} {a b c : C} {pos : Pos} (ho : OpR X (compareOp o) (rT2 B fun t u => (cmpT op t u).map .bl)) (ho' : OpR X (compareOp o') (rT2 B fun t u => (cmpT op' t u).map .bl))
    (ha : PE X x (tR B a)) (hb : PE X y (tR B b)) (hc : PE X z (tR B c)) (hm : lastMarks [o, o'] [y, z] = false) : PE X (.Compare x [o, o'] [y, z] pos) (tR B (.chain op op' a b c)) :=
  (pe_chain ho ho' ha hb hc hm).tim fun σ H Q h => s_chain0 h
theorem rT2_bl {op : CP} {x y : V} {H : Hp} {Q : VK} {K : PySem.W.Frag} {R : Bool → Hp → Prop} (h : rT2 B (fun t u => (cmpT op t u).map .bl) x y H fun v H' => ∃ k, TruV K v H' k ∧ R k H') : rT2 B (fun t u => (cmpT op t u).map .bl) x y H fun v H' => ∃ k, v = .bl k ∧ R k H' := by
  obtain ⟨Z, S1, S2, t, u, z, r1, r2, e, k⟩ := h
  refine ⟨Z, S1, S2, t, u, z, r1, r2, e, fun v3 H3 S3 rs => ?_⟩
  obtain ⟨k', tk, q⟩ := k v3 H3 S3 rs
  dsimp only at e
  cases eb : cmpT op t u with
  | none => rw [eb] at e; cases e
  | some b' =>
    rw [eb] at e; cases e
    have hv : v3 = .bl b' := rs.rep
    subst hv
    have tk' : k' = b' := tk
    subst tk'
    exact ⟨k', rfl, q⟩
theorem rT2_mono {f : T → T → Option T} {x y : V} {H : Hp} {Q Q' : VK} (h : rT2 B f x y H Q) (k : ∀ v H, Q v H → Q' v H) : rT2 B f x y H Q' := by
  obtain ⟨Z, S1, S2, t, u, z, r1, r2, e, w⟩ := h
  exact ⟨Z, S1, S2, t, u, z, r1, r2, e, fun v3 H3 S3 rs => k _ _ (w v3 H3 S3 rs)⟩
theorem s_chainB {op op' : CP} {o o' : CmpOp} {x y z : Expr} {a b c : C} {pos : Pos} (hG : B.G.K = X.K) (ho : OpR X (compareOp o) (rT2 B fun t u => (cmpT op t u).map .bl)) (ho' : OpR X (compareOp o') (rT2 B fun t u => (cmpT op' t u).map .bl))
    (ha : PE X x (tR B a)) (hb : PE X y (tR B b)) (hc : PE X z (tR B c)) (hm : lastMarks [o, o'] [y, z] = false) : PT X (.Compare x [o, o'] [y, z] pos) (tB B (.chain op op' a b c)) := by
  refine (pt_chain ho ho' ha hb hc hm).tim fun σ H Q w => ?_
  have h1 := s_chain0 (b_truth hG (c := .chain op op' a b c) rfl w)
  refine tG.mono h1 fun v H1 h2 => tG.mono h2 fun v2 H2 h3 => rT2_mono h3 fun z H3 ⟨kk, ez, h4⟩ => ⟨kk, ez, ?_⟩
  cases kk with
  | true => exact tG.mono h4 fun w' H4 h5 => rT2_bl (Q := fun _ _ => True) h5
  | false =>
    obtain ⟨k', tk, q⟩ := h4
    have tk' : k' = false := tk
    subst tk'
    exact ⟨false, rfl, q⟩
theorem look_rep' {G : Gd} {rv : RV} {v : V} {S : Sa} {t : T} (r : R G lc Y env σ H F Z) (q : RepRV G σ Z H rv v S) (e : lookR env rv = some t) : ∃ S', Rep G Z H t v S' ∧ ((∃ t', rv = .tmp t') → ∀ a, S' a → S a) := by
  cases rv with
  | tmp x => cases e; exact ⟨S, q, fun _ _ z => z⟩
  | plc i p =>
    obtain ⟨S', q', _⟩ := look_rep r q e
    exact ⟨S', q', fun ⟨_, z⟩ => nomatch z⟩
/-! ### a[i] -/
theorem ixNat_ixN (n : Nat) (i : Int) : ixNat n i = ixN n i := rfl
theorem s_ix {x y : Expr} {a b : C} {pos : Pos} (hG : B.G.K = X.K) (ha : PE X x (tR B a)) (hb : PE X y (tR B b)) (hs : PlainIx y) : PE X (.Subscript x y pos) (tR B (.ix a b)) := by
  refine (pe_ix ix_seq ha hb hs).tim fun σ H Q ⟨lc, pn, Y, env, F, Z, r, h⟩ => ⟨lc, pn, Y, env, F, Z, r, ?_⟩
  have h1 : OQ B lc Y env σ F Z H (VR1 B.G σ) ((evR (B.k lc pn) a env).bind fun x e => ((B.k lc pn).withP e x fun K => evR K b e).bind fun y e => match lookR e x, y with
    | some t, .tmp u => (lift (ixR x t u) e).bind fun z e => .ok z e
    | _, _ => .stuck) Q := h
  refine OQ.bind h1 fun rv e1 v H1 F1 Z1 S1 _ a1 q1 h2 => ?_
  refine second a1 q1 h2 fun rw' e2 w H2 F2 Z2 S2 b q1' q2 h3 => ?_
  obtain ⟨ab, d⟩ := a1.step b
  cases el : lookR e2 rv with
  | none => rw [el] at h3; exact h3.elim
  | some t =>
    rw [el] at h3
    cases rw' with
    | plc _ _ => exact h3.elim
    | tmp u =>
      dsimp only at h3
      cases ex : ixR rv t u with
      | none => rw [ex] at h3; exact h3.elim
      | some z =>
        rw [ex] at h3
        have h4 : OQ B lc Y env σ F Z H (VR1 B.G σ) (.ok z e2) Q := h3
        obtain ⟨T1, r1, hT⟩ := look_rep' ab.r q1' el
        cases t with
        | str s =>
          cases u with
          | int i =>
            have e' : (match ixNat s.cps.toList.length i with
              | some j => match s.cps.toList[j]? with
                | some c => if s.length ≤ lim then some (RV.tmp (.str ⟨#[c]⟩)) else none
                | none => none
              | none => none) = some z := ex
            cases ej : ixNat s.cps.toList.length i with
            | none => rw [ej] at e'; cases e'
            | some j =>
              rw [ej] at e'
              dsimp only at e'
              cases ec : s.cps.toList[j]? with
              | none => rw [ec] at e'; cases e'
              | some c =>
                rw [ec] at e'
                dsimp only at e'
                split at e'
                · rename_i hl
                  cases e'
                  refine .inr (.inr ⟨s, i, c, r1, q2, lim_line hl, ?_, ?_⟩)
                  · unfold atI; rw [← ixNat_ixN, ej]; exact ec
                  · exact h4 _ H2 F2 Z2 none_ (ab.less fun _ z => z.elim) rfl
                · cases e'
          | _ => cases ex
        | nd k f xs =>
          have key : ∀ (i : Int), u = .int i → (k = .lst ∨ k = .tup ∨ k = .scr) → kidF rv xs i = some z → ∀ (p : Addr) (vs : List V) (S0 : Sa), v = .ref p → RepL B.G Z2 H2 xs vs S0 → (∀ y, S0 y → T1 y) → ∃ cv, atI vs i = some cv ∧ Q cv H2 := by
            intro i hu hk ek p vs S0 hv hl hS0
            unfold kidF at ek
            cases ej : ixNat xs.length i with
            | none => rw [ej] at ek; cases ek
            | some j =>
              rw [ej] at ek
              dsimp only at ek
              cases ec : xs[j]? with
              | none => rw [ec] at ek; cases ek
              | some c =>
                rw [ec] at ek
                dsimp only at ek
                obtain ⟨cv, Sj, Sr, ev', qc, hj1, _⟩ := RepL.at_ xs hl ec
                refine ⟨cv, by unfold atI; rw [RepL.len xs hl, ← ixNat_ixN, ej]; exact ev', ?_⟩
                by_cases cf : c.free = true
                · rw [if_pos cf] at ek; cases ek
                  exact h4 cv H2 F2 Z2 none_ (ab.less fun _ z => z.elim) (qc.bare c cf)
                · rw [if_neg cf] at ek
                  cases rv with
                  | plc _ _ => cases ek
                  | tmp t' =>
                    cases ek
                    exact h4 cv H2 F2 Z2 Sj (ab.less fun y z => .inl (hT ⟨_, rfl⟩ y (hS0 y (hj1 y z)))) qc
          cases u with
          | int i =>
            have qw : w = .int i := q2
            cases k with
            | lst =>
              obtain ⟨p, vs, S0, rfl, hn, hk, hl, hF⟩ := r1
              unfold ndF at hF
              rw [if_neg (fun q => nomatch q)] at hF
              have hS0 : ∀ y, S0 y → T1 y := by
                split at hF
                · exact hF.2.2
                · exact fun y z => (hF.2 y z).elim
              obtain ⟨cv, e1, q⟩ := key i rfl (.inl rfl) ex p vs S0 rfl hl hS0
              exact .inl ⟨p, vs, i, cv, rfl, qw, .inl (.inl hn), e1, q⟩
            | scr =>
              obtain ⟨p, vs, S0, rfl, hn, hk, hl, hF⟩ := r1
              unfold ndF at hF
              rw [if_pos imm_s] at hF
              obtain ⟨cv, e1, q⟩ := key i rfl (.inr (.inr rfl)) ex p vs S0 rfl hl hF
              exact .inl ⟨p, vs, i, cv, rfl, qw, hG ▸ SqF.sql hn, e1, q⟩
            | tup =>
              obtain ⟨p, vs, S0, rfl, hn, hk, hl, hF⟩ := r1
              unfold ndF at hF
              rw [if_pos imm_t] at hF
              obtain ⟨cv, e1, q⟩ := key i rfl (.inr (.inl rfl)) ex p vs S0 rfl hl hF
              exact .inr (.inl ⟨p, vs, i, cv, rfl, qw, hG ▸ hn, e1, q⟩)
            | _ => cases ex
          | _ => cases k <;> cases ex
        | _ => cases u <;> cases ex
end
end TI
end
section
set_option maxHeartbeats 400000
/-! TS9: slices, built-in functions, methods of texts, f-strings. -/
namespace TI
open PySem L2
section
variable {B : Bs} {X : Cx} {sc : List (Str × NameKind)} {n : Nat} {lc pn : List Nat} {Y : Sa} {env env1 env2 : Env} {σ : St} {H H1 H2 H' : Hp} {F F1 F2 Z Z1 Z2 S S1 S2 : Sa} {α β γ δ : Type}
/-! ### slices -/
abbrev VRo : Option Int → Option Int → Sa → Sa → Hp → Prop := fun a b _ _ _ => a = b
def tO (B : Bs) (c : C) : TO := tG B (fun _ => VRo) (fun K env => (ev c).o K env)
theorem _root_.L2.PO.tim {X : Cx} {e : Option Expr} {t t' : TO} (h : PO X e t) (k : ∀ σ H Q, t' σ H Q → t σ H Q) : PO X e t' := ⟨fun pins s σ H Q I w => h.run pins s σ H Q I (k σ H Q w)⟩
theorem s_noPart : PO X none (tO B .nil) := po_none.tim fun σ H Q ⟨lc, pn, Y, env, F, Z, r, h⟩ => h none H F Z none_ (Aft.refl r) rfl
theorem s_part {e : Expr} {c : C} (h : PE X e (tR B c)) : PO X (some e) (tO B (.cons c .nil)) := by
  refine (po_some h).tim fun σ H Q ⟨lc, pn, Y, env, F, Z, r, h⟩ => ⟨lc, pn, Y, env, F, Z, r, ?_⟩
  have h1 : OQ B lc Y env σ F Z H VRo ((evR (B.k lc pn) c env).bind fun x e => (match x with
        | .tmp (.int i) => .ok (some i) e
        | _ => .stuck)) Q := h
  refine OQ.bind h1 fun rv e1 v H1 F1 Z1 S1 _ a1 q1 h2 => ?_
  cases rv with
  | plc i p => exact h2.elim
  | tmp t =>
    cases t with
    | int i => exact ⟨i, q1, h2 (some i) H1 F1 Z1 none_ (a1.less fun _ z => z.elim) rfl⟩
    | _ => exact h2.elim
theorem sIx_eq (n d : Nat) (o : Option Int) : sIx n d o = HT.sIx n d o := by cases o <;> rfl
theorem cut_app {xs : List T} {vs : List V} {G : Gd} (h : RepL G Z H xs vs none_) (lo hi : Option Int) : RepL G Z H (cut xs lo hi) (cutV vs lo hi) none_ := by
  have hd : ∀ (k : Nat) {xs : List T} {vs : List V}, RepL G Z H xs vs none_ → RepL G Z H (xs.drop k) (vs.drop k) none_ := by
    intro k
    induction k with
    | zero => intro xs vs h; exact h
    | succ k ih =>
      intro xs vs h
      cases xs with
      | nil => have e : vs = [] := h; subst e; exact h
      | cons x xs => obtain ⟨v, r, S1, S2, rfl, h1, h2, d, s1, s2⟩ := h; exact ih (RepL.mono xs h2 s2)
  have ht : ∀ (k : Nat) {xs : List T} {vs : List V}, RepL G Z H xs vs none_ → RepL G Z H (xs.take k) (vs.take k) none_ := by
    intro k
    induction k with
    | zero => intro xs vs h; rw [List.take_zero, List.take_zero]; exact rfl
    | succ k ih =>
      intro xs vs h
      cases xs with
      | nil => have e : vs = [] := h; subst e; exact h
      | cons x xs =>
        obtain ⟨v, r, S1, S2, rfl, h1, h2, d, s1, s2⟩ := h
        exact ⟨v, r.take k, none_, none_, rfl, h1.mono x s1, ih (RepL.mono xs h2 s2), fun _ z => z.elim, fun _ z => z, fun _ z => z⟩
  unfold cut cutV
  rw [RepL.len xs h, sIx_eq, sIx_eq]
  exact ht _ (hd _ h)
theorem cut_full {α : Type} {xs : List α} {lo hi : Option Int} (h : HT.sIx xs.length 0 lo = 0 ∧ HT.sIx xs.length xs.length hi = xs.length) : cut xs lo hi = xs := by
  unfold cut
  rw [sIx_eq, sIx_eq, h.1, h.2]
  simp
theorem freeL_drop : ∀ (k : Nat) {xs : List T}, T.freeL xs = true → T.freeL (xs.drop k) = true
  | 0, _, h => h
  | k + 1, [], h => h
  | k + 1, x :: xs, h => by
    have h' : (x.free && T.freeL xs) = true := h
    rw [Bool.and_eq_true] at h'
    exact freeL_drop k h'.2
def rSlX (B : Bs) (X : Cx) : V → Option Int → Option Int → Hp → VK → Prop := fun x lo hi H Q => (rSlL X.K x lo hi H Q ∨ rSlA X.K x lo hi H Q) ∨ rSlS x lo hi H Q
theorem s_slc {x : Expr} {lo hi : Option Expr} {a l u : C} {p2 pos : Pos} (hG : B.G.K = X.K) (ha : PE X x (tR B a)) (hl : PO X lo (tO B l)) (hu : PO X hi (tO B u)) : PE X (.Subscript x (.Slice lo hi none p2) pos) (tR B (.sl a l u)) := by
  refine (pe_slice (r := rSlX B X) ((sl_list.or sl_tupA).or sl_str) ha hl hu).tim fun σ H Q ⟨lc, pn, Y, env, F, Z, r, h⟩ => ⟨lc, pn, Y, env, F, Z, r, ?_⟩
  have h1 : OQ B lc Y env σ F Z H (VR1 B.G σ) ((evR (B.k lc pn) a env).bind fun x e => ((B.k lc pn).withP e x fun K => ((ev l).o K e).bind fun lo e => ((ev u).o K e).bind fun h e => .ok (lo, h) e).bind fun lh e => match lookR e x with
    | some t => (lift (slT lh.1 lh.2 t) e).bind fun z e => .ok (.tmp z) e
    | none => .stuck) Q := h
  refine OQ.bind h1 fun rv e1 v H1 F1 Z1 S1 _ a1 q1 h2 => ?_
  have h3 := second (VR' := fun _ (a : Option Int × Option Int) (b : Option Int × Option Int) (_ _ : Sa) (_ : Hp) => a = b) (ev := fun K e => ((ev l).o K e).bind fun lo e => ((ev u).o K e).bind fun h e => .ok (lo, h) e)
    (Q2 := fun lh H3 => rSlX B X v lh.1 lh.2 H3 Q) a1 q1 h2 fun lh e2 w H2 F2 Z2 S2 b q1' q2 h3 => ?_
  · obtain ⟨lc', pn', Y', env', F', Z', r', h3⟩ := h3
    refine ⟨lc', pn', Y', env', F', Z', r', OQ.bind h3 fun lo' e2 lo2 H2 F2 Z2 S2 _ a2 q2 h4 => ?_⟩
    have q2' : lo' = lo2 := q2
    subst q2'
    refine tG.again (ev := fun K e => (ev u).o K e) (VR' := fun _ => VRo) a2 h4 fun hi' e3 hi2 H3 F3 Z3 S3 a3 q3 h5 => ?_
    have q3' : hi' = hi2 := q3
    subst q3'
    exact h5 (lo', hi') H3 F3 Z3 S3 a3 rfl
  · have q2' : lh = w := q2
    subst q2'
    obtain ⟨ab, d⟩ := a1.step b
    cases el : lookR e2 rv with
    | none => rw [el] at h3; exact h3.elim
    | some t =>
      rw [el] at h3
      dsimp only at h3
      cases ef : slT lh.1 lh.2 t with
      | none => rw [ef] at h3; exact h3.elim
      | some z =>
        rw [ef] at h3
        obtain ⟨T1, r1, _⟩ := look_rep ab.r q1' el
        have fin : ∀ (v' : V) (H' : Hp) (S' : Sa), Res B.G Z2 H2 z v' H' S' → Q v' H' := fun v' H' S' rs => h3 v' H' F2 Z2 S' (ab.res rs) rs.rep
        cases t with
        | str s =>
          have e' : (if s.length ≤ lim then some (T.str (cutS s lh.1 lh.2)) else none) = some z := ef
          split at e'
          · rename_i hl'
            cases e'
            refine .inr ⟨s, r1, lim_line hl', fin _ H2 none_ (Res.same ?_)⟩
            show V.str _ = V.str _
            unfold TI.cutS cut L2.cutS
            rw [sIx_eq, sIx_eq]
            simp [Str.length]
          · cases e'
        | nd k f xs =>
          cases k with
          | lst =>
            have e' : (if T.freeL xs = true then capL (cut xs lh.1 lh.2) else none) = some z := ef
            split at e'
            · rename_i hf
              obtain ⟨hl', hf', rfl⟩ := capL_some e'
              obtain ⟨p, vs, S0, rfl, hn, l1⟩ := r1.lstD
              exact .inl (.inl ⟨p, vs, rfl, .inl (.inl hn), fun q hq => fin _ _ _ (Res.newL hq (cut_app (l1.bare xs hf) _ _))⟩)
            · cases e'
          | scr =>
            have e' : (if T.freeL xs = true then capL (cut xs lh.1 lh.2) else none) = some z := ef
            split at e'
            · rename_i hf
              obtain ⟨hl', hf', rfl⟩ := capL_some e'
              obtain ⟨p, vs, S0, rfl, hn, hk, l1, hF⟩ := r1
              exact .inl (.inl ⟨p, vs, rfl, hG ▸ SqF.sql hn, fun q hq => fin _ _ _ (Res.newL hq (cut_app (l1.bare xs hf) _ _))⟩)
            · cases e'
          | tup =>
            have e' : (if T.freeL xs = true then capT (cut xs lh.1 lh.2) else none) = some z := ef
            split at e'
            · rename_i hf
              obtain ⟨hl', hf', rfl⟩ := capT_some e'
              obtain ⟨p, vs, S0, rfl, hn, l1⟩ := r1.tupD
              have l1 := l1.bare xs hf
              refine .inl (.inr ⟨p, vs, rfl, hG ▸ hn, fun hw => fin _ _ none_ (Res.same ?_), fun hw q hq => fin _ _ _ (Res.newT hq (cut_app l1 _ _))⟩)
              rw [RepL.len xs l1] at hw
              rw [cut_full hw]
              refine ⟨p, vs, none_, rfl, hn, trivial, l1, ?_⟩
              unfold ndF; rw [if_pos imm_t]; exact fun _ z => z
            · cases e'
          | _ => cases ef
        | _ => cases ef
/-! ### several, as trees -/
def RepA (G : Gd) (Z : Sa) (H : Hp) : List T → List V → Prop
  | [], vs => vs = []
  | x :: xs, vs => ∃ v r S, vs = v :: r ∧ Rep G Z H x v S ∧ RepA G Z H xs r
theorem look_all {G : Gd} : ∀ {rvs : List RV} {vs : List V} {S : Sa} {ts : List T}, R G lc Y env σ H F Z → RepRVs G σ Z H rvs vs S → lookAll env rvs = some ts → RepA G Z H ts vs
  | [], _, _, _, _, h, e => by cases e; exact h
  | x :: xs, _, _, ts, r, ⟨v, q, S1, S2, e1, h1, h2, _⟩, e => by
    subst e1
    have e' : (match lookR env x, lookAll env xs with | some t, some ts => some (t :: ts) | _, _ => none) = some ts := e
    cases ex : lookR env x with
    | none => rw [ex] at e'; cases e'
    | some t =>
      cases ey : lookAll env xs with
      | none => rw [ex, ey] at e'; cases e'
      | some us =>
        rw [ex, ey] at e'; cases e'
        obtain ⟨S', q', _⟩ := look_rep r h1 ex
        exact ⟨v, q, S', rfl, q', look_all r h2 ey⟩
/-- an operation on several, by trees -/
def rTL (B : Bs) (f : List T → Option T) : List V → Hp → VK → Prop := fun vs H Q => ∃ (Z : Sa) (ts : List T) (z : T), RepA B.G Z H ts vs ∧ f ts = some z ∧ ∀ (v : V) (H' : Hp) (S : Sa), Res B.G Z H z v H' S → Q v H'
theorem s_bi0 {b : Bi} {c : C} {σ : St} {H : Hp} {Q : VK} (h : tR B (.bi b c) σ H Q) : tCB (rTL B (biT b)) (tL B c) σ H Q := by
  obtain ⟨lc, pn, Y, env, F, Z, r, h⟩ := h
  have h1 : OQ B lc Y env σ F Z H (VR1 B.G σ) ((evL (B.k lc pn) c env).bind fun rvs e => match lookAll e rvs with
    | some ts => (lift (biT b ts) e).bind fun z e => .ok (.tmp z) e
    | none => .stuck) Q := h
  refine ⟨lc, pn, Y, env, F, Z, r, OQ.bind h1 fun rvs e1 vs H1 F1 Z1 S1 _ a1 q1 h2 => ?_⟩
  cases el : lookAll e1 rvs with
  | none => rw [el] at h2; exact h2.elim
  | some ts =>
    rw [el] at h2
    dsimp only at h2
    cases ef : biT b ts with
    | none => rw [ef] at h2; exact h2.elim
    | some z =>
      rw [ef] at h2
      exact ⟨Z1, ts, z, look_all a1.r q1 el, ef, fun v H' S' rs => h2 v H' F1 Z1 S' (a1.res rs) rs.rep⟩
theorem s_biB {b : Bi} {id : String} {x : Str} {e : Expr} {es : List Expr} {c : C} {p pos : Pos} (hc : CallR X (.builtin id) (rTL B (biT b))) (hg : Gl X x) (hm : X.mg x = none) (hv : bootBuiltins x = some (.builtin id)) (ha : PA X (e :: es) (tL B c)) (hn : x ≠ "__name__") (hdb : (x == ("__debug__" : Str)) = false)
    (he : starEach (e :: es) X.env = (false, eval e X.env) :: starEach es X.env) (hpl : (backTo pos (starEach es X.env)).any (·.1) = false) : PE X (.Call (.Name x p) (e :: es) [] pos) (tR B (.bi b c)) :=
  (pe_callB hc hg hm hv ha hn hdb he hpl).tim fun _ _ _ h => s_bi0 h
theorem s_biT {b : Bi} {id : String} {x : Str} {e : Expr} {es : List Expr} {c : C} {p pos : Pos} (hc : CallR X (.type id) (rTL B (biT b))) (hg : Gl X x) (hm : X.mg x = none) (hv : bootBuiltins x = some (.type id)) (ha : PA X (e :: es) (tL B c)) (hn : x ≠ "__name__") (hdb : (x == ("__debug__" : Str)) = false)
    (he : starEach (e :: es) X.env = (false, eval e X.env) :: starEach es X.env) (hpl : (backTo pos (starEach es X.env)).any (·.1) = false) : PE X (.Call (.Name x p) (e :: es) [] pos) (tR B (.bi b c)) :=
  (pe_callTy hc hg hm hv ha hn hdb he hpl).tim fun _ _ _ h => s_bi0 h
end
end TI
end
section
set_option maxHeartbeats 400000
/-! TS10: built-in functions, methods of texts, f-strings. -/
namespace TI
open PySem L2
section
variable {B : Bs} {X : Cx} {sc : List (Str × NameKind)} {n : Nat} {lc pn : List Nat} {Y : Sa} {env env1 env2 : Env} {σ : St} {H H1 H2 H' : Hp} {F F1 F2 Z Z1 Z2 S S1 S2 : Sa} {α β γ δ : Type} {G : Gd}
theorem RepA.one {t : T} {vs : List V} (h : RepA G Z H [t] vs) : ∃ v S, vs = [v] ∧ Rep G Z H t v S := by
  obtain ⟨v, r, S, rfl, h1, h2⟩ := h
  have e : r = [] := h2
  subst e
  exact ⟨v, S, rfl, h1⟩
theorem RepA.two {t u : T} {vs : List V} (h : RepA G Z H [t, u] vs) : ∃ v w S S', vs = [v, w] ∧ Rep G Z H t v S ∧ Rep G Z H u w S' := by
  obtain ⟨v, r, S, rfl, h1, h2⟩ := h
  obtain ⟨w, S', rfl, h3⟩ := h2.one
  exact ⟨v, w, S, S', rfl, h1, h3⟩
theorem sql_lst {K : PySem.W.Frag} {a : Addr} {vs : List V} (h : H a = some (.lst vs)) : SqL K H a vs := .inl (.inl h)
theorem Rep.lstL {f : Bool} {xs : List T} {v : V} {K : PySem.W.Frag} (h : Rep G Z H (.nd .lst f xs) v S) : ∃ a vs S0, v = .ref a ∧ SqL K H a vs ∧ RepL G Z H xs vs S0 := by
  obtain ⟨a, vs, S0, e, hn, l⟩ := h.lstD
  exact ⟨a, vs, S0, e, sql_lst hn, l⟩
theorem Rep.scrL {f : Bool} {xs : List T} {v : V} {K : PySem.W.Frag} (hG : G.K = K) (h : Rep G Z H (.nd .scr f xs) v S) : ∃ a vs S0, v = .ref a ∧ SqL K H a vs ∧ RepL G Z H xs vs S0 := by
  obtain ⟨a, vs, S0, e, hn, _, l, _⟩ := h
  exact ⟨a, vs, S0, e, hG ▸ SqF.sql hn, l⟩
theorem bls_rep : ∀ {xs : List T} {bs : List Bool} {vs : List V} {S : Sa}, blsL xs = some bs → RepL G Z H xs vs S → vs = bs.map V.bl
  | [], _, _, _, e, h => by cases e; exact h
  | x :: xs, bs, _, _, e, ⟨v, r, S1, S2, e1, h1, h2, _⟩ => by
    cases x with
    | bl b =>
      have e' : (blsL xs).map (b :: ·) = some bs := e
      cases ex : blsL xs with
      | none => rw [ex] at e'; cases e'
      | some cs =>
        rw [ex] at e'; cases e'
        rw [e1, bls_rep ex h2, show v = .bl b from h1]; rfl
    | _ => cases e
theorem strs_rep : ∀ {xs : List T} {bs : List Str} {vs : List V} {S : Sa}, strsL xs = some bs → RepL G Z H xs vs S → vs = bs.map V.str
  | [], _, _, _, e, h => by cases e; exact h
  | x :: xs, bs, _, _, e, ⟨v, r, S1, S2, e1, h1, h2, _⟩ => by
    cases x with
    | str b =>
      have e' : (strsL xs).map (b :: ·) = some bs := e
      cases ex : strsL xs with
      | none => rw [ex] at e'; cases e'
      | some cs =>
        rw [ex] at e'; cases e'
        rw [e1, strs_rep ex h2, show v = .str b from h1]; rfl
    | _ => cases e
theorem ints_rep : ∀ {xs : List T} {bs : List Int} {vs : List V} {S : Sa}, intsL xs = some bs → RepL G Z H xs vs S → vs = bs.map V.int
  | [], _, _, _, e, h => by cases e; exact h
  | x :: xs, bs, _, _, e, ⟨v, r, S1, S2, e1, h1, h2, _⟩ => by
    cases x with
    | int b =>
      have e' : (intsL xs).map (b :: ·) = some bs := e
      cases ex : intsL xs with
      | none => rw [ex] at e'; cases e'
      | some cs =>
        rw [ex] at e'; cases e'
        rw [e1, ints_rep ex h2, show v = .int b from h1]; rfl
    | _ => cases e
theorem c_len (hG : B.G.K = X.K) : CallR X (.builtin "len") (rTL B (biT .len)) := by
  intro pins s σ H xs us Q I r ⟨Z, ts, z, ra, e, k⟩
  cases ts with
  | nil => cases e
  | cons t ts =>
    cases ts with
    | cons u ts => cases t <;> simp [biT] at e
    | nil =>
      obtain ⟨v, S, rfl, h⟩ := ra.one
      cases t with
      | str w =>
        have e' : (if w.length ≤ lim then some (T.int w.length) else none) = some z := e
        split at e'
        · rename_i hl
          cases e'
          exact call_len_str pins s σ H _ us Q I r ⟨w, by rw [show v = .str w from h], lim_line hl, k _ H none_ (Res.same rfl)⟩
        · cases e'
      | nd kd f xs =>
        cases kd with
        | lst =>
          cases e
          obtain ⟨a, vs, S0, rfl, hn, l⟩ := h.lstL (K := X.K)
          exact call_len_seq pins s σ H _ us Q I r ⟨a, vs, rfl, .inl hn, k _ H none_ (Res.same (by rw [RepL.len xs l]; rfl))⟩
        | scr =>
          cases e
          obtain ⟨a, vs, S0, rfl, hn, l⟩ := Rep.scrL hG h
          exact call_len_seq pins s σ H _ us Q I r ⟨a, vs, rfl, .inl hn, k _ H none_ (Res.same (by rw [RepL.len xs l]; rfl))⟩
        | tup =>
          cases e
          obtain ⟨a, vs, S0, rfl, hn, l⟩ := h.tupD
          exact call_len_seq pins s σ H _ us Q I r ⟨a, vs, rfl, .inr (hG ▸ hn), k _ H none_ (Res.same (by rw [RepL.len xs l]; rfl))⟩
        | _ => cases e
      | _ => cases e
theorem c_list (hG : B.G.K = X.K) : CallR X (.type "list") (rTL B (biT .list)) := by
  intro pins s σ H xs us Q I r ⟨Z, ts, z, ra, e, k⟩
  cases ts with
  | nil => cases e
  | cons t ts =>
    cases ts with
    | cons u ts => cases t <;> simp [biT] at e
    | nil =>
      obtain ⟨v, S, rfl, h⟩ := ra.one
      cases t with
      | nd kd f xs =>
        cases kd with
        | lst =>
          obtain ⟨hl, hf, rfl⟩ := capL_some (show capL xs = some z from e)
          obtain ⟨a, vs, S0, rfl, hn, l⟩ := h.lstL (K := X.K)
          exact call_list_of pins s σ H _ us Q I r ⟨a, vs, rfl, .inl hn, fun p hp => k _ _ _ (Res.newL hp (l.bare xs hf))⟩
        | scr =>
          obtain ⟨hl, hf, rfl⟩ := capL_some (show capL xs = some z from e)
          obtain ⟨a, vs, S0, rfl, hn, l⟩ := Rep.scrL hG h
          exact call_list_of pins s σ H _ us Q I r ⟨a, vs, rfl, .inl hn, fun p hp => k _ _ _ (Res.newL hp (l.bare xs hf))⟩
        | tup =>
          obtain ⟨hl, hf, rfl⟩ := capL_some (show capL xs = some z from e)
          obtain ⟨a, vs, S0, rfl, hn, l⟩ := h.tupD
          exact call_list_of pins s σ H _ us Q I r ⟨a, vs, rfl, .inr (hG ▸ hn), fun p hp => k _ _ _ (Res.newL hp (l.bare xs hf))⟩
        | _ => cases e
      | _ => cases e
theorem c_tuple (hG : B.G.K = X.K) : CallR X (.type "tuple") (rTL B (biT .tuple)) := by
  intro pins s σ H xs us Q I r ⟨Z, ts, z, ra, e, k⟩
  cases ts with
  | nil => cases e
  | cons t ts =>
    cases ts with
    | cons u ts => cases t <;> simp [biT] at e
    | nil =>
      obtain ⟨v, S, rfl, h⟩ := ra.one
      cases t with
      | nd kd f xs =>
        cases kd with
        | lst =>
          obtain ⟨hl, hf, rfl⟩ := capT_some (show capT xs = some z from e)
          obtain ⟨a, vs, S0, rfl, hn, l⟩ := h.lstL (K := X.K)
          exact call_tuple_of pins s σ H _ us Q I r ⟨a, vs, rfl, .inl ⟨hn, fun p hp => k _ _ _ (Res.newT hp (l.bare xs hf))⟩⟩
        | tup =>
          obtain ⟨hl, hf, rfl⟩ := capT_some (show capT xs = some z from e)
          obtain ⟨a, vs, S0, rfl, hn, l⟩ := h.tupD
          refine call_tuple_of pins s σ H _ us Q I r ⟨a, vs, rfl, .inr ⟨hG ▸ hn, k _ _ none_ (Res.same ⟨a, vs, none_, rfl, hn, trivial, l.bare xs hf, ?_⟩)⟩⟩
          unfold ndF; rw [if_pos imm_t]; exact fun _ z => z
        | _ => cases e
      | _ => cases e
theorem c_min2 (hc : X.calm = true) : CallR X (.builtin "min") (rTL B (biT .min2)) := by
  intro pins s σ H xs us Q I r ⟨Z, ts, z, ra, e, k⟩
  obtain ⟨i, j, rfl, rfl⟩ : ∃ i j, ts = [.int i, .int j] ∧ z = .int (if j < i then j else i) := by
    unfold biT at e; split at e <;> first | (cases e; done) | (cases e; exact ⟨_, _, rfl, rfl⟩) | contradiction
  obtain ⟨v, w, S, S', rfl, h1, h2⟩ := ra.two
  exact call_min2 hc pins s σ H _ us Q I r ⟨i, j, by rw [show v = .int i from h1, show w = .int j from h2], k _ H none_ (Res.same rfl)⟩
theorem c_max2 (hc : X.calm = true) : CallR X (.builtin "max") (rTL B (biT .max2)) := by
  intro pins s σ H xs us Q I r ⟨Z, ts, z, ra, e, k⟩
  obtain ⟨i, j, rfl, rfl⟩ : ∃ i j, ts = [.int i, .int j] ∧ z = .int (if j > i then j else i) := by
    unfold biT at e; split at e <;> first | (cases e; done) | (cases e; exact ⟨_, _, rfl, rfl⟩) | contradiction
  obtain ⟨v, w, S, S', rfl, h1, h2⟩ := ra.two
  exact call_max2 hc pins s σ H _ us Q I r ⟨i, j, by rw [show v = .int i from h1, show w = .int j from h2], k _ H none_ (Res.same rfl)⟩
theorem c_all (hc : X.calm = true) : CallR X (.builtin "all") (rTL B (biT .all)) := by
  intro pins s σ H xs us Q I r ⟨Z, ts, z, ra, e, k⟩
  obtain ⟨f, ys, rfl, e2⟩ : ∃ f ys, ts = [.nd .lst f ys] ∧ (blsL ys).map (fun bs => T.bl (bs.all id)) = some z := by
    unfold biT at e; split at e <;> first | (cases e; done) | exact ⟨_, _, rfl, e⟩ | contradiction
  cases eb : blsL ys with
  | none => rw [eb] at e2; cases e2
  | some bs =>
    rw [eb] at e2; cases e2
    obtain ⟨v, S, rfl, h⟩ := ra.one
    obtain ⟨a, vs, S0, rfl, hn, l⟩ := h.lstL (K := X.K)
    exact cr_all hc pins s σ H _ us Q I r ⟨a, bs, rfl, bls_rep eb l ▸ hn, k _ H none_ (Res.same rfl)⟩
theorem c_any (hc : X.calm = true) : CallR X (.builtin "any") (rTL B (biT .any)) := by
  intro pins s σ H xs us Q I r ⟨Z, ts, z, ra, e, k⟩
  obtain ⟨f, ys, rfl, e2⟩ : ∃ f ys, ts = [.nd .lst f ys] ∧ (blsL ys).map (fun bs => T.bl (bs.any id)) = some z := by
    unfold biT at e; split at e <;> first | (cases e; done) | exact ⟨_, _, rfl, e⟩ | contradiction
  cases eb : blsL ys with
  | none => rw [eb] at e2; cases e2
  | some bs =>
    rw [eb] at e2; cases e2
    obtain ⟨v, S, rfl, h⟩ := ra.one
    obtain ⟨a, vs, S0, rfl, hn, l⟩ := h.lstL (K := X.K)
    exact cr_any hc pins s σ H _ us Q I r ⟨a, bs, rfl, bls_rep eb l ▸ hn, k _ H none_ (Res.same rfl)⟩
theorem c_sum (hc : X.calm = true) : CallR X (.builtin "sum") (rTL B (biT .sum)) := by
  intro pins s σ H xs us Q I r ⟨Z, ts, z, ra, e, k⟩
  obtain ⟨f, ys, rfl, e2⟩ : ∃ f ys, ts = [.nd .lst f ys] ∧ (intsL ys).map (fun bs => T.int bs.sum) = some z := by
    unfold biT at e; split at e <;> first | (cases e; done) | exact ⟨_, _, rfl, e⟩ | contradiction
  cases eb : intsL ys with
  | none => rw [eb] at e2; cases e2
  | some bs =>
    rw [eb] at e2; cases e2
    obtain ⟨v, S, rfl, h⟩ := ra.one
    obtain ⟨a, vs, S0, rfl, hn, l⟩ := h.lstL (K := X.K)
    exact cr_sum hc pins s σ H _ us Q I r ⟨a, bs, rfl, ints_rep eb l ▸ hn, k _ H none_ (Res.same rfl)⟩
theorem c_int : CallR X (.type "int") (rTL B (biT .int)) := by
  intro pins s σ H xs us Q I r ⟨Z, ts, z, ra, e, k⟩
  have e2 : (∃ i, ts = [.int i] ∧ z = .int i) ∨ ∃ b : Bool, ts = [.bl b] ∧ z = .int (if b then 1 else 0) := by
    unfold biT at e; split at e <;> first | (cases e; done) | (cases e; exact .inl ⟨_, rfl, rfl⟩) | (cases e; exact .inr ⟨_, rfl, rfl⟩) | contradiction
  rcases e2 with ⟨i, rfl, rfl⟩ | ⟨b, rfl, rfl⟩
  · obtain ⟨v, S, rfl, h⟩ := ra.one
    exact call_int1 pins s σ H _ us Q I r (.inl ⟨i, by rw [show v = .int i from h], k _ H none_ (Res.same rfl)⟩)
  · obtain ⟨v, S, rfl, h⟩ := ra.one
    exact call_int1 pins s σ H _ us Q I r (.inr ⟨b, by rw [show v = .bl b from h], k _ H none_ (Res.same rfl)⟩)
end
end TI
end
section
set_option maxHeartbeats 400000
/-! TU1: a change in place. -/
namespace TI
open PySem L2
/-- what a change in place does: x at v becomes x', w (footprint Sw) leaves it, S2 has come in -/
structure Chg (G : Gd) (Z : Sa) (H : Hp) (v : V) (Sx S2 : Sa) (Z' : Sa) (H' : Hp) (x' : T) (Sx' Sw : Sa) : Prop where
  stab : ∀ a o, H a = some o → ¬ Sx a → H' a = some o
  al : ∀ a, H' a = none → H a = none
  zin : ∀ a, Z a → Z' a
  zup : ∀ a, Z' a → Z a ∨ Sx a ∨ S2 a
  rep : Rep G Z' H' x' v Sx'
  sub : ∀ a, Sx' a → Sx a ∨ S2 a
  sub2 : ∀ a, Sw a → Sx a ∨ S2 a
  dj : ∀ a, Sx' a → ¬ Sw a
  zx : ∀ a, Z' a → ¬ Sx' a ∧ ¬ Sw a
  fm : ∀ a, Sx' a ∨ Sw a → ∃ o, H' a = some o ∧ MutO o
section
variable {B : Bs} {lc pn : List Nat} {Y : Sa} {env e2 e3 : Env} {σ : St} {H H2 : Hp} {F F2 Z Z2 S S1 S2 : Sa}
theorem upd_ok {rv : RV} {v : V} {f : T → Option (T × T)} {w : T} (ab : Aft B.G lc Y env σ F Z H e2 σ F2 Z2 H2 S) (q : RepRV B.G σ Z2 H2 rv v S1) (h1 : ∀ a, S1 a → S a) (h2 : ∀ a, S2 a → S a) (h12 : ∀ a, S1 a → ¬ S2 a)
    (hu : upd (B.k lc pn) rv f e2 = .ok w e3) : ∃ (x x' : T) (Sx : Sa), f x = some (w, x') ∧ Rep B.G Z2 H2 x v Sx ∧ (∀ a, Sx a → ¬ S2 a) ∧ (∀ a, Sx a → ¬ Z2 a) ∧ (∀ a, Sx a → ∃ o, H2 a = some o ∧ MutO o) ∧
      ∀ {Z' : Sa} {H' : Hp} {Sx' Sw : Sa}, Chg B.G Z2 H2 v Sx S2 Z' H' x' Sx' Sw → ∃ F3, Aft B.G lc Y env σ F Z H e3 σ F3 Z' H' Sw := by
  cases rv with
  | tmp t =>
    have e : (match f t with | some (v, _) => Out.ok v e2 | none => .stuck) = .ok w e3 := hu
    cases ef : f t with
    | none => rw [ef] at e; cases e
    | some r =>
      rw [ef] at e
      cases e
      refine ⟨t, r.2, S1, ef, q, h12, fun a z => (ab.sd a (h1 a z)).2.1, fun a z => ab.sm a (h1 a z), fun {Z' H' Sx' Sw} c => ⟨F2, ?_⟩⟩
      have hSS : ∀ a, S1 a ∨ S2 a → S a := fun a z => z.elim (h1 a) (h2 a)
      have hz : ∀ a, Z' a → H' a ≠ none := fun a z q' => by
        have q := c.al a q'
        rcases c.zup a z with z | z | z
        · exact (ab.r.zf a z).2 q
        · exact ab.ne a (h1 a z) q
        · exact ab.ne a (h2 a z) q
      refine ⟨ab.r.frame (Fc := fun a => S1 a ∨ S2 a) (Fc' := fun a => Sx' a ∨ Sw a) ⟨fun a o e n => c.stab a o e fun z => n (.inl z), c.al, fun a z => .inl (z.elim (c.sub a) (c.sub2 a)), c.zin, fun a z => (c.zup a z).elim .inl fun z => .inr (.inl z)⟩ (fun a z => ab.sm a (hSS a z)) (fun a z y => (ab.sd a (hSS a y)).1 z) (fun a z y => (ab.sd a (hSS a y)).2.2 z) (fun a z y => (ab.sd a (hSS a y)).2.1 z) hz,
        fun a z => c.fm a (.inr z), fun a z => ?_, ?_, ab.lk⟩
      · have s := hSS a (c.sub2 a z)
        exact ⟨(ab.sd a s).1, fun y => (c.zx a y).2 z, (ab.sd a s).2.2⟩
      · refine ⟨fun a o e n => ?_, fun a e => ab.p.al a (c.al a e), fun a z => ?_, fun a z => c.zin a (ab.p.zin a z), fun a z => ?_⟩
        · refine c.stab a o (ab.p.keep a o e n) fun z => ?_
          rcases ab.p.grow a (.inr (h1 a z)) with y | y
          · exact n y
          · rw [e] at y; cases y
        · rcases z with z | z
          · exact ab.p.grow a (.inl z)
          · exact ab.p.grow a (.inr (hSS a (c.sub2 a z)))
        · rcases c.zup a z with z | z | z
          · exact ab.p.zup a z
          · exact .inr (ab.p.grow a (.inr (h1 a z)))
          · exact .inr (ab.p.grow a (.inr (h2 a z)))
  | plc i p =>
    have e : (match e2[i]? with
      | some (some t) => (match t.get p with
        | some x => if (B.k lc pn).open_ i then (match f x with
          | some (v, x') => Out.ok v (e2.set i (some (T.set x' t p)))
          | none => .stuck) else .stuck
        | none => .stuck)
      | _ => .stuck) = .ok w e3 := hu
    cases ei : e2[i]? with
    | none => rw [ei] at e; cases e
    | some o =>
      cases o with
      | none => rw [ei] at e; cases e
      | some t =>
        rw [ei] at e
        dsimp only at e
        cases ex : t.get p with
        | none => rw [ex] at e; cases e
        | some x =>
          rw [ex] at e
          dsimp only at e
          by_cases ho : (B.k lc pn).open_ i = true
          · rw [if_pos ho] at e
            cases ef : f x with
            | none => rw [ef] at e; cases e
            | some r =>
              rw [ef] at e
              cases e
              have hi : i ∉ lc := by
                simp [Ek.open_] at ho
                exact ho
              obtain ⟨u, Sr, eu, rp, hSr, r0⟩ := ab.r.open_ hi ei
              obtain ⟨nS, u', eu', nv⟩ := q
              rw [eu] at eu'; cases eu'
              obtain ⟨w', Sx, S3, nw, rx, b1, b2, b3, put⟩ := placeL p rp ex
              cases nv.inj nw
              have hlen : i < e2.length := (List.getElem?_eq_some_iff.mp ei).1
              have fS2 : ∀ a, S2 a → ¬ F2 a := fun a z => (ab.sd a (h2 a z)).1
              refine ⟨x, r.2, Sx, ef, rx, fun a z y => fS2 a y (hSr a (b1 a z)), fun a z y => (ab.r.zf a y).1 (hSr a (b1 a z)), fun a z => ab.r.fm a (hSr a (b1 a z)), fun {Z' H' Sx' Sw} c => ⟨fun a => (F2 a ∧ ¬ Sr a) ∨ (S3 a ∨ Sx' a), ?_⟩⟩
              have fmc : ∀ a, Sx a ∨ S2 a → ∃ o, H2 a = some o ∧ MutO o := fun a z => z.elim (fun z => ab.r.fm a (hSr a (b1 a z))) fun z => ab.sm a (h2 a z)
              have hz : ∀ a, Z' a → H' a ≠ none := fun a z q' => by
                have q := c.al a q'
                rcases c.zup a z with z | z | z
                · exact (ab.r.zf a z).2 q
                · exact ab.r.ne a (hSr a (b1 a z)) q
                · exact ab.ne a (h2 a z) q
              have yFc : ∀ a, Y a → ¬ (Sx a ∨ S2 a) := fun a z y => y.elim (fun y => (ab.r.yf a z).1 (hSr a (b1 a y))) fun y => (ab.sd a (h2 a y)).2.2 z
              have zFc : ∀ a, Z2 a → ¬ (Sx a ∨ S2 a) := fun a z y => y.elim (fun y => (ab.r.zf a z).1 (hSr a (b1 a y))) fun y => (ab.sd a (h2 a y)).2.1 z
              have s3Fc : ∀ a, S3 a → ¬ (Sx a ∨ S2 a) := fun a z y => y.elim (b3 a z) fun y => fS2 a y (hSr a (b2 a z))
              have r1 := r0.frame (Fc := fun a => Sx a ∨ S2 a) (Fc' := fun a => Sx' a ∨ Sw a) ⟨fun a o e n => c.stab a o e fun z => n (.inl z), c.al, fun a z => .inl (z.elim (c.sub a) (c.sub2 a)), c.zin, fun a z => (c.zup a z).elim .inl fun z => .inr (.inl z)⟩
                fmc (fun a z y => y.elim (fun y => z.2 (b1 a y)) fun y => fS2 a y z.1) yFc zFc hz
              have rt := put (H' := H') (Z' := Z') (Fc := fun a => Sx a ∨ S2 a) (x' := r.2) (Sx' := Sx') (fun a o e n => c.stab a o e fun z => n (.inl z)) fmc s3Fc zFc c.zin c.rep (fun a z y => s3Fc a z (c.sub a y))
              have z3 : ∀ a, S3 a → ¬ Z' a := fun a z y => by
                rcases c.zup a y with y | y
                · exact (ab.r.zf a y).1 (hSr a (b2 a z))
                · exact s3Fc a z y
              have r2 := r1.bind (r := i) (σ' := σ) hi (by rw [List.length_set]; exact hlen) rt
                (fun a z => z.elim (fun z => by
                  obtain ⟨o, e, m⟩ := ab.r.fm a (hSr a (b2 a z))
                  exact ⟨o, c.stab a o e fun y => b3 a z y, m⟩) fun z => c.fm a (.inl z))
                (fun a z y => z.elim (fun z => y.2 (b2 a z)) fun z => (c.sub a z).elim (fun z => y.2 (b1 a z)) fun z => fS2 a z y.1)
                (fun a z y => z.elim (fun z => (ab.r.yf a y).1 (hSr a (b2 a z))) fun z => yFc a y (c.sub a z))
                (fun a z y => z.elim (fun z => z3 a z y) fun z => (c.zx a y).1 z) rfl (fun _ _ => rfl) eu
              rw [List.set_set] at r2
              refine ⟨r2, fun a z => c.fm a (.inr z), fun a z => ⟨fun y => ?_, fun y => (c.zx a y).2 z, fun y => yFc a y (c.sub2 a z)⟩, ?_, ⟨by rw [List.length_set]; exact ab.lk.1, fun j hj => ?_⟩⟩
              · rcases y with y | y | y
                · exact (c.sub2 a z).elim (fun z => y.2 (b1 a z)) fun z => fS2 a z y.1
                · exact s3Fc a y (c.sub2 a z)
                · exact c.dj a y z
              · refine ⟨fun a o e n => ?_, fun a e => ab.p.al a (c.al a e), fun a z => ?_, fun a z => c.zin a (ab.p.zin a z), fun a z => ?_⟩
                · refine c.stab a o (ab.p.keep a o e n) fun z => ?_
                  rcases ab.p.grow a (.inl (hSr a (b1 a z))) with y | y
                  · exact n y
                  · rw [e] at y; cases y
                · have k2 : ∀ a, Sx a ∨ S2 a → F a ∨ H a = none := fun a z => z.elim (fun z => ab.p.grow a (.inl (hSr a (b1 a z)))) fun z => ab.p.grow a (.inr (h2 a z))
                  rcases z with (z | z | z) | z
                  · exact ab.p.grow a (.inl z.1)
                  · exact ab.p.grow a (.inl (hSr a (b2 a z)))
                  · exact k2 a (c.sub a z)
                  · exact k2 a (c.sub2 a z)
                · rcases c.zup a z with z | z | z
                  · exact ab.p.zup a z
                  · exact .inr (ab.p.grow a (.inl (hSr a (b1 a z))))
                  · exact .inr (ab.p.grow a (.inr (h2 a z)))
              · rw [List.getElem?_set_ne (fun w => hi (by rw [w]; exact hj))]
                exact ab.lk.2 j hj
          · rw [if_neg ho] at e; cases e
end
end TI
end
section
set_option maxHeartbeats 400000
/-! TU2: methods of lists. -/
namespace TI
open PySem L2
/-- a list's method, by trees -/
def rM (B : Bs) (m : Mm) : V → List V → Hp → VK → Prop := fun v vs H Q => ∃ (Z Sx S2 : Sa) (x x' w : T) (ts : List T), mmT m x ts = some (w, x') ∧ Rep B.G Z H x v Sx ∧ RepL B.G Z H ts vs S2 ∧ T.wholeL ts = true ∧ (∀ a, Sx a → ¬ S2 a) ∧ (∀ a, Sx a → ¬ Z a) ∧ (∀ a, Z a → ¬ S2 a) ∧
  (∀ a, Sx a ∨ S2 a → ∃ o, H a = some o ∧ MutO o) ∧ (∀ a, Z a → H a ≠ none) ∧ ∀ (Z' : Sa) (H' : Hp) (Sx' Sw : Sa) (wv : V), Chg B.G Z H v Sx S2 Z' H' x' Sx' Sw → Rep B.G Z' H' w wv Sw → Q wv H'
section
variable {B : Bs} {X : Cx} {sc : List (Str × NameKind)} {n : Nat} {lc pn : List Nat} {Y : Sa} {env env1 env2 : Env} {σ : St} {H H1 H2 H' : Hp} {F F1 F2 Z Z1 Z2 Z' S S1 S2 : Sa} {α β γ δ : Type} {G : Gd}
theorem s_mm0 {m : Mm} {a es : C} {σ : St} {H : Hp} {Q : VK} {K : PySem.W.Frag} (h : tR B (.mm m a es) σ H Q) : tBM K "list" (rM B m) (tR B a) (tV B es) σ H Q := by
  obtain ⟨lc, pn, Y, env, F, Z, r, h⟩ := h
  have h1 : OQ B lc Y env σ F Z H (VR1 B.G σ) ((evR (B.k lc pn) a env).bind fun x e => if isLst (lookR e x) = true then ((B.k lc pn).withP e x fun K => evV K es e).bind fun ts e => if T.wholeL ts = true then (upd (B.k lc pn) x (fun t => mmT m t ts) e).bind fun z e => .ok (.tmp z) e else .stuck else .stuck) Q := h
  refine ⟨lc, pn, Y, env, F, Z, r, OQ.bind h1 fun rv e1 v H1 F1 Z1 S1 _ a1 q1 h2 => ?_⟩
  by_cases hl : isLst (lookR e1 rv) = true
  · rw [if_pos hl] at h2
    cases el : lookR e1 rv with
    | none => rw [el] at hl; cases hl
    | some t =>
      have ht : ∃ f xs, t = .nd .lst f xs := by
        rw [el] at hl
        cases t with
        | nd k f xs => cases k <;> first | exact ⟨_, _, rfl⟩ | cases hl
        | _ => cases hl
      obtain ⟨f, xs, rfl⟩ := ht
      obtain ⟨T1, r1, _⟩ := look_rep a1.r q1 el
      obtain ⟨p, vs, S0, rfl, hn, l⟩ := r1.lstL (K := K)
      refine ⟨.inl ⟨rfl, vs, hn⟩, ?_⟩
      refine second (VR' := fun _ => VRv B.G) (ev := fun K e => evV K es e) a1 q1 h2 fun ts e2 ws H2 F2 Z2 S2 b q1' q2 h3 => ?_
      obtain ⟨ab, d⟩ := a1.step b
      by_cases hw : T.wholeL ts = true
      · rw [if_pos hw] at h3
        cases eu : upd (B.k lc pn) rv (fun t => mmT m t ts) e2 with
        | stuck => rw [eu] at h3; exact h3.elim
        | err c xs e => 
          exfalso
          unfold upd at eu
          repeat' (split at eu)
          all_goals cases eu
        | ok w e3 =>
          rw [eu] at h3
          obtain ⟨x, x', Sx, ef, rx, d1, d2, fm, k⟩ := upd_ok (S2 := S2) ab q1' (fun _ z => .inl z) (fun _ z => .inr z) d eu
          refine ⟨Z2, Sx, S2, x, x', w, ts, ef, rx, q2, hw, d1, d2, fun y z s => (ab.sd y (.inr s)).2.1 z, fun y z => z.elim (fm y) fun z => ab.sm y (.inr z), fun y z => (ab.r.zf y z).2, fun Z' H' Sx' Sw wv c rw' => ?_⟩
          obtain ⟨F3, a3⟩ := k c
          exact h3 wv H' F3 Z' Sw a3 rw'
      · rw [if_neg hw] at h3; exact h3.elim
  · rw [if_neg hl] at h2; exact h2.elim
theorem RepL.snoc {t : T} {w : V} : ∀ {xs : List T} {vs : List V} {S : Sa}, RepL G Z H xs vs S → Rep G Z H t w none_ → RepL G Z H (xs ++ [t]) (vs ++ [w]) S
  | [], _, S, h, q => by
    have e := (show _ = [] from h)
    subst e
    exact ⟨w, [], none_, none_, rfl, q, rfl, fun _ z => z.elim, fun _ z => z.elim, fun _ z => z.elim⟩
  | x :: xs, _, S, ⟨v, r, S1, S2, e, h1, h2, d, s1, s2⟩, q => by
    subst e
    exact ⟨v, r ++ [w], S1, S2, rfl, h1, RepL.snoc h2 q, d, s1, s2⟩
theorem RepL.erase : ∀ {xs : List T} {vs : List V} {S : Sa} (j : Nat), RepL G Z H xs vs S → RepL G Z H (xs.eraseIdx j) (vs.eraseIdx j) S
  | [], _, S, j, h => by
    have e := (show _ = [] from h)
    subst e
    exact rfl
  | x :: xs, _, S, 0, ⟨v, r, S1, S2, e, h1, h2, d, s1, s2⟩ => by
    subst e
    exact RepL.mono xs h2 s2
  | x :: xs, _, S, j + 1, ⟨v, r, S1, S2, e, h1, h2, d, s1, s2⟩ => by
    subst e
    exact ⟨v, r.eraseIdx j, S1, S2, rfl, h1, RepL.erase j h2, d, s1, s2⟩
/-- a list's items are replaced -/
theorem Chg.lst {p : Addr} {Sx S2 S0 : Sa} {xs : List T} {vs : List V} (hp : Sx p) (h0 : ∀ a, S0 a → Sx a) (hp0 : ¬ S0 p) (hz : ∀ a, Sx a → ¬ Z a) (h12 : ∀ a, Sx a → ¬ S2 a) (hz2 : ∀ a, Z a → ¬ S2 a) (fm : ∀ a, Sx a ∨ S2 a → ∃ o, H a = some o ∧ MutO o)
    (zin : ∀ a, Z a → Z' a) (zup : ∀ a, Z' a → Z a ∨ S2 a) (l : RepL G Z' (L2.upd H p (.lst vs)) xs vs S0) : Chg G Z H (.ref p) Sx S2 Z' (L2.upd H p (.lst vs)) (.lst true xs) (fun a => a = p ∨ S0 a) none_ := by
  refine ⟨fun a o e n => ?_, fun a e => ?_, zin, fun a z => (zup a z).imp id .inr, ⟨p, vs, S0, rfl, upd_same, trivial, l, ?_⟩, fun a z => ?_, fun _ z => z.elim, fun _ _ z => z, fun a z => ⟨fun y => ?_, fun y => y⟩, fun a z => ?_⟩
  · rw [upd_ne (fun q => n (by rw [q]; exact hp))]; exact e
  · by_cases q : a = p
    · subst q; rw [upd_same] at e; cases e
    · rw [upd_ne q] at e; exact e
  · unfold ndF
    rw [if_neg (fun q => nomatch q), if_pos rfl]
    exact ⟨.inl rfl, hp0, fun _ z => .inr z⟩
  · rcases z with rfl | z
    · exact .inl hp
    · exact .inl (h0 a z)
  · have sx : Sx a := by
      rcases y with rfl | y
      · exact hp
      · exact h0 a y
    rcases zup a z with z | z
    · exact hz a sx z
    · exact h12 a sx z
  · by_cases q : a = p
    · exact ⟨.lst vs, by rw [q]; exact upd_same, trivial⟩
    · rcases z with (z | z) | z
      · exact absurd z q
      · obtain ⟨o, e, m⟩ := fm a (.inl (h0 a z))
        exact ⟨o, by rw [upd_ne q]; exact e, m⟩
      · exact z.elim
theorem own_lst {Sx : Sa} {f : Bool} {xs : List T} {v : V} (hf : f = true) (h : Rep G Z H (.nd .lst f xs) v Sx) : ∃ p vs S0, v = .ref p ∧ H p = some (.lst vs) ∧ RepL G Z H xs vs S0 ∧ Sx p ∧ ¬ S0 p ∧ ∀ a, S0 a → Sx a := by
  obtain ⟨p, vs, S0, rfl, hn, _, l, hF⟩ := h
  unfold ndF at hF
  rw [if_neg (fun q => nomatch q), if_pos hf] at hF
  exact ⟨p, vs, S0, rfl, hn, l, hF⟩
/-- items stay what they were beside a changed list -/
theorem kept_items {p : Addr} {o : HO} {S0 : Sa} {xs : List T} {vs : List V} (l : RepL G Z H xs vs S0) (hm : ∃ o, H p = some o ∧ MutO o) (hp0 : ¬ S0 p) (hz : ¬ Z p) (zin : ∀ a, Z a → Z' a) : RepL G Z' (L2.upd H p o) xs vs S0 :=
  RepL.stab xs l (F := fun a => a = p) (fun a u e n => by rw [upd_ne n]; exact e) (fun a z => by subst z; exact hm) (fun a z y => hp0 (y ▸ z)) (fun a z y => hz (y ▸ z)) zin
theorem kept_item {p : Addr} {o : HO} {S0 : Sa} {t : T} {w : V} (l : Rep G Z H t w S0) (hm : ∃ o, H p = some o ∧ MutO o) (hp0 : ¬ S0 p) (hz : ¬ Z p) (zin : ∀ a, Z a → Z' a) : Rep G Z' (L2.upd H p o) t w S0 :=
  l.stab t (F := fun a => a = p) (fun a u e n => by rw [upd_ne n]; exact e) (fun a z => by subst z; exact hm) (fun a z y => hp0 (y ▸ z)) (fun a z y => hz (y ▸ z)) zin
theorem m_append : MtM X "list.append" (rM B .append) := by
  intro pins s σ H v vs0 v' us Q I rx rs ⟨Z, Sx, S2, x, x', w, ts, e, rp, ra, hw, h12, hz, hz2, fm, zn, k⟩
  obtain ⟨xs, y, rfl, rfl, hl, rfl, rfl⟩ : ∃ xs y, x = .nd .lst true xs ∧ ts = [y] ∧ xs.length < lim ∧ w = .non ∧ x' = .lst true (xs ++ [y.frz]) := by
    unfold mmT at e
    split at e <;> first | contradiction | skip
    all_goals (repeat' (split at e)) <;> first | (cases e; done) | (cases e; exact ⟨_, _, rfl, rfl, by assumption, rfl, rfl⟩)
  obtain ⟨p, vs, S0, rfl, hn, l, hp, hp0, h0⟩ := own_lst rfl rp
  obtain ⟨u, r, Su, Sr, rfl, hu, hr, d, s1, s2⟩ := ra
  have er : r = [] := hr
  subst er
  have hw' : (y.whole && T.wholeL []) = true := hw
  rw [Bool.and_eq_true] at hw'
  refine mt_append pins s σ H _ _ v' us Q I rx rs ⟨p, vs, u, rfl, rfl, hn, ?_, ?_⟩
  · rw [RepL.len xs l]; exact Nat.lt_of_lt_of_le hl (by decide)
  · have hm : ∃ o, H p = some o ∧ MutO o := ⟨_, hn, trivial⟩
    have q : Rep B.G (fun a => Z a ∨ S2 a) H y.frz u none_ := hu.frz y hw'.1 (fun _ z => .inl z) fun a z => .inr (s1 a z)
    refine k (fun a => Z a ∨ S2 a) _ _ none_ .non (Chg.lst hp h0 hp0 hz h12 hz2 fm (fun _ z => .inl z) (fun _ z => z) (RepL.snoc (kept_items l hm hp0 (hz p hp) fun _ z => .inl z) ?_)) rfl
    exact kept_item q hm (fun z => z) (fun z => z.elim (hz p hp) (h12 p hp)) fun _ z => z
theorem m_extend : MtM X "list.extend" (rM B .extend) := by
  intro pins s σ H v vs0 v' us Q I rx rs ⟨Z, Sx, S2, x, x', w, ts, e, rp, ra, hw, h12, hz, hz2, fm, zn, k⟩
  obtain ⟨xs, f, ys, rfl, rfl, ⟨hl, hf⟩, rfl, rfl⟩ : ∃ xs f ys, x = .nd .lst true xs ∧ ts = [.nd .lst f ys] ∧ (xs.length + ys.length ≤ lim ∧ T.freeL ys = true) ∧ w = .non ∧ x' = .lst true (xs ++ ys) := by
    unfold mmT at e
    split at e <;> first | contradiction | skip
    all_goals (repeat' (split at e)) <;> first | (cases e; done) | (cases e; exact ⟨_, _, _, rfl, rfl, by assumption, rfl, rfl⟩)
  obtain ⟨p, vs, S0, rfl, hn, l, hp, hp0, h0⟩ := own_lst rfl rp
  obtain ⟨u, r, Su, Sr, rfl, hu, hr, d, s1, s2⟩ := ra
  have er : r = [] := hr
  subst er
  obtain ⟨b, ws, S3, rfl, hb, l2⟩ := hu.lstD
  have l2 := l2.bare ys hf
  refine mt_extend pins s σ H _ _ v' us Q I rx rs ⟨p, b, vs, ws, rfl, rfl, hn, hb, ?_, ?_⟩
  · rw [RepL.len xs l, RepL.len ys l2]; exact lim_line hl
  · have hm : ∃ o, H p = some o ∧ MutO o := ⟨_, hn, trivial⟩
    refine k Z _ _ none_ .non (Chg.lst hp h0 hp0 hz h12 hz2 fm (fun _ z => z) (fun _ z => .inl z) ?_) rfl
    have k1 := kept_items (o := .lst (vs ++ ws)) l hm hp0 (hz p hp) fun _ z => z
    have k2 := kept_items (o := .lst (vs ++ ws)) l2 hm (fun z => z) (hz p hp) fun _ z => z
    clear k l l2
    have app : ∀ {xs : List T} {vs : List V} {S : Sa}, RepL B.G Z (L2.upd H p (.lst (vs ++ ws))) xs vs S → True := fun _ => trivial
    have app2 : ∀ (H' : Hp) {xs : List T} {vs : List V} {S : Sa}, RepL B.G Z H' xs vs S → RepL B.G Z H' ys ws none_ → RepL B.G Z H' (xs ++ ys) (vs ++ ws) S := by
      intro H' xs
      induction xs with
      | nil => intro vs S h h2; have e := (show vs = [] from h); subst e; exact RepL.mono ys h2 fun _ z => z.elim
      | cons x xs ih =>
        intro vs S h h2
        obtain ⟨v, r, S1, S2, rfl, q1, q2, d, s1, s2⟩ := h
        exact ⟨v, r ++ ws, S1, S2, rfl, q1, ih q2 h2, d, s1, s2⟩
    exact app2 _ k1 k2
theorem m_pop1 : MtM X "list.pop" (rM B .pop1) := by
  intro pins s σ H v vs0 v' us Q I rx rs ⟨Z, Sx, S2, x, x', w, ts, e, rp, ra, hw, h12, hz, hz2, fm, zn, k⟩
  obtain ⟨xs, i, j, rfl, rfl, hj, hx, hf, rfl⟩ : ∃ xs i j, x = .nd .lst true xs ∧ ts = [.int i] ∧ ixNat xs.length i = some j ∧ xs[j]? = some w ∧ w.free = true ∧ x' = .lst true (xs.eraseIdx j) := by
    unfold mmT at e
    split at e <;> first | contradiction | skip
    all_goals (repeat' (split at e)) <;> first | (cases e; done) | (cases e; exact ⟨_, _, _, rfl, rfl, by assumption, by assumption, by assumption, rfl⟩)
  obtain ⟨p, vs, S0, rfl, hn, l, hp, hp0, h0⟩ := own_lst rfl rp
  obtain ⟨u, r, Su, Sr, rfl, hu, hr, d, s1, s2⟩ := ra
  have er : r = [] := hr
  subst er
  have hu' : u = .int i := hu
  subst hu'
  obtain ⟨z, its, n, rv, hlen, eo⟩ := I.lstM hn
  rw [ixNat_ixN, ← RepL.len xs l] at hj
  obtain ⟨h1, h2, h3, h4⟩ := ixN_seq hj
  obtain ⟨wv, Sj, Sr', ew, qw, _⟩ := RepL.at_ xs l hx
  have hn63 := line63
  refine mt_popAt pins s σ H _ _ v' us Q I rx rs ⟨p, vs, i, j, wv, rfl, rfl, hn, by omega, by omega, h1, ew, ?_⟩
  have hm : ∃ o, H p = some o ∧ MutO o := ⟨_, hn, trivial⟩
  refine k Z _ _ none_ wv (Chg.lst hp h0 hp0 hz h12 hz2 fm (fun _ z => z) (fun _ z => .inl z) (RepL.erase j (kept_items l hm hp0 (hz p hp) fun _ z => z))) ?_
  exact kept_item (qw.bare w hf) hm (fun z => z) (hz p hp) fun _ z => z
end
end TI
end
section
set_option maxHeartbeats 400000
/-! TU3: in, isinstance, texts, f-strings, reversed slices. -/
namespace TI
open PySem L2
section
variable {B : Bs} {X : Cx} {sc : List (Str × NameKind)} {n : Nat} {lc pn : List Nat} {Y : Sa} {env env1 env2 : Env} {σ : St} {H H1 H2 H' : Hp} {F F1 F2 Z Z1 Z2 Z' S S1 S2 : Sa} {α β γ δ : Type} {G : Gd}
/-! ### in -/
theorem memT_iff {x : T} : ∀ {xs : List T} {b : Bool}, memT x xs = some b → (b = true ↔ ∃ (j : Nat) (t : T), xs[j]? = some t ∧ T.eqv t x = some true) ∧ ∀ (j : Nat) (t : T), xs[j]? = some t → ∃ c, T.eqv t x = some c
  | [], b, e => by
    cases e
    exact ⟨⟨fun q => (nomatch q), fun ⟨j, t, q, _⟩ => by simp at q⟩, fun j t q => by simp at q⟩
  | y :: r, b, e => by
    have e' : (match y.eqv x, memT x r with | some b, some c => some (b || c) | _, _ => none) = some b := e
    cases ey : y.eqv x with
    | none => rw [ey] at e'; cases e'
    | some c =>
      cases er : memT x r with
      | none => rw [ey, er] at e'; cases e'
      | some d =>
        rw [ey, er] at e'
        cases e'
        obtain ⟨h1, h2⟩ := memT_iff er
        refine ⟨⟨fun q => ?_, fun ⟨j, t, q, w⟩ => ?_⟩, fun j t q => ?_⟩
        · rcases Bool.or_eq_true _ _ ▸ q with q | q
          · exact ⟨0, y, rfl, by rw [ey, q]⟩
          · obtain ⟨j, t, q1, q2⟩ := h1.mp q
            exact ⟨j + 1, t, by simpa using q1, q2⟩
        · cases j with
          | zero => simp at q; subst q; rw [ey] at w; cases w; simp
          | succ j => rw [h1.mpr ⟨j, t, by simpa using q, w⟩]; simp
        · cases j with
          | zero => simp at q; subst q; exact ⟨c, ey⟩
          | succ j => exact h2 j t (by simpa using q)
open Classical in
/-- an item's answer -/
noncomputable def hits (x : T) (xs : List T) (its : List Value) (y : Value) : Bool := decide (∃ (j : Nat) (t : T), its[j]? = some y ∧ xs[j]? = some t ∧ T.eqv t x = some true)
theorem hits_any {x : T} {xs : List T} {its : List Value} {b : Bool} (hl : its.length = xs.length) (e : memT x xs = some b) : its.toArray.any (hits x xs its) = b := by
  obtain ⟨h1, h2⟩ := memT_iff e
  have k : its.any (hits x xs its) = b := by
    rw [Bool.eq_iff_iff, h1, List.any_eq_true]
    constructor
    · rintro ⟨y, hy, q⟩
      simp only [hits, decide_eq_true_eq] at q
      obtain ⟨j, t, _, q1, q2⟩ := q
      exact ⟨j, t, q1, q2⟩
    · rintro ⟨j, t, q1, q2⟩
      have hj : j < its.length := by rw [hl]; exact (List.getElem?_eq_some_iff.mp q1).1
      refine ⟨its[j], List.getElem_mem hj, ?_⟩
      simp only [hits, decide_eq_true_eq]
      exact ⟨j, t, List.getElem?_eq_getElem hj, q1, q2⟩
  simpa using k
theorem hits_at {pins : List (Addr × Obj)} {s : Shared} (I : Inv X pins σ H s) (hG : G.K = X.K) {A : Around} (hu : A.units + 32 < cLine) {x : T} {xs : List T} {v : V} {v' : Value} {vs : List V} {its : List Value} {b : Bool} (e : memT x xs = some b)
    (hx : Rep G Z H x v S) (rx : RelV v v') (l : RepL G Z H xs vs S1) (rv : Vals vs its) : ∀ y ∈ its.toArray, SeqAt.EqAt A s y v' (hits x xs its y) := by
  intro y hy
  obtain ⟨h1, h2⟩ := memT_iff e
  have hy' : y ∈ its := by simpa using hy
  have at_ : ∀ (j : Nat) (t : T), its[j]? = some y → xs[j]? = some t → ∀ c, T.eqv t x = some c → SeqAt.EqAt A s y v' c := by
    intro j t e1 e2 c ec
    obtain ⟨w, Sj, Sr, ew, qw, _⟩ := RepL.at_ xs l e2
    obtain ⟨u, eu, ru⟩ := rv.get ew
    rw [e1] at eu; cases eu
    exact eqvN_at I hG 30 A t x w v y v' _ _ c (by omega) qw hx ru rx ec
  by_cases q : ∃ (j : Nat) (t : T), its[j]? = some y ∧ xs[j]? = some t ∧ T.eqv t x = some true
  · obtain ⟨j, t, e1, e2, e3⟩ := q
    have hq : hits x xs its y = true := by simp only [hits, decide_eq_true_eq]; exact ⟨j, t, e1, e2, e3⟩
    rw [hq]
    exact at_ j t e1 e2 true e3
  · have hq : hits x xs its y = false := by simp only [hits, decide_eq_false_iff_not]; exact q
    rw [hq]
    obtain ⟨j, hj, ej⟩ := List.getElem_of_mem hy'
    have ej' : its[j]? = some y := by rw [List.getElem?_eq_getElem hj, ej]
    have hl : its.length = xs.length := by rw [← rv.length, RepL.len xs l]
    obtain ⟨c, ec⟩ := h2 j xs[j] (List.getElem?_eq_getElem (by omega))
    have := at_ j _ ej' (List.getElem?_eq_getElem (by omega)) c ec
    cases c with
    | false => exact this
    | true => exact absurd ⟨j, _, ej', List.getElem?_eq_getElem (by omega), ec⟩ q
theorem o_inn (hG : B.G.K = X.K) (hr : Room n X.A) : OpR X (compareOp .In) (rT2 B fun t u => (cmpT .inn t u).map .bl) := by
  intro pins s σ H x y v u Q I rx ry ⟨Z, S1, S2, t, u', z, h1, h2, e, k⟩
  dsimp only at e
  have hun : X.A.in1.units + 32 < cLine := by have := hr.units; show X.A.units + 1 + 32 < cLine; omega
  cases eb : cmpT .inn t u' with
  | none => rw [eb] at e; cases e
  | some b =>
    rw [eb] at e; cases e
    have eb' : inT t u' = some b := eb
    have fin : Q (.bl b) H := k _ H none_ (Res.same rfl)
    cases u' with
    | str s2 =>
      cases t with
      | str c2 =>
        have e' : (match c2.cps.toList with | [c] => some (decide (c ∈ s2.cps.toList)) | _ => none) = some b := eb'
        split at e'
        · rename_i c hc
          cases e'
          have ec : c2 = ⟨#[c]⟩ := by
            cases c2 with
            | mk a => simp only [Str.mk.injEq]; exact Array.toList_inj.mp (by simpa using hc)
          subst ec
          exact op_in_sign pins s σ H x y v u Q I rx ry ⟨c, s2, h1, h2, fin⟩
        · cases e'
      | _ => cases eb'
    | nd kd f xs =>
      cases kd with
      | lst =>
        have e' : (if (t.free && T.freeL xs) = true then memT t xs else none) = some b := eb'
        split at e'
        · obtain ⟨p, vs, S0, its, rfl, rfl, hn, rv, pl, l⟩ := lstX I h2 ry
          have hl : its.length = xs.length := by rw [← rv.length, RepL.len xs l]
          exact SeqAt.in_listAt (hits t xs its) pl (hits_at I hG hun e' h1 rx l rv) ⟨.bl _, H, I, rfl, by rw [hits_any hl e']; exact fin⟩
        · cases e'
      | tup =>
        have e' : (if (t.free && T.freeL xs) = true then memT t xs else none) = some b := eb'
        split at e'
        · obtain ⟨p, vs, S0, its, rfl, rfl, rv, pl, l⟩ := tupX I hG h2 ry
          have hl : its.length = xs.length := by rw [← rv.length, RepL.len xs l]
          exact SeqAt.in_tupleAt (hits t xs its) pl (hits_at I hG hun e' h1 rx l rv) ⟨.bl _, H, I, rfl, by rw [hits_any hl e']; exact fin⟩
        · cases e'
      | _ => cases eb'
    | _ => cases eb'
theorem o_nin (hG : B.G.K = X.K) (hr : Room n X.A) : OpR X (compareOp .NotIn) (rT2 B fun t u => (cmpT .nin t u).map .bl) := by
  intro pins s σ H x y v u Q I rx ry ⟨Z, S1, S2, t, u', z, h1, h2, e, k⟩
  dsimp only at e
  have hun : X.A.in1.units + 32 < cLine := by have := hr.units; show X.A.units + 1 + 32 < cLine; omega
  have e0 : ((inT t u').map (!·)).map T.bl = some z := e
  cases eb' : inT t u' with
  | none => rw [eb'] at e0; cases e0
  | some b =>
    rw [eb'] at e0; cases e0
    have fin : Q (.bl (!b)) H := k _ H none_ (Res.same rfl)
    cases u' with
    | str s2 =>
      cases t with
      | str c2 =>
        have e' : (match c2.cps.toList with | [c] => some (decide (c ∈ s2.cps.toList)) | _ => none) = some b := eb'
        split at e'
        · rename_i c hc
          cases e'
          have ec : c2 = ⟨#[c]⟩ := by
            cases c2 with
            | mk a => simp only [Str.mk.injEq]; exact Array.toList_inj.mp (by simpa using hc)
          subst ec
          exact op_notIn_sign pins s σ H x y v u Q I rx ry ⟨c, s2, h1, h2, fin⟩
        · cases e'
      | _ => cases eb'
    | nd kd f xs =>
      cases kd with
      | lst =>
        have e' : (if (t.free && T.freeL xs) = true then memT t xs else none) = some b := eb'
        split at e'
        · obtain ⟨p, vs, S0, its, rfl, rfl, hn, rv, pl, l⟩ := lstX I h2 ry
          have hl : its.length = xs.length := by rw [← rv.length, RepL.len xs l]
          exact SeqAt.notIn_listAt (hits t xs its) pl (hits_at I hG hun e' h1 rx l rv) ⟨.bl _, H, I, rfl, by rw [hits_any hl e']; exact fin⟩
        · cases e'
      | tup =>
        have e' : (if (t.free && T.freeL xs) = true then memT t xs else none) = some b := eb'
        split at e'
        · obtain ⟨p, vs, S0, its, rfl, rfl, rv, pl, l⟩ := tupX I hG h2 ry
          have hl : its.length = xs.length := by rw [← rv.length, RepL.len xs l]
          exact SeqAt.notIn_tupleAt (hits t xs its) pl (hits_at I hG hun e' h1 rx l rv) ⟨.bl _, H, I, rfl, by rw [hits_any hl e']; exact fin⟩
        · cases e'
      | _ => cases eb'
    | _ => cases eb'
/-! ### -a -/
theorem s_neg {e : Expr} {c : C} {pos : Pos} (h : PE X e (tR B c)) : PE X (.UnaryOp .USub e pos) (tR B (.neg c)) := by
  refine (pe_un un_neg h).tim fun σ H Q ⟨lc, pn, Y, env, F, Z, r, h⟩ => ⟨lc, pn, Y, env, F, Z, r, ?_⟩
  have h1 : OQ B lc Y env σ F Z H (VR1 B.G σ) ((evR (B.k lc pn) c env).bind fun x e => match x with
    | .tmp (.int i) => .ok (.tmp (.int (-i))) e
    | _ => .stuck) Q := h
  refine OQ.bind h1 fun rv e1 v H1 F1 Z1 S1 _ a1 q1 h2 => ?_
  cases rv with
  | plc _ _ => exact h2.elim
  | tmp t =>
    cases t with
    | int i => exact ⟨i, q1, h2 (.int (-i)) H1 F1 Z1 none_ (a1.less fun _ z => z.elim) rfl⟩
    | _ => exact h2.elim
/-! ### f-strings -/
theorem s_fpart {e : Expr} {c : C} {pos : Pos} (h : PE X e (tR B c)) : PE X (.FormattedValue e (-1) none pos) (tFmt (tR B c)) := pe_fmt h
theorem s_fconst {s : Str} {k : Nat} {pos : Pos} : PE X (.Constant (.str s) k pos) (tFmt (tR B (.str s))) := by
  refine pe_str.tim fun σ H Q ⟨lc, pn, Y, env, F, Z, r, h⟩ => ?_
  have h1 := h (.str s) H F Z none_ (Aft.refl r) rfl
  rcases h1 with ⟨y, e, _, q⟩ | ⟨i, e, _⟩
  · cases e; exact q
  · cases e
def tFs (B : Bs) : C → List TE
  | .cons a r => tFmt (tR B a) :: tFs B r
  | _ => []
theorem fs_run {VR : α → β → Sa → Sa → Hp → Prop} {f : Str → Env → Out α} {Q : β → Hp → Prop} {P : Str → Hp → Prop}
    (hf : ∀ out e H' F' Z', Aft B.G lc Y env σ F Z H e σ F' Z' H' none_ → OQ B lc Y env σ F Z H VR (f out e) Q → P out H') (c : C) :
    ∀ (acc : Str) (e1 : Env) (F1 Z1 : Sa) (H1 : Hp), Aft B.G lc Y env σ F Z H e1 σ F1 Z1 H1 none_ → OQ B lc Y env σ F Z H VR (((ev c).f (B.k lc pn) acc e1).bind f) Q → tJs (tFs B c) acc σ H1 P := by
  induction c with
  | nil => exact fun acc e1 F1 Z1 H1 a h => hf acc e1 H1 F1 Z1 a h
  | cons x r _ ih =>
    intro acc e1 F1 Z1 H1 a h
    have h1 : OQ B lc Y env σ F Z H VR ((evR (B.k lc pn) x e1).bind fun y e => (match fmtR y with
        | some s => if (acc ++ s).length ≤ lim then (ev r).f (B.k lc pn) (acc ++ s) e else .stuck
        | none => .stuck).bind f) Q := by
      have h0 : OQ B lc Y env σ F Z H VR (((evR (B.k lc pn) x e1).bind fun y e => (match fmtR y with
        | some s => if (acc ++ s).length ≤ lim then (ev r).f (B.k lc pn) (acc ++ s) e else .stuck
        | none => .stuck)).bind f) Q := h
      cases eo : evR (B.k lc pn) x e1 with
      | ok y e => rw [eo] at h0; exact h0
      | err c xs e => rw [eo] at h0; exact h0
      | stuck => rw [eo] at h0; exact h0
    show tFmt (tR B x) σ H1 _
    refine tG.again (ev := fun K e => evR K x e) (VR' := VR1 B.G) a h1 fun rv e2 v H2 F2 Z2 S2 b q h2 => ?_
    have go : ∀ s : Str, fmtR rv = some s → (acc ++ s).length ≤ sizeLine ∧ tJs (tFs B r) (acc ++ s) σ H2 P := by
      intro s es
      rw [es] at h2
      dsimp only at h2
      by_cases hs : (acc ++ s).length ≤ lim
      · rw [if_pos hs] at h2
        exact ⟨lim_line hs, ih (acc ++ s) e2 F2 Z2 H2 (b.less fun _ z => z.elim) h2⟩
      · rw [if_neg hs] at h2; exact h2.elim
    cases rv with
    | plc _ _ => exact h2.elim
    | tmp t =>
      cases t with
      | str s =>
        have h2' := h2
        by_cases hs : s.length ≤ lim
        · have es : fmtR (.tmp (.str s)) = some s := by show (if s.length ≤ lim then some s else none) = some s; rw [if_pos hs]
          obtain ⟨g1, g2⟩ := go s es
          exact .inl ⟨s, q, lim_line hs, s, rfl, g1, g2⟩
        · have es : fmtR (.tmp (.str s)) = none := by show (if s.length ≤ lim then some s else none) = none; rw [if_neg hs]
          rw [es] at h2'; exact h2'.elim
      | int i =>
        have h2' := h2
        by_cases hs : i.natAbs < 2 ^ 1900
        · have es : fmtR (.tmp (.int i)) = some (Str.ofString (toString i)) := by show (if i.natAbs < 2 ^ 1900 then _ else none) = _; rw [if_pos hs]
          obtain ⟨g1, g2⟩ := go _ es
          refine .inr ⟨i, q, ?_, _, rfl, g1, g2⟩
          by_cases h0 : i.natAbs = 0
          · rw [h0]; decide
          · have := (Nat.log2_lt h0).mpr hs; omega
        · have es : fmtR (.tmp (.int i)) = none := by show (if i.natAbs < 2 ^ 1900 then _ else none) = none; rw [if_neg hs]
          rw [es] at h2'; exact h2'.elim
      | _ => exact h2.elim
  | asg tg e => intro acc e1 F1 Z1 H1 a h; cases tg <;> exact h.elim
  | aug op tg e => intro acc e1 F1 Z1 H1 a h; cases tg <;> exact h.elim
  | _ => exact fun acc e1 F1 Z1 H1 a h => h.elim
theorem s_fstr {v1 v2 : Expr} {rest : List Expr} {c : C} {pos : Pos} (h : PJ X (v1 :: v2 :: rest) (tFs B c)) : PE X (.JoinedStr (v1 :: v2 :: rest) pos) (tR B (.fstr c)) := by
  refine (pe_joined h).tim fun σ H Q ⟨lc, pn, Y, env, F, Z, r, h⟩ => ?_
  exact fs_run (f := fun out e => .ok (.tmp (.str out)) e) (VR := VR1 B.G σ) (Q := Q) (lc := lc) (pn := pn) (fun out e H' F' Z' a h => h (.str out) H' F' Z' none_ a rfl) c Str.empty env F Z H (Aft.refl r) h
theorem s_fstr1 {v1 : Expr} {a : C} {pos : Pos} (h : PE X v1 (tFmt (tR B a))) : PE X (.JoinedStr [v1] pos) (tR B (.fstr (.cons a .nil))) := by
  refine (pe_joined1 h).tim fun σ H Q ⟨lc, pn, Y, env, F, Z, r, h⟩ => ?_
  have e0 : ∀ z : Str, Str.empty ++ z = z := fun z => by
    cases z with
    | mk a => show Str.mk (#[] ++ a) = _; simp
  have h1 := fs_run (f := fun out e => .ok (.tmp (.str out)) e) (VR := VR1 B.G σ) (Q := Q) (lc := lc) (pn := pn) (P := fun out H1 => Q (.str out) H1) (fun out e H' F' Z' a h => h (.str out) H' F' Z' none_ a rfl) (.cons a .nil) Str.empty env F Z H (Aft.refl r) h
  have h2 : tFmt (tR B a) σ H (fun x H1 => ∃ y : Str, x = .str y ∧ (Str.empty ++ y).length ≤ sizeLine ∧ Q (.str (Str.empty ++ y)) H1) := h1
  unfold tFmt at h2 ⊢
  refine tG.mono h2 fun x H1 h3 => ?_
  rcases h3 with ⟨y, e, hy, z, ez, hz, q⟩ | ⟨i, e, hy, z, ez, hz, q⟩
  · cases ez; rw [e0] at q; exact .inl ⟨y, e, hy, q⟩
  · cases ez; rw [e0] at q; exact .inr ⟨i, e, hy, q⟩
end
end TI
end
section
set_option maxHeartbeats 400000
/-! TV1: statements. -/
namespace TI
open PySem L2
/-- behind a statement: locked and pinned slots hold what they held -/
structure AftS (B : Bs) (lc pn : List Nat) (Y : Sa) (env : Env) (σ : St) (F Z : Sa) (H : Hp) (env' : Env) (σ' : St) (F' Z' : Sa) (H' : Hp) (S : Sa) : Prop where
  a : Aft B.G lc Y env σ F Z H env' σ' F' Z' H' S
  ks : ∀ i, i ∈ lc ∨ i ∈ pn → σ'[i]? = σ[i]?
/-- what is wanted of a statement's outcome -/
def SQ (B : Bs) (lc pn : List Nat) (Y : Sa) (env : Env) (σ : St) (F Z : Sa) (H : Hp) (o : SO) (D : Ends) : Prop := match o with
  | .nx env' => ∀ (σ' : St) (H' : Hp) (F' Z' : Sa), AftS B lc pn Y env σ F Z H env' σ' F' Z' H' none_ → D.nx σ' H'
  | .bk env' => ∀ (σ' : St) (H' : Hp) (F' Z' : Sa), AftS B lc pn Y env σ F Z H env' σ' F' Z' H' none_ → D.bk σ' H'
  | .ct env' => ∀ (σ' : St) (H' : Hp) (F' Z' : Sa), AftS B lc pn Y env σ F Z H env' σ' F' Z' H' none_ → D.ct σ' H'
  | .rt t env' => ∀ (v : V) (σ' : St) (H' : Hp) (F' Z' S : Sa), AftS B lc pn Y env σ F Z H env' σ' F' Z' H' S → Rep B.G Z' H' t v S → D.rt v H'
  | .err c xs env' => ∀ (cls : Value) (d : Option Addr) (σ' : St) (H' : Hp) (F' Z' : Sa), AftS B lc pn Y env σ F Z H env' σ' F' Z' H' none_ → ExcAt B.G B.cs Z' H' c xs cls d → B.W cls d σ' H'
  | .stuck => False
def tSm (B : Bs) (f : Ek → Env → SO) : TS := fun D σ H => ∃ (lc pn : List Nat) (Y : Sa) (env : Env) (F Z : Sa), R B.G lc Y env σ H F Z ∧ SQ B lc pn Y env σ F Z H (f (B.k lc pn) env) D
def tS (B : Bs) (c : C) : TS := tSm B fun K env => (ev c).s K env
def tBl (B : Bs) (c : C) : TS := tSm B fun K env => (ev c).bl K env
section
variable {B : Bs} {X : Cx} {sc : List (Str × NameKind)} {n : Nat} {lc pn : List Nat} {Y : Sa} {env env1 env2 : Env} {σ σ1 σ2 : St} {H H1 H2 H' : Hp} {F F1 F2 Z Z1 Z2 Z' S S1 S2 : Sa} {α β γ δ : Type} {D : Ends}
theorem AftS.refl (r : R B.G lc Y env σ H F Z) : AftS B lc pn Y env σ F Z H env σ F Z H none_ := ⟨Aft.refl r, fun _ _ => rfl⟩
theorem AftS.of {G : Gd} (a : Aft B.G lc Y env σ F Z H env1 σ F1 Z1 H1 S) : AftS B lc pn Y env σ F Z H env1 σ F1 Z1 H1 S := ⟨a, fun _ _ => rfl⟩
theorem AftS.step (a : AftS B lc pn Y env σ F Z H env1 σ1 F1 Z1 H1 S1) (b : AftS B lc pn Y env1 σ1 F1 Z1 H1 env2 σ2 F2 Z2 H2 S2) : AftS B lc pn Y env σ F Z H env2 σ2 F2 Z2 H2 (fun x => S1 x ∨ S2 x) :=
  ⟨(a.a.step b.a).1, fun i h => (b.ks i h).trans (a.ks i h)⟩
theorem AftS.less (a : AftS B lc pn Y env σ F Z H env1 σ1 F1 Z1 H1 S1) (h : ∀ x, S2 x → S1 x) : AftS B lc pn Y env σ F Z H env1 σ1 F1 Z1 H1 S2 := ⟨a.a.less h, a.ks⟩
theorem AftS.then (a : AftS B lc pn Y env σ F Z H env1 σ1 F1 Z1 H1 S1) (b : AftS B lc pn Y env1 σ1 F1 Z1 H1 env2 σ2 F2 Z2 H2 S2) : AftS B lc pn Y env σ F Z H env2 σ2 F2 Z2 H2 S2 := (a.step b).less fun _ z => .inr z
/-- a wish of the first state, from a later one -/
theorem SQ.rebase {o : SO} (h : SQ B lc pn Y env σ F Z H o D) (a : AftS B lc pn Y env σ F Z H env1 σ1 F1 Z1 H1 S1) : SQ B lc pn Y env1 σ1 F1 Z1 H1 o D := by
  cases o with
  | nx e => exact fun σ' H' F' Z' b => h σ' H' F' Z' (a.then b)
  | bk e => exact fun σ' H' F' Z' b => h σ' H' F' Z' (a.then b)
  | ct e => exact fun σ' H' F' Z' b => h σ' H' F' Z' (a.then b)
  | rt t e => exact fun v σ' H' F' Z' S b q => h v σ' H' F' Z' S (a.then b) q
  | err c xs e => exact fun cls d σ' H' F' Z' b q => h cls d σ' H' F' Z' (a.then b) q
  | stuck => exact h
theorem SQ.mono {o : SO} {D D' : Ends} (h : SQ B lc pn Y env σ F Z H o D) (h1 : ∀ σ H, D.nx σ H → D'.nx σ H) (h2 : ∀ σ H, D.bk σ H → D'.bk σ H) (h3 : ∀ σ H, D.ct σ H → D'.ct σ H) (h4 : ∀ v H, D.rt v H → D'.rt v H) : SQ B lc pn Y env σ F Z H o D' := by
  cases o with
  | nx e => exact fun σ' H' F' Z' b => h1 _ _ (h σ' H' F' Z' b)
  | bk e => exact fun σ' H' F' Z' b => h2 _ _ (h σ' H' F' Z' b)
  | ct e => exact fun σ' H' F' Z' b => h3 _ _ (h σ' H' F' Z' b)
  | rt t e => exact fun v σ' H' F' Z' S b q => h4 _ _ (h v σ' H' F' Z' S b q)
  | err c xs e => exact h
  | stuck => exact h
/-- an expression ahead of a statement's rest -/
theorem SQ.run {VR' : γ → δ → Sa → Sa → Hp → Prop} {o : Out γ} {f : γ → Env → SO} {Q1 : δ → Hp → Prop} (h : SQ B lc pn Y env σ F Z H (o.run f) D)
    (k : ∀ (a : γ) (env1 : Env) (b : δ) (H1 : Hp) (F1 Z1 S1 : Sa), o = .ok a env1 → Aft B.G lc Y env σ F Z H env1 σ F1 Z1 H1 S1 → VR' a b S1 Z1 H1 → SQ B lc pn Y env σ F Z H (f a env1) D → Q1 b H1) : OQ B lc Y env σ F Z H VR' o Q1 := by
  cases o with
  | stuck => exact h
  | ok x e => exact fun b H' F' Z' S a q => k x e b H' F' Z' S rfl a q h
  | err c xs e => exact fun cls d H' F' Z' a q => h cls d σ H' F' Z' ⟨a, fun _ _ => rfl⟩ q
/-- the rest behind a statement -/
theorem SQ.next {o : SO} {f : Ek → Env → SO} (h : SQ B lc pn Y env σ F Z H (o.next (f (B.k lc pn))) D) : SQ B lc pn Y env σ F Z H o { D with nx := tSm B f D } := by
  cases o with
  | nx e => exact fun σ' H' F' Z' b => ⟨lc, pn, Y, e, F', Z', b.a.r, SQ.rebase h b⟩
  | bk e => exact h
  | ct e => exact h
  | rt t e => exact h
  | err c xs e => exact h
  | stuck => exact h
theorem s_nilS : PSs X [] (tBl B .nil) := pss_nil.tim fun D σ H ⟨lc, pn, Y, env, F, Z, r, h⟩ => h σ H F Z (AftS.refl r)
theorem s_consS {st : Stmt} {rest : List Stmt} {a r : C} (h1 : PS X st (tS B a)) (h2 : PSs X rest (tBl B r)) : PSs X (st :: rest) (tBl B (.cons a r)) :=
  (pss_cons h1 h2).tim fun D σ H ⟨lc, pn, Y, env, F, Z, q, h⟩ => ⟨lc, pn, Y, env, F, Z, q, SQ.next (f := fun K e => (ev r).bl K e) h⟩
theorem s_pass {pos : Pos} : PS X (.Pass pos) (tS B .pass) := ps_pass.tim fun D σ H ⟨lc, pn, Y, env, F, Z, r, h⟩ => h σ H F Z (AftS.refl r)
theorem s_doc {x : Str} {j : Nat} {pos pos' : Pos} (h : PS X (.Expr (.Constant (.str x) j pos) pos') tNext) : PS X (.Expr (.Constant (.str x) j pos) pos') (tS B .pass) := h.tim fun D σ H ⟨lc, pn, Y, env, F, Z, r, h⟩ => h σ H F Z (AftS.refl r)
theorem s_brk {pos : Pos} : PS X (.Break pos) (tS B .brk) := ps_break.tim fun D σ H ⟨lc, pn, Y, env, F, Z, r, h⟩ => h σ H F Z (AftS.refl r)
theorem s_expr {e : Expr} {c : C} {pos : Pos} (he : PE X e (tR B c)) (hs : swapsWith e none pos.line X.env = pure false) : PS X (.Expr e pos) (tS B (.expr c)) := by
  refine (ps_expr he hs).tim fun D σ H ⟨lc, pn, Y, env, F, Z, r, h⟩ => ⟨lc, pn, Y, env, F, Z, r, ?_⟩
  have h1 : SQ B lc pn Y env σ F Z H ((evR (B.k lc pn) c env).run fun _ env => .nx env) D := h
  exact SQ.run h1 fun rv e1 v H1 F1 Z1 S1 _ a1 q1 h2 => h2 σ H1 F1 Z1 ⟨a1.less fun _ z => z.elim, fun _ _ => rfl⟩
theorem s_retN {pos : Pos} : PS X (.Return none pos) (tS B .ret0) := ps_retN.tim fun D σ H ⟨lc, pn, Y, env, F, Z, r, h⟩ => h .non σ H F Z none_ (AftS.refl r) rfl
/-- a value handed back -/
def tM (B : Bs) (c : C) : TE := tG B (fun _ (t : T) (v : V) S Z H => Rep B.G Z H t v S) (fun K env => (ev c).m K env)
theorem s_ret {e : Expr} {c : C} {pos : Pos} (he : PE X e (tM B c)) : PS X (.Return (some e) pos) (tS B (.ret c)) := by
  refine (ps_ret he).tim fun D σ H ⟨lc, pn, Y, env, F, Z, r, h⟩ => ⟨lc, pn, Y, env, F, Z, r, ?_⟩
  have h1 : SQ B lc pn Y env σ F Z H (((ev c).m (B.k lc pn) env).run fun v env => .rt v env) D := h
  exact SQ.run h1 fun t e1 v H1 F1 Z1 S1 _ a1 q1 h2 => h2 v σ H1 F1 Z1 S1 ⟨a1, fun _ _ => rfl⟩ q1
/-- kept, as any value is -/
theorem m_keep {e : Expr} {c : C} (hc : (ev c).m = keepR (ev c).r) (h : PE X e (tR B c)) : PE X e (tM B c) := by
  refine h.tim fun σ H Q ⟨lc, pn, Y, env, F, Z, r, h⟩ => ⟨lc, pn, Y, env, F, Z, r, ?_⟩
  have h1 : OQ B lc Y env σ F Z H (fun (t : T) (v : V) S Z H => Rep B.G Z H t v S) ((evR (B.k lc pn) c env).bind fun x e => valR (B.k lc pn) x e) Q := by
    have h2 : OQ B lc Y env σ F Z H (fun (t : T) (v : V) S Z H => Rep B.G Z H t v S) ((ev c).m (B.k lc pn) env) Q := h
    rw [hc] at h2; exact h2
  refine OQ.bind h1 fun rv e1 v H1 F1 Z1 S1 _ a1 q1 h2 => ?_
  refine val_ok (f := fun t e => .ok t e) a1 q1 (OQ_id h2) fun t e2 F2 Z2 S2 a2 q2 h3 => h3 v H1 F2 Z2 S2 a2 q2
/-- a variable: taken out of its slot -/
theorem m_var {i : Nat} {x : Str} {pos : Pos} (hN : X.N[i]? = some x) (hv : Vis X.env.scope x) (hd : (x == ("__debug__" : Str)) = false) (hcd : (x == ("__classdict__" : Str)) = false) : PE X (.Name x pos) (tM B (.var i)) := by
  refine (pe_var hN hv hd hcd).tim fun σ H Q ⟨lc, pn, Y, env, F, Z, r, h⟩ => ?_
  have h1 : OQ B lc Y env σ F Z H (fun (t : T) (v : V) S Z H => Rep B.G Z H t v S) (match env[i]? with
        | some (some t) => if t.free then .ok t env else if (B.k lc pn).open_ i = true ∧ (B.k lc pn).pn.contains i = false ∧ t.whole = true then .ok t (env.set i none) else valR (B.k lc pn) (.plc i []) env
        | _ => .stuck) Q := h
  cases e : env[i]? with
  | none => rw [e] at h1; exact h1.elim
  | some o =>
    cases o with
    | none => rw [e] at h1; exact h1.elim
    | some t =>
      rw [e] at h1
      dsimp only at h1
      obtain ⟨S, s1, s2, s3, s4⟩ := r.sl
      obtain ⟨v, ev', q⟩ := s4 i t e
      refine ⟨v, ev', ?_⟩
      by_cases f : t.free = true
      · rw [if_pos f] at h1
        exact h1 v H F Z none_ (Aft.refl r) (q.bare t f)
      · rw [if_neg f] at h1
        by_cases hc : (B.k lc pn).open_ i = true ∧ (B.k lc pn).pn.contains i = false ∧ t.whole = true
        · rw [if_pos hc] at h1
          have hi : i ∉ lc := by
            have := hc.1
            simp [Ek.open_] at this
            exact this
          obtain ⟨u, Sr, eu, rp, hSr, r0⟩ := r.open_ hi e
          rw [ev'] at eu; cases eu
          refine h1 v H _ Z Sr ⟨r0, fun a z => r.fm a (hSr a z), fun a z => ⟨fun y => y.2 z, fun y => (r.zf a y).1 (hSr a z), fun y => (r.yf a y).1 (hSr a z)⟩, ⟨fun _ _ h _ => h, fun _ h => h, fun a z => .inl (z.elim (·.1) (hSr a)), fun _ h => h, fun _ h => .inl h⟩, ⟨by rw [List.length_set], fun j hj => ?_⟩⟩ rp
          rw [List.getElem?_set_ne (fun w => hi (by rw [w]; exact hj))]
        · rw [if_neg hc] at h1
          exact val_ok (f := fun t e => .ok t e) (rv := .plc i []) (v := v) (Aft.refl r) ⟨fun _ z => z, v, ev', rfl⟩ (OQ_id h1) fun t e2 F2 Z2 S2 a2 q2 h3 => h3 v H F2 Z2 S2 a2 q2
/-- several, each handed back -/
def tNs (B : Bs) (c : C) : TA := tG B (fun _ => VRv B.G) (fun K env => (ev c).n K env)
theorem n_nil : PA X [] (tNs B .nil) := pa_nil.tim fun σ H Q ⟨lc, pn, Y, env, F, Z, r, h⟩ => h [] H F Z none_ (Aft.refl r) rfl
theorem n_cons {e : Expr} {es : List Expr} {a c : C} (ha : PE X e (tM B a)) (hr : PA X es (tNs B c)) (hs : starEach (e :: es) X.env = (false, eval e X.env) :: starEach es X.env) : PA X (e :: es) (tNs B (.cons a c)) := by
  refine (pa_cons ha hr hs).tim fun σ H Q ⟨lc, pn, Y, env, F, Z, r, h⟩ => ⟨lc, pn, Y, env, F, Z, r, ?_⟩
  have h1 : OQ B lc Y env σ F Z H (VRv B.G) (((ev a).m (B.k lc pn) env).bind fun v e => ((ev c).n (B.k lc pn) e).bind fun vs e => .ok (v :: vs) e) Q := h
  refine OQ.bind h1 fun t e1 v H1 F1 Z1 S1 _ a1 q1 h2 => ?_
  refine second (rv := .tmp t) (ev := fun K e => (ev c).n K e) (VR' := fun _ => VRv B.G) a1 q1 h2 fun xs e3 ws H3 F3 Z3 S3 b q2' q3 h4 => ?_
  obtain ⟨ab, d⟩ := a1.step b
  exact h4 (v :: ws) H3 F3 Z3 _ ab ⟨v, ws, S1, S3, rfl, q2', q3, d, fun _ z => .inl z, fun _ z => .inr z⟩
theorem m_tup {es : List Expr} {c : C} {k : Nat} {pos : Pos} (h : PA X es (tNs B c)) : PE X (.Tuple es k pos) (tM B (.tup c)) := by
  refine (pe_tup h).tim fun σ H Q ⟨lc, pn, Y, env, F, Z, r, h⟩ => ⟨lc, pn, Y, env, F, Z, r, ?_⟩
  have h1 : OQ B lc Y env σ F Z H (fun (t : T) (v : V) S Z H => Rep B.G Z H t v S) (((ev c).n (B.k lc pn) env).bind fun xs e => if xs.length ≤ lim then Out.ok (.nd .tup (!T.freeL xs) xs) e else .stuck) Q := h
  refine OQ.bind h1 fun xs e1 vs H1 F1 Z1 S1 _ a1 q1 h2 => ?_
  by_cases hc : xs.length ≤ lim
  · rw [if_pos hc] at h2
    refine ⟨by rw [RepL.len xs q1]; exact lim_line hc, fun p hp => ?_⟩
    have rs : Res B.G Z1 H1 .non .non (L2.upd H1 p (.tup vs)) none_ := ⟨keep_new hp, fun _ z => z.elim, fun _ z => z.elim, rfl⟩
    have a2 := a1.res rs
    refine h2 (.ref p) _ F1 Z1 S1 ⟨a2.r, fun y z => ?_, a1.sd, ⟨a2.p.keep, a2.p.al, fun y z => a1.p.grow y z, a2.p.zin, a2.p.zup⟩, a1.lk⟩ (Rep.newT hp q1)
    obtain ⟨o, e, m⟩ := a1.sm y z
    exact ⟨o, keep_new hp y o e, m⟩
  · rw [if_neg hc] at h2; exact h2.elim
theorem s_if {c : Expr} {a b : List Stmt} {t x y : C} {pos : Pos} (hc : PT X c (tB B t)) (ha : PSs X a (tBl B x)) (hb : PSs X b (tBl B y)) : PS X (.If c a b pos) (tS B (.ifS t x y)) := by
  refine (ps_if hc ha hb).tim fun D σ H ⟨lc, pn, Y, env, F, Z, r, h⟩ => ⟨lc, pn, Y, env, F, Z, r, ?_⟩
  have h1 : SQ B lc pn Y env σ F Z H ((evB (B.k lc pn) t env).run fun c env => if c = true then (ev x).bl (B.k lc pn) env else (ev y).bl (B.k lc pn) env) D := h
  refine SQ.run h1 fun c e1 c' H1 F1 Z1 S1 _ a1 q1 h2 => ?_
  have q1' : c = c' := q1
  subst q1'
  have a1' : AftS B lc pn Y env σ F Z H e1 σ F1 Z1 H1 none_ := ⟨a1.less fun _ z => z.elim, fun _ _ => rfl⟩
  cases c with
  | true => exact ⟨lc, pn, Y, e1, F1, Z1, a1.r, SQ.rebase h2 a1'⟩
  | false => exact ⟨lc, pn, Y, e1, F1, Z1, a1.r, SQ.rebase h2 a1'⟩
end
end TI
end
section
set_option maxHeartbeats 400000
/-! TV2: targets, assignments. -/
namespace TI
open PySem L2
/-- what is wanted of a target's outcome -/
def AQ (B : Bs) (lc pn : List Nat) (Y : Sa) (env : Env) (σ : St) (F Z : Sa) (H : Hp) (o : Out Unit) (Q : St → Hp → Prop) : Prop := match o with
  | .ok _ env' => ∀ (σ' : St) (H' : Hp) (F' Z' : Sa), AftS B lc pn Y env σ F Z H env' σ' F' Z' H' none_ → Q σ' H'
  | .err c xs env' => ∀ (cls : Value) (d : Option Addr) (σ' : St) (H' : Hp) (F' Z' : Sa), AftS B lc pn Y env σ F Z H env' σ' F' Z' H' none_ → ExcAt B.G B.cs Z' H' c xs cls d → B.W cls d σ' H'
  | .stuck => False
/-- something is at hand -/
structure Hand (B : Bs) (lc : List Nat) (Y : Sa) (env : Env) (σ : St) (H : Hp) (F Z S : Sa) : Prop where
  r : R B.G lc Y env σ H F Z
  sm : ∀ a, S a → ∃ o, H a = some o ∧ MutO o
  sd : ∀ a, S a → ¬ F a ∧ ¬ Z a ∧ ¬ Y a
def tA (B : Bs) (c : C) : TG := fun v σ H Q => ∃ (lc pn : List Nat) (Y : Sa) (env : Env) (F Z S : Sa) (t : T), Hand B lc Y env σ H F Z S ∧ Rep B.G Z H t v S ∧ AQ B lc pn Y env σ (fun a => F a ∨ S a) Z H ((ev c).a (B.k lc pn) t env) Q
def tAl (B : Bs) (c : C) : TGs := fun vs σ H Q => ∃ (lc pn : List Nat) (Y : Sa) (env : Env) (F Z S : Sa) (ts : List T), Hand B lc Y env σ H F Z S ∧ RepL B.G Z H ts vs S ∧ AQ B lc pn Y env σ (fun a => F a ∨ S a) Z H ((ev c).al (B.k lc pn) ts env) Q
theorem _root_.L2.PG.tim {X : Cx} {e : Expr} {t t' : TG} (h : PG X e t) (k : ∀ v σ H Q, t' v σ H Q → t v σ H Q) : PG X e t' := ⟨fun pins s σ H v u Q I r w => h.run pins s σ H v u Q I r (k v σ H Q w)⟩
theorem _root_.L2.PGs.tim {X : Cx} {e : List Expr} {t t' : TGs} (h : PGs X e t) (k : ∀ v σ H Q, t' v σ H Q → t v σ H Q) : PGs X e t' := ⟨fun pins s σ H v u Q I r w => h.run pins s σ H v u Q I r (k v σ H Q w)⟩
theorem _root_.L2.PG.or {X : Cx} {e : Expr} {t t' : TG} (h : PG X e t) (h' : PG X e t') : PG X e (fun v σ H Q => t v σ H Q ∨ t' v σ H Q) := ⟨fun pins s σ H v u Q I r w => w.elim (h.run pins s σ H v u Q I r) (h'.run pins s σ H v u Q I r)⟩
section
variable {B : Bs} {X : Cx} {sc : List (Str × NameKind)} {n : Nat} {lc pn : List Nat} {Y : Sa} {env env1 env2 e1 e2 : Env} {σ σ1 σ2 : St} {H H1 H2 H' : Hp} {F F1 F2 Z Z1 Z2 Z' S S1 S2 : Sa} {α β γ δ : Type} {D : Ends} {Q : St → Hp → Prop}
theorem Hand.of {G : Gd} (a : Aft B.G lc Y env σ F Z H env1 σ1 F1 Z1 H1 S) : Hand B lc Y env1 σ1 H1 F1 Z1 S := ⟨a.r, a.sm, a.sd⟩
theorem Hand.less (h : Hand B lc Y env σ H F Z S) (k : ∀ a, S2 a → S a) : Hand B lc Y env σ H F Z S2 := ⟨h.r, fun a z => h.sm a (k a z), fun a z => h.sd a (k a z)⟩
/-- from an earlier state: what a hand's own footprint allows -/
theorem AftS.hand (a : AftS B lc pn Y env σ F Z H env1 σ1 F1 Z1 H1 S1) (b : AftS B lc pn Y env1 σ1 (fun x => F1 x ∨ S1 x) Z1 H1 env2 σ2 F2 Z2 H2 S2) : AftS B lc pn Y env σ F Z H env2 σ2 F2 Z2 H2 S2 :=
  ⟨⟨b.a.r, b.a.sm, b.a.sd, a.a.p.trans b.a.p, a.a.lk.trans b.a.lk⟩, fun i h => (b.ks i h).trans (a.ks i h)⟩
theorem AQ.hand {o : Out Unit} (h : AQ B lc pn Y env σ F Z H o Q) (a : AftS B lc pn Y env σ F Z H env1 σ1 F1 Z1 H1 S1) : AQ B lc pn Y env1 σ1 (fun x => F1 x ∨ S1 x) Z1 H1 o Q := by
  cases o with
  | ok x e => exact fun σ' H' F' Z' b => h σ' H' F' Z' (a.hand b)
  | err c xs e => exact fun cls d σ' H' F' Z' b q => h cls d σ' H' F' Z' (a.hand b) q
  | stuck => exact h
theorem AQ.bind {o : Out Unit} {f : Unit → Env → Out Unit} {Q1 : St → Hp → Prop} (h : AQ B lc pn Y env σ F Z H (o.bind f) Q) (k : ∀ (e : Env) (σ' : St) (H' : Hp) (F' Z' : Sa), AftS B lc pn Y env σ F Z H e σ' F' Z' H' none_ → AQ B lc pn Y env σ F Z H (f () e) Q → Q1 σ' H') : AQ B lc pn Y env σ F Z H o Q1 := by
  cases o with
  | ok x e => exact fun σ' H' F' Z' b => k e σ' H' F' Z' b h
  | err c xs e => exact h
  | stuck => exact h
theorem AQ.ofS {o : Out Unit} (h : SQ B lc pn Y env σ F Z H (o.run fun _ e => .nx e) D) : AQ B lc pn Y env σ F Z H o D.nx := by
  cases o with
  | ok x e => exact h
  | err c xs e => exact h
  | stuck => exact h
theorem SQ.hand {o : SO} (h : SQ B lc pn Y env σ F Z H o D) (a : AftS B lc pn Y env σ F Z H env1 σ1 F1 Z1 H1 S1) : SQ B lc pn Y env1 σ1 (fun x => F1 x ∨ S1 x) Z1 H1 o D := by
  cases o with
  | nx e => exact fun σ' H' F' Z' b => h σ' H' F' Z' (a.hand b)
  | bk e => exact fun σ' H' F' Z' b => h σ' H' F' Z' (a.hand b)
  | ct e => exact fun σ' H' F' Z' b => h σ' H' F' Z' (a.hand b)
  | rt t e => exact fun v σ' H' F' Z' S b q => h v σ' H' F' Z' S (a.hand b) q
  | err c xs e => exact fun cls d σ' H' F' Z' b q => h cls d σ' H' F' Z' (a.hand b) q
  | stuck => exact h
theorem bind1_ok {K : Ek} {i : Nat} {t : T} {env e : Env} (h : bind1 K i t env = .ok () e) : i < env.length ∧ K.open_ i = true ∧ K.pn.contains i = false ∧ e = env.set i (some t) := by
  unfold bind1 at h
  split at h
  · rename_i hc; cases h; exact ⟨hc.1, hc.2.1, hc.2.2, rfl⟩
  · cases h
/-- a name bound -/
theorem a_name {i : Nat} {v : V} (h : tA B (.tv i) v σ H Q) : gName i v σ H Q := by
  obtain ⟨lc, pn, Y, env, F, Z, S, t, hd, q, h⟩ := h
  have h1 : AQ B lc pn Y env σ (fun a => F a ∨ S a) Z H (bind1 (B.k lc pn) i t env) Q := h
  cases eb : bind1 (B.k lc pn) i t env with
  | stuck => rw [eb] at h1; exact h1.elim
  | err c xs e => unfold bind1 at eb; split at eb <;> cases eb
  | ok u e =>
    rw [eb] at h1
    obtain ⟨hl, ho, hp, rfl⟩ := bind1_ok eb
    have hi : i ∉ lc := by simp [Ek.open_] at ho; exact ho
    have hpn : i ∉ pn := by
      intro z
      have : pn.contains i = true := by simpa using z
      rw [show (B.k lc pn).pn = pn from rfl, this] at hp; cases hp
    have hls : i < σ.length := by rw [← hd.r.len]; exact hl
    refine h1 _ H (fun a => F a ∨ S a) Z ⟨⟨hd.r.bind (σ' := σ.set i (some v)) hi hl q hd.sm (fun a z => (hd.sd a z).1) (fun a z => (hd.sd a z).2.2) (fun a z => (hd.sd a z).2.1) (by rw [List.length_set]) (fun j hj => List.getElem?_set_ne (Ne.symm hj)) (List.getElem?_set_self hls), fun _ z => z.elim, fun _ z => z.elim, ?_, ⟨by rw [List.length_set], fun j hj => ?_⟩⟩, fun j hj => ?_⟩
    · exact ⟨fun _ _ h _ => h, fun _ h => h, fun a z => .inl (z.elim id False.elim), fun _ z => z, fun _ z => .inl z⟩
    · rw [List.getElem?_set_ne (fun w => hi (by rw [w]; exact hj))]
    · rw [List.getElem?_set_ne (fun w => hj.elim (fun hj => hi (by rw [w]; exact hj)) fun hj => hpn (by rw [w]; exact hj))]
theorem g_name {i : Nat} {x : Str} {pos : Pos} (hN : X.N.Nodup) (hi : X.N[i]? = some x) (hx : Loc X.env.scope x) (hf : X.fn x = true ∨ X.env.scope.names.lookup x = some .local) : PG X (.Name x pos) (tA B (.tv i)) :=
  (pg_name hN hi hx hf).tim fun v σ H Q h => a_name h
/-- less is kept away: the locked slots are as they were -/
theorem R.lessY {G : Gd} {Y' Fb F' : Sa} {σ' : St} {env' : Env} (h0 : R G lc Y env σ H F Z) (h : R G lc Y' env' σ' H' F' Z') (hY : ∀ x, Y x → Y' x) (keep : ∀ a o, H a = some o → ¬ Fb a → H' a = some o) (zin : ∀ a, Z a → Z' a) (fmb : ∀ a, Fb a → ∃ o, H a = some o ∧ MutO o) (yb : ∀ a, Y a → ¬ Fb a) (zb : ∀ a, Z a → ¬ Fb a)
    (lk : Lck lc env env') (ks : ∀ i ∈ lc, σ'[i]? = σ[i]?) : R G lc Y env' σ' H' F' Z' := by
  obtain ⟨_, _, _, _, S9, _, v2, v3, v4⟩ := h0
  obtain ⟨hl, fm, zf, yf, S0, w1, w2, w3, w4⟩ := h
  refine ⟨hl, fm, zf, fun x z => yf x (hY x z), fun i => if i ∈ lc then S9 i else S0 i, fun i hi x z => ?_, fun i hi x z => ?_, fun i j hij x z y => ?_, fun i t e => ?_⟩
  · dsimp only at z; rw [if_neg hi] at z; exact w1 i hi x z
  · dsimp only at z; rw [if_pos hi] at z; exact v2 i hi x z
  · dsimp only at z y
    by_cases hi : i ∈ lc <;> by_cases hj : j ∈ lc
    · rw [if_pos hi] at z; rw [if_pos hj] at y; exact v3 i j hij x z y
    · rw [if_pos hi] at z; rw [if_neg hj] at y; exact (yf x (hY x (v2 i hi x z))).1 (w1 j hj x y)
    · rw [if_neg hi] at z; rw [if_pos hj] at y; exact (yf x (hY x (v2 j hj x y))).1 (w1 i hi x z)
    · rw [if_neg hi] at z; rw [if_neg hj] at y; exact w3 i j hij x z y
  · by_cases hi : i ∈ lc
    · rw [lk.2 i hi] at e
      obtain ⟨v, e1, q⟩ := v4 i t e
      refine ⟨v, by rw [ks i hi]; exact e1, ?_⟩
      dsimp only
      rw [if_pos hi]
      exact q.stab t keep fmb (fun x z => yb x (v2 i hi x z)) zb zin
    · obtain ⟨v, e1, q⟩ := w4 i t e
      refine ⟨v, e1, ?_⟩
      dsimp only
      rw [if_neg hi]
      exact q
theorem g_nil : PGs X [] (tAl B .nil) := pgs_nil.tim fun vs σ H Q ⟨lc, pn, Y, env, F, Z, S, ts, hd, q, h⟩ => by
  cases ts with
  | nil => exact ⟨q, h σ H F Z ⟨⟨hd.r, fun _ z => z.elim, fun _ z => z.elim, ⟨fun _ _ h _ => h, fun _ h => h, fun a z => .inl (z.elim .inl False.elim), fun _ z => z, fun _ z => .inl z⟩, Lck.refl⟩, fun _ _ => rfl⟩⟩
  | cons t ts => exact (show False from h).elim
theorem a_cons {a c : C} {vs : List V} (h : tAl B (.cons a c) vs σ H Q) : gCons (tA B a) (tAl B c) vs σ H Q := by
  obtain ⟨lc, pn, Y, env, F, Z, S, ts, hd, q, h⟩ := h
  cases ts with
  | nil => exact (show False from h).elim
  | cons t ts =>
    obtain ⟨v, r, S1, S2, rfl, q1, q2, d, s1, s2⟩ := q
    refine ⟨v, r, rfl, lc, pn, fun x => Y x ∨ S2 x, env, F, Z, S1, t, ⟨?_, fun x z => hd.sm x (s1 x z), fun x z => ⟨(hd.sd x (s1 x z)).1, (hd.sd x (s1 x z)).2.1, fun y => y.elim (hd.sd x (s1 x z)).2.2 (d x z)⟩⟩, q1, ?_⟩
    · obtain ⟨hl, fm, zf, yf, S0, w1, w2, w3, w4⟩ := hd.r
      exact ⟨hl, fm, zf, fun x z => z.elim (yf x) fun z => ⟨(hd.sd x (s2 x z)).1, (hd.sd x (s2 x z)).2.1, by obtain ⟨o, e, _⟩ := hd.sm x (s2 x z); rw [e]; exact fun q => nomatch q⟩, S0, w1, fun i hi x z => .inl (w2 i hi x z), w3, w4⟩
    -- what has been done keeps the rest at hand
    have conv : ∀ {e : Env} {σ' : St} {H' : Hp} {F' Z' : Sa}, AftS B lc pn (fun x => Y x ∨ S2 x) env σ (fun x => F x ∨ S1 x) Z H e σ' F' Z' H' none_ → AftS B lc pn Y env σ (fun x => F x ∨ S x) Z H e σ' F' Z' H' S2 := by
      intro e σ' H' F' Z' b
      have keep : ∀ x o, S2 x → H x = some o → H' x = some o := fun x o z e => b.a.p.keep x o e fun y => y.elim (hd.sd x (s2 x z)).1 fun y => d x y z
      refine ⟨⟨?_, fun x z => ?_, fun x z => ?_, ?_, b.a.lk⟩, b.ks⟩
      · exact hd.r.lessY (Fb := fun x => F x ∨ S1 x) b.a.r (fun _ z => .inl z) b.a.p.keep b.a.p.zin (fun x z => z.elim (hd.r.fm x) fun z => hd.sm x (s1 x z)) (fun x z y => y.elim (hd.r.yf x z).1 fun y => (hd.sd x (s1 x y)).2.2 z) (fun x z y => y.elim (hd.r.zf x z).1 fun y => (hd.sd x (s1 x y)).2.1 z) b.a.lk fun i hi => b.ks i (.inl hi)
      · obtain ⟨o, e, m⟩ := hd.sm x (s2 x z)
        exact ⟨o, keep x o z e, m⟩
      · have := b.a.r.yf x (.inr z)
        exact ⟨this.1, this.2.1, (hd.sd x (s2 x z)).2.2⟩
      · have p := b.a.p.frame S2
        refine p.sub (fun x z => z.elim (fun z => z.elim .inl fun z => .inr (s1 x z)) fun z => .inr (s2 x z)) fun x z => ?_
        rcases z with z | z
        · exact .inl (.inl (.inl z))
        · exact .inl (.inr z)
    have h1 : AQ B lc pn Y env σ (fun x => F x ∨ S x) Z H (((ev a).a (B.k lc pn) t env).bind fun _ e => (ev c).al (B.k lc pn) ts e) Q := h
    cases eo : (ev a).a (B.k lc pn) t env with
    | stuck => rw [eo] at h1; exact h1
    | err cc xs e =>
      rw [eo] at h1
      exact fun cls dd σ' H' F' Z' b q => h1 cls dd σ' H' F' Z' ((conv b).less fun _ z => z.elim) q
    | ok u e =>
      rw [eo] at h1
      intro σ' H' F' Z' b
      have b' := conv b
      refine ⟨lc, pn, Y, e, F', Z', S2, ts, ⟨b'.a.r, b'.a.sm, b'.a.sd⟩, ?_, AQ.hand (o := (ev c).al (B.k lc pn) ts e) h1 b'⟩
      exact RepL.stab ts q2 b.a.p.keep (fun x z => z.elim (hd.r.fm x) fun z => hd.sm x (s1 x z)) (fun x z y => y.elim (hd.sd x (s2 x z)).1 fun y => d x y z) (fun x z y => y.elim (hd.r.zf x z).1 fun y => (hd.sd x (s1 x y)).2.1 z) b.a.p.zin
theorem g_cons {e : Expr} {es : List Expr} {a c : C} (h1 : PG X e (tA B a)) (h2 : PGs X es (tAl B c)) (hs : (assignEach (e :: es) X.env).map (·.2) = assign e X.env :: (assignEach es X.env).map (·.2)) : PGs X (e :: es) (tAl B (.cons a c)) :=
  (pgs_cons h1 h2 hs).tim fun vs σ H Q h => a_cons h
/-- .. taken apart -/
theorem g_seq {G : Gd} {t : T} {v : V} {xs : List T} {K : PySem.W.Frag} (hG : G.K = K) (q : Rep G Z H t v S) (e : seqT (some t) = some xs) : ∃ a vs, v = .ref a ∧ (SqT K H a vs ∨ SqL K H a vs) ∧ RepL G Z H xs vs S := by
  cases t with
  | nd k f ys =>
    cases k with
    | tup =>
      cases e
      obtain ⟨a, vs, S0, rfl, hn, hk, hl, hF⟩ := q
      unfold ndF at hF
      rw [if_pos imm_t] at hF
      exact ⟨a, vs, rfl, .inl (hG ▸ hn), RepL.mono xs hl hF⟩
    | lst =>
      cases e
      obtain ⟨a, vs, S0, rfl, hn, hk, hl, hF⟩ := q
      unfold ndF at hF
      rw [if_neg (fun q => nomatch q)] at hF
      refine ⟨a, vs, rfl, .inr (sql_lst hn), RepL.mono xs hl ?_⟩
      split at hF
      · exact hF.2.2
      · exact fun x z => (hF.2 x z).elim
    | _ => cases e
  | _ => cases e
def gSeq (K : PySem.W.Frag) (n : Nat) (t : TGs) : TG := fun v σ H Q => gTup K n t v σ H Q ∨ gLst K n t v σ H Q
theorem a_tt {c : C} {v : V} (hG : B.G.K = X.K) (h : tA B (.tt c) v σ H Q) : gSeq X.K (lenC c) (tAl B c) v σ H Q := by
  obtain ⟨lc, pn, Y, env, F, Z, S, t, hd, q, h⟩ := h
  have h1 : AQ B lc pn Y env σ (fun a => F a ∨ S a) Z H (match seqT (some t) with
    | some xs => if lenC c = xs.length then (ev c).al (B.k lc pn) xs env else .stuck
    | none => .stuck) Q := h
  cases es : seqT (some t) with
  | none => rw [es] at h1; exact h1.elim
  | some xs =>
    rw [es] at h1
    dsimp only at h1
    by_cases hl : lenC c = xs.length
    · rw [if_pos hl] at h1
      obtain ⟨a, vs, rfl, hn, l⟩ := g_seq hG q es
      have hlen : vs.length = lenC c := by rw [RepL.len xs l, hl]
      have w : tAl B c vs σ H Q := ⟨lc, pn, Y, env, F, Z, S, xs, hd, l, h1⟩
      rcases hn with hn | hn
      · exact .inl ⟨a, vs, rfl, hn, hlen, w⟩
      · exact .inr ⟨a, vs, rfl, hn, hlen, w⟩
    · rw [if_neg hl] at h1; exact h1.elim
theorem g_tt {es : List Expr} {k : Nat} {pos : Pos} {c : C} (hG : B.G.K = X.K) (hc : X.calm = true) (h : PGs X es (tAl B c)) (hn : (assignEach es X.env).length = lenC c) (hst : (assignEach es X.env).findIdx? (·.1) = none) : PG X (.Tuple es k pos) (tA B (.tt c)) :=
  ((pg_tup hc h hn hst).or (pg_lst hc h hn hst)).tim fun v σ H Q w => a_tt hG w
theorem upd_ne_err {K : Ek} {rv : RV} {env : Env} {c : Nat} {xs : List T} {e : Env} (h : valR K rv env = .err c xs e) : False := by
  cases rv with
  | tmp t => cases h
  | plc i p =>
    unfold valR at h
    dsimp only at h
    repeat' (split at h)
    all_goals cases h
/-- a value kept -/
theorem val_inv {rv : RV} {v : V} {t : T} (a : Aft B.G lc Y env σ F Z H env1 σ F1 Z1 H1 S1) (q : RepRV B.G σ Z1 H1 rv v S1) (e : valR (B.k lc pn) rv env1 = .ok t e2) : ∃ F2 Z2 S2, Aft B.G lc Y env σ F Z H e2 σ F2 Z2 H1 S2 ∧ Rep B.G Z2 H1 t v S2 := by
  refine val_ok (VR := fun (a b : T × Env) _ _ _ => a = b) (Q := fun b _ => b = (t, e2)) (f := fun t' e' => .ok (t', e') e') a q (by rw [e]; exact fun b H' F' Z' S _ w => w.symm) fun t' e' F2 Z2 S2 a2 q2 h => ?_
  have w : (t', e') = (t, e2) := h (t', e') H1 F2 Z2 S2 a2 rfl
  cases w
  exact ⟨F2, Z2, S2, a2, q2⟩
theorem SQ.val {rv : RV} {v : V} {f : T → Env → SO} {Q2 : Prop} (a : Aft B.G lc Y env σ F Z H env1 σ F1 Z1 H1 S1) (q : RepRV B.G σ Z1 H1 rv v S1) (h : SQ B lc pn Y env σ F Z H ((valR (B.k lc pn) rv env1).run f) D)
    (k : ∀ (t : T) (e2 : Env) (F2 Z2 S2 : Sa), Aft B.G lc Y env σ F Z H e2 σ F2 Z2 H1 S2 → Rep B.G Z2 H1 t v S2 → SQ B lc pn Y env σ F Z H (f t e2) D → Q2) : Q2 := by
  cases e : valR (B.k lc pn) rv env1 with
  | stuck => rw [e] at h; exact h.elim
  | err c xs e2 => exact (upd_ne_err e).elim
  | ok t e2 =>
    rw [e] at h
    obtain ⟨F2, Z2, S2, a2, q2⟩ := val_inv a q e
    exact k t e2 F2 Z2 S2 a2 q2 h
/-- target = value -/
theorem asg_ok {tg c : C} (hc : (ev (.asg tg c)).s = fun K env => ((ev c).r K env).run fun x e => (valR K x e).run fun v e => ((ev tg).a K v e).run fun _ e => .nx e) (h : tS B (.asg tg c) D σ H) : tAsg (tR B c) (tA B tg) D σ H := by
  obtain ⟨lc, pn, Y, env, F, Z, r, h⟩ := h
  have h1 : SQ B lc pn Y env σ F Z H ((evR (B.k lc pn) c env).run fun x e => (valR (B.k lc pn) x e).run fun v e => ((ev tg).a (B.k lc pn) v e).run fun _ e => .nx e) D := by
    have h2 : SQ B lc pn Y env σ F Z H ((ev (.asg tg c)).s (B.k lc pn) env) D := h
    rw [hc] at h2; exact h2
  refine ⟨lc, pn, Y, env, F, Z, r, SQ.run h1 fun rv e1 v H1 F1 Z1 S1 _ a1 q1 h2 => ?_⟩
  refine SQ.val a1 q1 h2 fun t e2 F2 Z2 S2 a2 q2 h3 => ?_
  exact ⟨lc, pn, Y, e2, F2, Z2, S2, t, ⟨a2.r, a2.sm, a2.sd⟩, q2, AQ.hand (AQ.ofS h3) ⟨a2, fun _ _ => rfl⟩⟩
theorem s_set {i j : Nat} {x : Str} {e : Expr} {c : C} {pos pos' : Pos} (hN : X.N.Nodup) (hi : X.N[i]? = some x) (hx : Loc X.env.scope x) (he : PE X e (tR B c)) (hs : swapsWith e (some (.Name x pos')) pos.line X.env = pure false) (hf : X.fn x = true ∨ X.env.scope.names.lookup x = some .local) :
    PS X (.Assign [.Name x pos'] e pos) (tS B (.asg (.tv i) c)) :=
  (ps_set hN hi hx he hs hf).tim fun D σ H h => tG.mono (asg_ok rfl h) fun v H1 w => a_name w
/-- (a, b, ..) = value -/
theorem s_asgT {tg e : Expr} {g c : C} {pos : Pos} (hG : B.G.K = X.K) (he : PE X e (tR B c)) (hg : PG X tg (gSeq X.K (lenC g) (tAl B g))) (hs : swapsWithSole [tg] e pos.line X.env = pure false) (hw : swappedStores [tg] e X.env = pure none)
    (h1 : (assignEach [tg] X.env).map (·.2) = [assign tg X.env]) : PS X (.Assign [tg] e pos) (tS B (.asg (.tt g) c)) := by
  refine (ps_asg he hg hs hw h1).tim fun D σ H ⟨lc, pn, Y, env, F, Z, r, h⟩ => ⟨lc, pn, Y, env, F, Z, r, ?_⟩
  have h1 : SQ B lc pn Y env σ F Z H ((evR (B.k lc pn) c env).run fun x e => (match seqT (lookR e x) with
      | some xs => if lenC g = xs.length ∧ (isTmp x = true ∨ T.freeL xs = true) then ((ev g).al (B.k lc pn) xs e).run fun _ e => .nx e else .stuck
      | none => .stuck)) D := h
  refine SQ.run h1 fun rv e1 v H1 F1 Z1 S1 _ a1 q1 h2 => ?_
  cases es : seqT (lookR e1 rv) with
  | none => rw [es] at h2; exact h2.elim
  | some xs =>
    rw [es] at h2
    dsimp only at h2
    by_cases hc : lenC g = xs.length ∧ (isTmp rv = true ∨ T.freeL xs = true)
    · rw [if_pos hc] at h2
      cases el : lookR e1 rv with
      | none => rw [el] at es; cases es
      | some t =>
        rw [el] at es
        obtain ⟨T1, r1, hT⟩ := look_rep' a1.r q1 el
        obtain ⟨a, vs, rfl, hn, l⟩ := g_seq hG r1 es
        have hlen : vs.length = lenC g := by rw [RepL.len xs l, hc.1]
        have l' : ∃ S2 : Sa, RepL B.G Z1 H1 xs vs S2 ∧ ∀ x, S2 x → S1 x := by
          rcases hc.2 with ht | hf
          · cases rv with
            | tmp t' => exact ⟨T1, l, hT ⟨_, rfl⟩⟩
            | plc _ _ => cases ht
          · exact ⟨none_, l.bare xs hf, fun _ z => z.elim⟩
        obtain ⟨S2, l2, hS⟩ := l'
        have a2 := a1.less hS
        have w : tAl B g vs σ H1 D.nx := ⟨lc, pn, Y, e1, F1, Z1, S2, xs, ⟨a2.r, a2.sm, a2.sd⟩, l2, AQ.hand (AQ.ofS h2) ⟨a2, fun _ _ => rfl⟩⟩
        rcases hn with hn | hn
        · exact .inl ⟨a, vs, rfl, hn, hlen, w⟩
        · exact .inr ⟨a, vs, rfl, hn, hlen, w⟩
    · rw [if_neg hc] at h2; exact h2.elim
theorem al2 {i j : Nat} {u v : V} (h : tAl B (.cons (.tv i) (.cons (.tv j) .nil)) [u, v] σ H Q) : Q ((σ.set i (some u)).set j (some v)) H := by
  obtain ⟨_, _, e, h1⟩ := a_cons h
  cases e
  have h2 := a_name h1
  obtain ⟨_, _, e, h3⟩ := a_cons h2
  cases e
  have h4 := a_name h3
  obtain ⟨lc, pn, Y, env, F, Z, S, ts, hd, q, h5⟩ := h4
  cases ts with
  | nil => exact h5 _ H F Z ⟨⟨hd.r, fun _ z => z.elim, fun _ z => z.elim, ⟨fun _ _ h _ => h, fun _ h => h, fun a z => .inl (z.elim .inl False.elim), fun _ z => z, fun _ z => .inl z⟩, Lck.refl⟩, fun _ _ => rfl⟩
  | cons t ts => exact (show False from h5).elim
theorem al3 {i j l : Nat} {u v w : V} (h : tAl B (.cons (.tv i) (.cons (.tv j) (.cons (.tv l) .nil))) [u, v, w] σ H Q) : Q (((σ.set i (some u)).set j (some v)).set l (some w)) H := by
  obtain ⟨_, _, e, h1⟩ := a_cons h
  cases e
  have h2 := a_name h1
  exact al2 h2
theorem par_ok {g c : C} (h : tS B (.par g c) D σ H) : tV B c σ H (fun vs H1 => tAl B g vs σ H1 D.nx) := by
  obtain ⟨lc, pn, Y, env, F, Z, r, h⟩ := h
  have h1 : SQ B lc pn Y env σ F Z H ((evV (B.k lc pn) c env).run fun vs e => ((ev g).al (B.k lc pn) vs e).run fun _ e => .nx e) D := h
  refine ⟨lc, pn, Y, env, F, Z, r, SQ.run h1 fun ts e1 vs H1 F1 Z1 S1 _ a1 q1 h2 => ?_⟩
  exact ⟨lc, pn, Y, e1, F1, Z1, S1, ts, ⟨a1.r, a1.sm, a1.sd⟩, q1, AQ.hand (AQ.ofS h2) ⟨a1, fun _ _ => rfl⟩⟩
theorem tAl_len {g : C} {vs : List V} (h : tAl B g vs σ H Q) (k : ∀ {K : Ek} {ts : List T} {env : Env}, (ev g).al K ts env ≠ .stuck → ts.length = n) : vs.length = n := by
  obtain ⟨lc, pn, Y, env, F, Z, S, ts, hd, q, h⟩ := h
  rw [RepL.len ts q]
  exact k fun e => by rw [e] at h; exact h
theorem s_par {i j : Nat} {x y : Str} {a b : Expr} {c : C} {px py pt pos : Pos} {kt k2 pt2} (hc : X.calm = true) (hN : X.N.Nodup) (hi : X.N[i]? = some x) (hj : X.N[j]? = some y) (hij : i ≠ j)
    (hx : X.env.scope.names.lookup x = some .local) (hy : X.env.scope.names.lookup y = some .local) (ha : PA X [a, b] (tV B c))
    (hw : swappedStores [.Tuple [.Name x px, .Name y py] kt pt] (.Tuple [a, b] k2 pt2) X.env = pure (some [x, y]))
    (hs : swapsWithSole [.Tuple [.Name x px, .Name y py] kt pt] (.Tuple [a, b] k2 pt2) pos.line X.env = pure false) :
    PS X (.Assign [.Tuple [.Name x px, .Name y py] kt pt] (.Tuple [a, b] k2 pt2) pos) (tS B (.par (.cons (.tv i) (.cons (.tv j) .nil)) c)) := by
  refine (ps_par hc hN hi hj hij hx hy ha hw hs).tim fun D σ H h => tG.mono (par_ok h) fun vs H1 w => ?_
  obtain ⟨v, r, rfl, h1⟩ := a_cons w
  obtain ⟨v2, r2, rfl, h2⟩ := a_cons (a_name h1)
  have e : r2 = [] := by
    have h3 := a_name h2
    obtain ⟨lc, pn, Y, env, F, Z, S, ts, hd, q, h5⟩ := h3
    cases ts with
    | nil => exact q
    | cons t ts => exact (show False from h5).elim
  subst e
  exact ⟨v, v2, rfl, al2 w⟩
theorem s_par3 {i j l : Nat} {x y z : Str} {a b d : Expr} {c : C} {px py pz pt pos : Pos} {kt k2 pt2} (hc : X.calm = true) (hN : X.N.Nodup) (hi : X.N[i]? = some x) (hj : X.N[j]? = some y) (hl : X.N[l]? = some z) (hij : i ≠ j) (hil : i ≠ l) (hjl : j ≠ l)
    (hx : X.env.scope.names.lookup x = some .local) (hy : X.env.scope.names.lookup y = some .local) (hz : X.env.scope.names.lookup z = some .local) (ha : PA X [a, b, d] (tV B c))
    (hw : swappedStores [.Tuple [.Name x px, .Name y py, .Name z pz] kt pt] (.Tuple [a, b, d] k2 pt2) X.env = pure (some [x, y, z]))
    (hs : swapsWithSole [.Tuple [.Name x px, .Name y py, .Name z pz] kt pt] (.Tuple [a, b, d] k2 pt2) pos.line X.env = pure false) :
    PS X (.Assign [.Tuple [.Name x px, .Name y py, .Name z pz] kt pt] (.Tuple [a, b, d] k2 pt2) pos) (tS B (.par (.cons (.tv i) (.cons (.tv j) (.cons (.tv l) .nil))) c)) := by
  refine (ps_par3 hc hN hi hj hl hij hil hjl hx hy hz ha hw hs).tim fun D σ H h => tG.mono (par_ok h) fun vs H1 w => ?_
  obtain ⟨v, r, rfl, h1⟩ := a_cons w
  obtain ⟨v2, r2, rfl, h2⟩ := a_cons (a_name h1)
  obtain ⟨v3, r3, rfl, h3⟩ := a_cons (a_name h2)
  have e : r3 = [] := by
    have h3 := a_name h3
    obtain ⟨lc, pn, Y, env, F, Z, S, ts, hd, q, h5⟩ := h3
    cases ts with
    | nil => exact q
    | cons t ts => exact (show False from h5).elim
  subst e
  exact ⟨v, v2, v3, rfl, al3 w⟩
end
end TI
end
section
set_option maxHeartbeats 400000
/-! TV3: loops. -/
namespace TI
open PySem L2
/-- a walk yields what the trees say, while the sources stand -/
def Walks (G : Gd) (J : It) (ts : List T) (vs : List V) (its : List T) : Prop := ∀ (Z : Sa) (H : Hp), RepA G Z H ts vs → (∀ i, i < its.length → J.go i H) ∧ J.stop its.length H ∧ ∀ i t x H', its[i]? = some t → J.yld i H x H' → Res G Z H t x H' none_
def tI (B : Bs) (c : C) : TI := fun σ H Rk => ∃ (lc pn : List Nat) (Y : Sa) (env : Env) (F Z : Sa), R B.G lc Y env σ H F Z ∧ match (ev c).i (B.k lc pn) env with
  | .ok q e1 => (match lookAll e1 q.1 with
    | some ts => (match itemsK q.2 ts with
      | some its => ∀ (J : It) (vs : List V) (H1 : Hp) (F1 Z1 S1 : Sa), Aft B.G lc Y env σ F Z H e1 σ F1 Z1 H1 S1 → RepRVs B.G σ Z1 H1 q.1 vs S1 → Walks B.G J ts vs its → Rk J H1
      | none => False)
    | none => False)
  | .err c xs env' => ∀ (cls : Value) (d : Option Addr) (H' : Hp) (F' Z' : Sa), Aft B.G lc Y env σ F Z H env' σ F' Z' H' none_ → ExcAt B.G B.cs Z' H' c xs cls d → B.W cls d σ H'
  | .stuck => False
theorem _root_.L2.PI.tim {X : Cx} {tg e : Expr} {t t' : L2.TI} (h : PI X tg e t) (k : ∀ σ H Q, t' σ H Q → t σ H Q) : PI X tg e t' := ⟨fun pins s σ H Q I w => h.run pins s σ H Q I (k σ H Q w)⟩
theorem _root_.L2.PI.or {X : Cx} {tg e : Expr} {t t' : L2.TI} (h : PI X tg e t) (h' : PI X tg e t') : PI X tg e (fun σ H Q => t σ H Q ∨ t' σ H Q) := ⟨fun pins s σ H Q I w => w.elim (h.run pins s σ H Q I) (h'.run pins s σ H Q I)⟩
section
variable {B : Bs} {X : Cx} {sc : List (Str × NameKind)} {n : Nat} {lc pn : List Nat} {Y : Sa} {env env1 env2 e1 e2 : Env} {σ σ1 σ2 : St} {H H1 H2 H' : Hp} {F F1 F2 Z Z1 Z2 Z' S S1 S2 : Sa} {α β γ δ : Type} {D : Ends} {Q : St → Hp → Prop} {G : Gd}
/-- what is read of a locked slot lies in what is kept -/
theorem look_lock {r : Nat} {p : List Nat} {v : V} {t : T} (h : R G lc Y env σ H F Z) (hr : r ∈ lc) (q : RepRV G σ Z H (.plc r p) v S) (e : lookR env (.plc r p) = some t) : ∃ S', Rep G Z H t v S' ∧ ∀ a, S' a → Y a := by
  have e1 : (match env[r]? with | some (some u) => u.get p | _ => none) = some t := e
  cases ei : env[r]? with
  | none => rw [ei] at e1; cases e1
  | some o =>
    cases o with
    | none => rw [ei] at e1; cases e1
    | some x =>
      rw [ei] at e1
      obtain ⟨hl, fm, zf, yf, S0, s1, s2, s3, s4⟩ := h
      obtain ⟨u, eu, rp⟩ := s4 r x ei
      obtain ⟨_, u', eu', nv⟩ := q
      rw [eu] at eu'; cases eu'
      obtain ⟨w, Sx, S1, nw, rx, a1, _⟩ := placeL p rp e1
      cases nv.inj nw
      exact ⟨Sx, rx, fun a z => s2 r hr a (a1 a z)⟩
/-- the sources, each within what is kept -/
def RepB (G : Gd) (Z : Sa) (H : Hp) (Y : Sa) : List T → List V → Prop
  | [], vs => vs = []
  | x :: xs, vs => ∃ v r S, vs = v :: r ∧ Rep G Z H x v S ∧ (∀ a, S a → Y a) ∧ RepB G Z H Y xs r
theorem RepB.mono {Y' : Sa} (h : ∀ a, Y a → Y' a) : ∀ {ts : List T} {vs : List V}, RepB G Z H Y ts vs → RepB G Z H Y' ts vs
  | [], _, q => q
  | _ :: _, _, ⟨v, r, S, e, q, s, k⟩ => ⟨v, r, S, e, q, fun a z => h a (s a z), RepB.mono h k⟩
theorem RepB.stab {Fc : Sa} (st : Stab Fc H H') (fm : ∀ a, Fc a → ∃ o, H a = some o ∧ MutO o) (hy : ∀ a, Y a → ¬ Fc a) (hz : ∀ a, Z a → ¬ Fc a) (hzz : ∀ a, Z a → Z' a) : ∀ {ts : List T} {vs : List V}, RepB G Z H Y ts vs → RepA G Z' H' ts vs
  | [], _, q => q
  | x :: _, _, ⟨v, r, S, e, q, s, k⟩ => ⟨v, r, S, e, q.stab x st fm (fun a z => hy a (s a z)) hz hzz, RepB.stab st fm hy hz hzz k⟩
/-- all sources locked -/
theorem lock_all (K : Ek) : ∀ (rvs : List RV) {vs : List V} {S : Sa} {lc : List Nat} {Y F : Sa} {ts : List T}, Hand B lc Y env σ H F Z S → RepRVs B.G σ Z H rvs vs S → lookAll env rvs = some ts → ∃ (lc' : List Nat) (Y' F' : Sa), (∀ K : Ek, K.lc = lc → K.lockRs rvs = { K with lc := lc' }) ∧ R B.G lc' Y' env σ H F' Z ∧ (∀ a, Y a → Y' a) ∧ RepB B.G Z H Y' ts vs ∧
    ∀ {H2 : Hp} {F2 Z2 S2 : Sa} {env2 : Env} {σ2 : St}, AftS B lc' pn Y' env σ F' Z H env2 σ2 F2 Z2 H2 S2 → ∃ F3, AftS B lc pn Y env σ (fun a => F a ∨ S a) Z H env2 σ2 F3 Z2 H2 S2
  | [], vs, S, lc, Y, F, ts, hd, q, e => by
    cases e
    refine ⟨lc, Y, F, fun K h => by subst h; rfl, hd.r, fun _ z => z, q, fun {H2 F2 Z2 S2 env2 σ2} a => ⟨F2, ⟨⟨a.a.r, a.a.sm, a.a.sd, ?_, a.a.lk⟩, a.ks⟩⟩⟩
    exact a.a.p.sub (fun _ z => .inl z) fun x z => .inl z
  | .tmp t :: rvs, vs, S, lc, Y, F, ts, hd, ⟨v, r, S1, S2, ev, q1, q2, d, s1, s2⟩, e => by
    subst ev
    have e' : (match lookAll env rvs with | some us => some (t :: us) | none => none) = some ts := by
      have e0 : (match some t, lookAll env rvs with | some t, some ts => some (t :: ts) | _, _ => none) = some ts := e
      cases q : lookAll env rvs with
      | none => rw [q] at e0; cases e0
      | some us => rw [q] at e0; exact e0
    cases eu : lookAll env rvs with
    | none => rw [eu] at e'; cases e'
    | some us =>
      rw [eu] at e'; cases e'
      have hne : ∀ x, S x → H x ≠ none := fun x z => by obtain ⟨o, e, _⟩ := hd.sm x z; rw [e]; exact fun q => nomatch q
      have hd1 : Hand B lc (fun a => Y a ∨ S1 a) env σ H F Z S2 := by
        refine ⟨?_, fun x z => hd.sm x (s2 x z), fun x z => ⟨(hd.sd x (s2 x z)).1, (hd.sd x (s2 x z)).2.1, fun y => y.elim (hd.sd x (s2 x z)).2.2 fun y => d x y z⟩⟩
        obtain ⟨hl, fm, zf, yf, S0, w1, w2, w3, w4⟩ := hd.r
        exact ⟨hl, fm, zf, fun x z => z.elim (yf x) fun z => ⟨(hd.sd x (s1 x z)).1, (hd.sd x (s1 x z)).2.1, hne x (s1 x z)⟩, S0, w1, fun i hi x z => .inl (w2 i hi x z), w3, w4⟩
      obtain ⟨lc', Y', F', hK, r', hY, rb, back⟩ := lock_all K rvs hd1 q2 eu
      refine ⟨lc', Y', F', hK, r', fun a z => hY a (.inl z), ⟨v, r, S1, rfl, q1, fun a z => hY a (.inr z), rb⟩, fun {H2 F2 Z2 S2' env2 σ2} a => ?_⟩
      obtain ⟨F3, b⟩ := back a
      have hfS : ∀ x, F x ∨ S2 x → ∃ o, H x = some o ∧ MutO o := fun x z => z.elim (hd.r.fm x) fun z => hd.sm x (s2 x z)
      refine ⟨F3, ⟨⟨hd.r.lessY (Fb := fun x => F x ∨ S2 x) b.a.r (fun _ z => .inl z) (fun x o e n => b.a.p.keep x o e n) b.a.p.zin hfS (fun x z y => y.elim (hd.r.yf x z).1 fun y => (hd.sd x (s2 x y)).2.2 z) (fun x z y => y.elim (hd.r.zf x z).1 fun y => (hd.sd x (s2 x y)).2.1 z) b.a.lk fun i hi => b.ks i (.inl hi),
        b.a.sm, fun x z => ⟨(b.a.sd x z).1, (b.a.sd x z).2.1, fun y => (b.a.sd x z).2.2 (.inl y)⟩, b.a.p.sub (fun x z => z.elim .inl fun z => .inr (s2 x z)) fun x z => .inl z, b.a.lk⟩, b.ks⟩⟩
  | .plc i p :: rvs, vs, S, lc, Y, F, ts, hd, ⟨v, r, S1, S2, ev, q1, q2, d, s1, s2⟩, e => by
    subst ev
    have e0 : (match lookR env (.plc i p), lookAll env rvs with | some t, some ts => some (t :: ts) | _, _ => none) = some ts := e
    cases et : lookR env (.plc i p) with
    | none => rw [et] at e0; cases e0
    | some t =>
      cases eu : lookAll env rvs with
      | none => rw [et, eu] at e0; cases e0
      | some us =>
        rw [et, eu] at e0; cases e0
        by_cases hi : i ∈ lc
        · have hd1 : Hand B (i :: lc) Y env σ H F Z S2 := ⟨hd.r.dup hi, fun x z => hd.sm x (s2 x z), fun x z => hd.sd x (s2 x z)⟩
          obtain ⟨lc', Y', F', hK, r', hY, rb, back⟩ := lock_all K rvs hd1 q2 eu
          obtain ⟨S', qt, hs⟩ := look_lock hd.r hi q1 et
          refine ⟨lc', Y', F', fun K h => hK (K.lock i) (by subst h; rfl), r', hY, ⟨v, r, S', rfl, qt, fun a z => hY a (hs a z), rb⟩, fun {H2 F2 Z2 S2' env2 σ2} a => ?_⟩
          obtain ⟨F3, b⟩ := back a
          refine ⟨F3, ⟨⟨b.a.r.undup hi, b.a.sm, b.a.sd, b.a.p.sub (fun x z => z.elim .inl fun z => .inr (s2 x z)) fun x z => .inl z, ⟨b.a.lk.1, fun j hj => b.a.lk.2 j (List.mem_cons_of_mem _ hj)⟩⟩, fun j hj => b.ks j (hj.elim (fun z => .inl (List.mem_cons_of_mem _ z)) .inr)⟩⟩
        · obtain ⟨Sr, hSr, r1, bk⟩ := hd.r.lock hi
          have hd1 : Hand B (i :: lc) (fun a => Y a ∨ Sr a) env σ H (fun a => F a ∧ ¬ Sr a) Z S2 := ⟨r1, fun x z => hd.sm x (s2 x z), fun x z => ⟨fun y => (hd.sd x (s2 x z)).1 y.1, (hd.sd x (s2 x z)).2.1, fun y => y.elim (hd.sd x (s2 x z)).2.2 fun y => (hd.sd x (s2 x z)).1 (hSr x y)⟩⟩
          obtain ⟨lc', Y', F', hK, r', hY, rb, back⟩ := lock_all K rvs hd1 q2 eu
          obtain ⟨S', qt, hs⟩ := look_lock r1 List.mem_cons_self q1 et
          refine ⟨lc', Y', F', fun K h => hK (K.lock i) (by subst h; rfl), r', fun a z => hY a (.inl z), ⟨v, r, S', rfl, qt, fun a z => hY a (hs a z), rb⟩, fun {H2 F2 Z2 S2' env2 σ2} a => ?_⟩
          obtain ⟨F3, b⟩ := back a
          have fmb : ∀ x, (F x ∧ ¬ Sr x) ∨ S2 x → ∃ o, H x = some o ∧ MutO o := fun x z => z.elim (fun z => hd.r.fm x z.1) fun z => hd.sm x (s2 x z)
          have dj : ∀ x, (F x ∧ ¬ Sr x) ∨ S2 x → ¬ Y x ∧ ¬ Sr x ∧ ¬ Z x := fun x z => z.elim (fun z => ⟨fun y => (hd.r.yf x y).1 z.1, z.2, fun y => (hd.r.zf x y).1 z.1⟩) fun z => ⟨(hd.sd x (s2 x z)).2.2, fun y => (hd.sd x (s2 x z)).1 (hSr x y), (hd.sd x (s2 x z)).2.1⟩
          refine ⟨fun x => F3 x ∨ Sr x, ⟨⟨bk (Fb := fun x => (F x ∧ ¬ Sr x) ∨ S2 x) b.a.r b.a.p.keep b.a.p.zin fmb dj b.a.lk fun j hj => b.ks j (.inl hj), b.a.sm, fun x z => ⟨fun y => y.elim (b.a.sd x z).1 fun y => (b.a.sd x z).2.2 (.inr y), (b.a.sd x z).2.1, fun y => (b.a.sd x z).2.2 (.inl y)⟩, ?_, ⟨b.a.lk.1, fun j hj => b.a.lk.2 j (List.mem_cons_of_mem _ hj)⟩⟩, fun j hj => b.ks j (hj.elim (fun z => .inl (List.mem_cons_of_mem _ z)) .inr)⟩⟩
          refine b.a.p.sub (fun x z => z.elim (fun z => .inl z.1) fun z => .inr (s2 x z)) fun x z => ?_
          rcases z with (z | z) | z
          · exact .inl (.inl z)
          · exact .inr (.inl (.inl (hSr x z)))
          · exact .inl (.inr z)
end
end TI
end
section
set_option maxHeartbeats 400000
/-! TV4: for. -/
namespace TI
open PySem L2
section
variable {B : Bs} {X : Cx} {sc : List (Str × NameKind)} {n : Nat} {lc pn : List Nat} {Y : Sa} {env env1 env2 e1 e2 : Env} {σ σ1 σ2 : St} {H H1 H2 H' : Hp} {F F1 F2 Z Z1 Z2 Z' S S1 S2 : Sa} {α β γ δ : Type} {D : Ends} {Q : St → Hp → Prop} {G : Gd}
/-- a wish carried to another base -/
theorem SQ.conv {lc' pn' : List Nat} {Y' : Sa} {o : SO} (h : SQ B lc pn Y env σ F Z H o D) (k : ∀ {H2 : Hp} {F2 Z2 S2 : Sa} {e2 : Env} {σ2 : St}, AftS B lc' pn' Y' env1 σ1 F1 Z1 H1 e2 σ2 F2 Z2 H2 S2 → ∃ F3, AftS B lc pn Y env σ F Z H e2 σ2 F3 Z2 H2 S2) : SQ B lc' pn' Y' env1 σ1 F1 Z1 H1 o D := by
  cases o with
  | nx e => intro σ' H' F' Z' b; obtain ⟨F3, b'⟩ := k b; exact h σ' H' F3 Z' b'
  | bk e => intro σ' H' F' Z' b; obtain ⟨F3, b'⟩ := k b; exact h σ' H' F3 Z' b'
  | ct e => intro σ' H' F' Z' b; obtain ⟨F3, b'⟩ := k b; exact h σ' H' F3 Z' b'
  | rt t e => intro v σ' H' F' Z' S b q; obtain ⟨F3, b'⟩ := k b; exact h v σ' H' F3 Z' S b' q
  | err c xs e => intro cls d σ' H' F' Z' b q; obtain ⟨F3, b'⟩ := k b; exact h cls d σ' H' F3 Z' b' q
  | stuck => exact h
theorem AQ.run {o : Out Unit} {f : Unit → Env → SO} {Q1 : St → Hp → Prop} (h : SQ B lc pn Y env σ F Z H (o.run f) D) (k : ∀ (e : Env) (σ' : St) (H' : Hp) (F' Z' : Sa), AftS B lc pn Y env σ F Z H e σ' F' Z' H' none_ → SQ B lc pn Y env σ F Z H (f () e) D → Q1 σ' H') : AQ B lc pn Y env σ F Z H o Q1 := by
  cases o with
  | ok x e => exact fun σ' H' F' Z' b => k e σ' H' F' Z' b h
  | err c xs e => exact h
  | stuck => exact h
theorem forL_cons (g : T → Env → Out Unit) (b : Env → SO) (x : T) (r : List T) (env : Env) : forL g b (x :: r) env = (g x env).run fun _ e => match b e with
    | .nx e => forL g b r e
    | .ct e => forL g b r e
    | .bk e => .nx e
    | o => o := rfl
theorem s_for {iter tg : Expr} {body : List Stmt} {it g b : C} {pos : Pos} (hp : PassesOwn (model X.prog X.w) X.A X.env X.xe) (hc : X.calm = true) (hi : PI X tg iter (tI B it)) (hg : PG X tg (tA B g)) (hb : PSs X body (tBl B b))
    (hs : ∀ x, foldedSetIterable iter X.env x = pure x) : PS X (.For tg iter body [] pos) (tS B (.forS g it b)) := by
  refine (ps_for hp hc hi hg hb hs).tim fun D σ H ⟨lc, pn, Y, env, F, Z, r, h⟩ => ⟨lc, pn, Y, env, F, Z, r, ?_⟩
  have h1 : SQ B lc pn Y env σ F Z H (((ev it).i (B.k lc pn) env).run fun q env => match lookAll env q.1 with
    | some ts => (match itemsK q.2 ts with
      | some its => forL ((ev g).a ((B.k lc pn).lockRs q.1)) ((ev b).bl ((B.k lc pn).lockRs q.1)) its env
      | none => .stuck)
    | none => .stuck) D := h
  cases eo : (ev it).i (B.k lc pn) env with
  | stuck => rw [eo] at h1; exact h1
  | err c xs e =>
    rw [eo] at h1
    exact fun cls d H' F' Z' a q => h1 cls d σ H' F' Z' ⟨a, fun _ _ => rfl⟩ q
  | ok q e1 =>
    rw [eo] at h1
    have h2 : SQ B lc pn Y env σ F Z H (match lookAll e1 q.1 with
      | some ts => (match itemsK q.2 ts with
        | some its => forL ((ev g).a ((B.k lc pn).lockRs q.1)) ((ev b).bl ((B.k lc pn).lockRs q.1)) its e1
        | none => .stuck)
      | none => .stuck) D := h1
    dsimp only
    cases el : lookAll e1 q.1 with
    | none => rw [el] at h2; exact h2
    | some ts =>
      rw [el] at h2
      dsimp only at h2 ⊢
      cases ei : itemsK q.2 ts with
      | none => rw [ei] at h2; exact h2
      | some its =>
        rw [ei] at h2
        dsimp only at h2 ⊢
        intro J vs H1 F1 Z1 S1 a1 q1 wk
        obtain ⟨lc', Y', F', hK, r', hY, rb, back⟩ := lock_all (pn := pn) (B.k lc pn) q.1 (Hand.of (G := B.G) a1) q1 el
        rw [hK (B.k lc pn) rfl] at h2
        have hK' : ({ B.k lc pn with lc := lc' } : Ek) = B.k lc' pn := rfl
        rw [hK'] at h2
        -- the loop's own base
        have toBase : ∀ {H2 : Hp} {F2 Z2 S2 : Sa} {e2 : Env} {σ2 : St}, AftS B lc' pn Y' e1 σ F' Z1 H1 e2 σ2 F2 Z2 H2 S2 → ∃ F3, AftS B lc pn Y env σ F Z H e2 σ2 F3 Z2 H2 S2 := fun a => by
          obtain ⟨F3, b⟩ := back a
          exact ⟨F3, AftS.hand ⟨a1, fun _ _ => rfl⟩ b⟩
        have h3 : SQ B lc' pn Y' e1 σ F' Z1 H1 (forL ((ev g).a (B.k lc' pn)) ((ev b).bl (B.k lc' pn)) its e1) D := SQ.conv h2 toBase
        have src : ∀ {H2 : Hp} {F2 Z2 S2 : Sa} {e2 : Env} {σ2 : St}, AftS B lc' pn Y' e1 σ F' Z1 H1 e2 σ2 F2 Z2 H2 S2 → RepA B.G Z2 H2 ts vs := fun a =>
          RepB.stab (Fc := F') a.a.p.keep r'.fm (fun x z => (r'.yf x z).1) (fun x z => (r'.zf x z).1) a.a.p.zin rb
        refine ⟨fun i m σ' H' => i ≤ its.length ∧ m = its.length - i ∧ ∃ (e2 : Env) (F2 Z2 : Sa), AftS B lc' pn Y' e1 σ F' Z1 H1 e2 σ' F2 Z2 H' none_ ∧ SQ B lc' pn Y' e1 σ F' Z1 H1 (forL ((ev g).a (B.k lc' pn)) ((ev b).bl (B.k lc' pn)) (its.drop i) e2) D, ⟨its.length, Nat.zero_le _, rfl, e1, F', Z1, AftS.refl r', h3⟩, ?_⟩
        rintro i m σ3 H3 ⟨hle, hm, e3, F3, Z3, a3, h4⟩
        obtain ⟨wgo, wstop, wyld⟩ := wk Z3 H3 (src a3)
        by_cases hlt : i < its.length
        · refine .inr ⟨wgo i hlt, fun σ' H' => i + 1 ≤ its.length ∧ ∃ (e2 : Env) (F2 Z2 : Sa), AftS B lc' pn Y' e1 σ F' Z1 H1 e2 σ' F2 Z2 H' none_ ∧ SQ B lc' pn Y' e1 σ F' Z1 H1 (forL ((ev g).a (B.k lc' pn)) ((ev b).bl (B.k lc' pn)) (its.drop (i + 1)) e2) D, ?_, ?_⟩
          · rintro σ' H' ⟨h5, e5, F5, Z5, a5, h6⟩
            exact ⟨its.length - (i + 1), by omega, h5, rfl, e5, F5, Z5, a5, h6⟩
          · intro x H4 hy
            have eat : its[i]? = some its[i] := List.getElem?_eq_getElem hlt
            have rs := wyld i its[i] x H4 eat hy
            have a4 : AftS B lc' pn Y' e1 σ F' Z1 H1 e3 σ3 F3 Z3 H4 none_ := ⟨a3.a.res rs, a3.ks⟩
            have ed : its.drop i = its[i] :: its.drop (i + 1) := List.drop_eq_getElem_cons hlt
            rw [ed, forL_cons] at h4
            refine ⟨lc', pn, Y', e3, F3, Z3, none_, its[i], ⟨a4.a.r, fun _ z => z.elim, fun _ z => z.elim⟩, rs.rep, ?_⟩
            refine AQ.hand (AQ.run h4 fun e5 σ5 H5 F5 Z5 a5 h5 => ?_) a4
            refine ⟨lc', pn, Y', e5, F5, Z5, a5.a.r, ?_⟩
            have h6 : SQ B lc' pn Y' e1 σ F' Z1 H1 ((ev b).bl (B.k lc' pn) e5) { D with nx := fun σ' H' => i + 1 ≤ its.length ∧ ∃ (e2 : Env) (F2 Z2 : Sa), AftS B lc' pn Y' e1 σ F' Z1 H1 e2 σ' F2 Z2 H' none_ ∧ SQ B lc' pn Y' e1 σ F' Z1 H1 (forL ((ev g).a (B.k lc' pn)) ((ev b).bl (B.k lc' pn)) (its.drop (i + 1)) e2) D, ct := fun σ' H' => i + 1 ≤ its.length ∧ ∃ (e2 : Env) (F2 Z2 : Sa), AftS B lc' pn Y' e1 σ F' Z1 H1 e2 σ' F2 Z2 H' none_ ∧ SQ B lc' pn Y' e1 σ F' Z1 H1 (forL ((ev g).a (B.k lc' pn)) ((ev b).bl (B.k lc' pn)) (its.drop (i + 1)) e2) D, bk := D.nx } := by
              cases eb : (ev b).bl (B.k lc' pn) e5 with
              | nx e => rw [eb] at h5; exact fun σ' H' F' Z' a => ⟨hlt, e, F', Z', a, h5⟩
              | ct e => rw [eb] at h5; exact fun σ' H' F' Z' a => ⟨hlt, e, F', Z', a, h5⟩
              | bk e => rw [eb] at h5; exact h5
              | rt t e => rw [eb] at h5; exact h5
              | err c xs e => rw [eb] at h5; exact h5
              | stuck => rw [eb] at h5; exact h5
            exact SQ.rebase h6 a5
        · have ei2 : i = its.length := by omega
          refine .inl ⟨by rw [ei2]; exact wstop, ?_⟩
          rw [ei2, List.drop_length] at h4
          exact h4 σ3 H3 F3 Z3 a3
end
end TI
end
section
set_option maxHeartbeats 400000
/-! TY1: enumerate over a tuple (beside a list): the walk over HandS. -/
namespace RY
open PySem PySem.Spec PyProof.Rows L2
set_option maxHeartbeats 1000000 in
theorem meets_enumerate_newA {v : Value} {o : Obj} {P : Heap → Prop} (B : Begins v o P) :
    Meets (Builtin.«enumerate.__new__» ⟨[.type "enumerate", v], []⟩) (fun _ R s => P s.heap ∧
      R (.ok (.ret (.ref (s.heap.push o).objs.size))) { s with heap := (s.heap.push o).push { cls := .type "enumerate", data := .fields #[.none, .bool false, .ref s.heap.objs.size, rawInt 0, .none, .none] } }) :=
  .of_wp fun prog w A R s h => by
    obtain ⟨hp, g, d, tk, os⟩ := s; obtain ⟨h1, h⟩ := h
    have hsub := sub_enumerate
    have q1 : ∀ {A' : Around} {E : Value → Shared → Prop} {Q : Value → Shared → Prop}, Q (.ref hp.objs.size) ⟨hp.push o, g, d, tk, os⟩ → wpAny (model prog w) A' (pyIter v) Q E ⟨hp, g, d, tk, os⟩ :=
      fun q => B.iter prog w _ _ ⟨hp, g, d, tk, os⟩ _ h1 q
    wp_walk using q1
    refine wpAny_stack_any fun st => wpAny_pure ?_
    split
    · rename_i c _ _ _ _ _
      cases (c == Value.type "enumerate")
      · wp_walk using q1
        exact ⟨_, rfl, h⟩
      · wp_walk using q1
        exact ⟨_, rfl, h⟩
    · wp_walk using q1
      exact ⟨_, rfl, h⟩
theorem call_enumerateA {prog : Program} {w : World} {A : Around} {E : Value → Shared → Prop} {s : Shared} {v : Value} {o : Obj} {P : Heap → Prop} {Q : Value → Shared → Prop} (B : Begins v o P) (h1 : P s.heap)
    (h : ∀ h', IsEnum h' (s.heap.objs.size + 1) s.heap.objs.size 0 .none → h'.get? s.heap.objs.size = some o → h'.objs.size = s.heap.objs.size + 2 →
      (∀ b o, s.heap.get? b = some o → h'.get? b = some o) → Q (.ref (s.heap.objs.size + 1)) { s with heap := h' }) :
    wpAny (model prog w) A (call (.type "enumerate") [v]) Q E s := by
  refine callType_new F.called_enumerate (by decide) (F.typeCall_enumerate_1 _) (F.newCall_enumerate_1 _) (fun obj => F.args_object_init_2 obj _) F.entry_enumerate_new
    (meets_enumerate_newA B) ⟨h1, ?_⟩
  have hz : (s.heap.push o).objs.size = s.heap.objs.size + 1 := Heap.size_push ..
  show _ ∧ _
  rw [hz]
  have he : IsEnum ((s.heap.push o).push { cls := .type "enumerate", data := .fields #[.none, .bool false, .ref s.heap.objs.size, rawInt 0, .none, .none] }) (s.heap.objs.size + 1) s.heap.objs.size 0 .none := by
    have := Heap.get?_push_size (s.heap.push o) (o := { cls := .type "enumerate", data := .fields #[.none, .bool false, .ref s.heap.objs.size, rawInt 0, .none, .none] }) rfl
    rw [hz] at this; exact this
  refine ⟨⟨_, he, rfl⟩, h _ he (Heap.get?_push_of_some _ (Heap.get?_push_size _ B.free)) (by rw [Heap.size_push, hz]) fun b o x => Heap.get?_push_of_some _ (Heap.get?_push_of_some _ x)⟩
theorem pyNext_enumT_end {prog : Program} {w : World} {A : Around} {E : Value → Shared → Prop} {s : Shared} {e it l : Addr} {i : Nat} {c : Int} {items : Array Value} {old : Value} {Q : Option Value → Shared → Prop} (hh : A.handled = none)
    (he : IsEnum s.heap e it c old) (hit : s.heap.IsTupleIter it l i) (hl : s.heap.IsTuple l items) (hx : items[i]? = none)
    (hQ : ∀ h', Heap.ExtBut it s.heap h' → Q none { s with heap := h' }) : wpAny (model prog w) A (pyNext (.ref e)) Q E s := by
  have hT : s.TypeIs (.ref e) "enumerate" := ⟨_, he, rfl⟩
  unfold pyNext
  refine wpAny_bind (wpAny_attempt (wpAny_callSpecial?_slot (name := Str.ofString "__next__") hT F.slot_enumerate_next
    (wpAny_call_entry F.slot_enumerate_next hT F.entry_enumerate_next ?_ (F.args_enumerate_next_1 _))))
  show wpAny _ _ (field (.ref e) 2 >>= _) _ _ _
  refine wpAny_bind (wpAny_field he rfl (x := .ref it) rfl ?_)
  refine wpAny_bind (wpAny_nextOf_tuple_end hh hit hl hx fun h' x he' hx' => ?_)
  obtain ⟨o, ho, hc⟩ := hx'
  refine wpAny_bind (wpAny_isInstance (T := "StopIteration") (b := true) ⟨o, ho, hc⟩ isSubtype_stop ?_)
  exact wpAny_pure (hQ _ he')
/-- the tuple at a as it stands at each turn, each item in a new pair -/
def IteT (K : PySem.W.Frag) (a : Addr) : It :=
  ⟨fun i H => ∃ (xs : List V) (x : V), SqT K H a xs ∧ xs[i]? = some x, fun i H v H' => ∃ T x, v = .ref T ∧ H T = none ∧ H' = upd H T (.tup [.int (i : Nat), x]) ∧ ∀ xs, SqT K H a xs → xs[i]? = some x, fun i H => ∃ xs : List V, SqT K H a xs ∧ xs.length ≤ i⟩
theorem turn_enumT {P : Program} {w : World} {K : PySem.W.Frag} {elts : List Expr} {kk : Nat} {tpos : Pos} (a e it : Addr) :
    Turn P w K (.Tuple elts kk tpos) (IteT K a) [e, it] e (fun i h => (∃ old, IsEnum h e it ((i : Nat) : Int) old) ∧ h.IsTupleIter it a i ∧ e ≠ it ∧ a ≠ e ∧ a ≠ it) where
  mem := by simp
  obj := fun i h st b hb => by
    obtain ⟨⟨old, he⟩, ⟨o, ho, hc, hd⟩, _⟩ := st
    have e' : b = e ∨ b = it := by simpa using hb
    rcases e' with z | z
    · rw [z]; exact ⟨_, he, fun v q => nomatch q⟩
    · rw [z]; exact ⟨o, ho, fun v q => by rw [hd] at q; cases q⟩
  keep := fun i h h' st k => let ⟨⟨old, he⟩, hi, hne⟩ := st; ⟨⟨old, k e (by simp) _ he⟩, hi.at fun o q => k it (by simp) o q, hne⟩
  item := by
    intro X hP hw hK hc i pins s σ H E I hf st hg
    subst hP hw hK
    obtain ⟨⟨old, he⟩, hit, hne, hae, hai⟩ := st
    obtain ⟨xs, x, hq, hx⟩ := hg
    obtain ⟨its, rv, p, hz⟩ := I.tuple hq
    obtain ⟨u, hu, ru⟩ := rv.get hx
    have hel : e < s.heap.objs.size := Heap.lt_size he
    have hil : it < s.heap.objs.size := by obtain ⟨_, q, _⟩ := hit; exact Heap.lt_size q
    have pt : s.heap.IsTuple a its.toArray := p
    have hlt : i < its.toArray.size := (Array.getElem?_eq_some_iff.mp (show its.toArray[i]? = some u by simpa using hu)).1
    have hh : X.A.in1.handled = none := I.ok.hd hc
    refine wpAny_pyNext_enum_itemC (Draws.tuple hh it a hai its.toArray) he ⟨hit, pt⟩ hlt hne (by simp [hne, Ne.symm hae]) fun x' h' tk hPx ho hst' hT hsz hk => ?_
    have eu : x' = u := by
      have e1 : its.toArray[i]? = some u := by simpa using hu
      rw [e1] at hPx; exact (Option.some.inj hPx).symm
    subst eu
    refine ⟨_, rfl, wpAny_letOwnedTupleGo_enum (s := { s with heap := h', toks := tk + 1 }) ho fun h'' he' sb => ?_⟩
    have hT2 : h''.get? s.heap.objs.size = some { cls := .type "tuple", data := .seq #[.int i tk, x'] } := (sb.2 _ (Nat.ne_of_gt hel)).trans hT
    have new : ObjOk X.prog X.w (upd H s.heap.objs.size (.tup [.int (i : Nat), x])) h'' s.heap.objs.size (.tup [.int (i : Nat), x]) :=
      ⟨by show 2 ≤ sizeLine; decide, [.int i tk, x'], .cons ⟨_, rfl⟩ (.cons ru .nil), ⟨_, hT2, rfl, _, rfl⟩⟩
    have I1 : Inv X pins σ (upd H s.heap.objs.size (.tup [.int (i : Nat), x])) { s with heap := h'', toks := tk + 1 } :=
      I.turnedNew (ch := [e, it]) (fun b ob hb q => (sb.2 b (fun z => hb (by simp [z]))).trans (hk b ob (fun z => hb (by simp [z])) (fun z => hb (by simp [z])) q)) hf (Nat.le_refl _) new
    refine ⟨.ref s.heap.objs.size, _, I1, rfl, ⟨_, x, rfl, I.hok.fresh (Nat.le_refl _), rfl, fun ys hy => by rw [I.tuple_inj hy hq]; exact hx⟩, ⟨⟨x', ?_⟩, hst'.1.at fun o q => (sb.2 it (Ne.symm hne)).trans q, hne, hae, hai⟩, fun b hb => ?_⟩
    · have e1 : ((i + 1 : Nat) : Int) = (i : Int) + 1 := by omega
      rw [e1]; exact he'
    · have hb' : b < s.heap.objs.size := by
        have e' : b = e ∨ b = it := by simpa using hb
        rcases e' with z | z
        · rw [z]; exact hel
        · rw [z]; exact hil
      rw [upd_ne (Nat.ne_of_lt hb')]
      exact (hf b hb).1
  done := by
    intro X hP hw hK hc i pins s σ H E I hf st hg
    subst hP hw hK
    obtain ⟨⟨old, he⟩, hit, hne, hae, hai⟩ := st
    obtain ⟨xs, hq, hx⟩ := hg
    obtain ⟨its, rv, p, hz⟩ := I.tuple hq
    obtain ⟨f0, f1, f2, f3, f4, f5⟩ := hf it (by simp)
    have hl := rv.length
    have hh : X.A.handled = none := I.ok.hd hc
    exact pyNext_enumT_end hh he hit p (by simp; omega) fun h' eb => ⟨rfl, I.turned (t' := s.toks) (fun b o hb q => eb b o hb q) f0 f1 f3 f4 f5⟩
  self := fun A i s Q E st h => let ⟨⟨_, he⟩, _⟩ := st; wpAny_pyIter_enum he h
def iEnumA (K : PySem.W.Frag) (ta : TA) : TI := fun σ H R => ta σ H fun vs H1 => ∃ a xs, vs = [.ref a] ∧ ((SqL K H1 a xs ∧ R (Ite K a) H1) ∨ (SqT K H1 a xs ∧ R (IteT K a) H1))
theorem pi_enumA {X : Cx} {e : Expr} {ta : TA} {p pos tpos : Pos} {elts : List Expr} {kk : Nat} (hg : Gl X "enumerate") (hm : X.mg "enumerate" = none) (ha : PA X [e] ta) (hs : starEach [e] X.env = [(false, eval e X.env)] := by rfl) :
    PI X (.Tuple elts kk tpos) (.Call (.Name "enumerate" p) [e] [] pos) (iEnumA X.K ta) := by
  refine ⟨fun pins s σ H R I h => ?_⟩
  refine Call_ (ld_blt I hg hm boot_enumerate (PyProof.Rows.callWith_type1 (thn (ha.run pos pins s σ H _ I h) fun us s1 ⟨vs, H1, I1, r1, q1⟩ => ?_) hs rfl))
  obtain ⟨a, xs, ex, q1⟩ := q1
  subst ex
  cases r1 with
  | cons r rr =>
    cases rr
    cases r
    have fr : ∀ b, b ∈ [s1.heap.objs.size + 1, s1.heap.objs.size] → FpOk X pins H1 b := fun b hb => by
      have e' : b = s1.heap.objs.size + 1 ∨ b = s1.heap.objs.size := by simpa using hb
      have hle : s1.heap.objs.size ≤ b := by
        rcases e' with z | z
        · rw [z]; exact Nat.le_add_right _ _
        · rw [z]; exact Nat.le_refl _
      exact I1.fpOk hle (I1.hok.fresh hle)
    rcases q1 with ⟨hq, q⟩ | ⟨hq, q⟩
    · obtain ⟨its, rv, p', hz⟩ := I1.list hq
      refine call_enumerate_list p'.isList fun h' he hit hsz hk => wpAny_pyIter_enum he ?_
      have I2 : Inv X pins σ H1 { s1 with heap := h' } := I1.kept (t' := s1.toks) hk
      exact ⟨s1.heap.objs.size + 1, [s1.heap.objs.size + 1, s1.heap.objs.size], _, _, H1, rfl, I2, turn_enum a (s1.heap.objs.size + 1) s1.heap.objs.size, ⟨⟨.none, he⟩, hit, Nat.succ_ne_self _⟩, fr, q⟩
    · obtain ⟨its, rv, p', hz⟩ := I1.tuple hq
      have pt : s1.heap.IsTuple a its.toArray := p'
      have hal : a < s1.heap.objs.size := by obtain ⟨o, q, _⟩ := pt; exact Heap.lt_size q
      refine call_enumerateA (begins_tuple a its.toArray) pt fun h' he hit hsz hk => wpAny_pyIter_enum he ?_
      have I2 : Inv X pins σ H1 { s1 with heap := h' } := I1.kept (t' := s1.toks) hk
      exact ⟨s1.heap.objs.size + 1, [s1.heap.objs.size + 1, s1.heap.objs.size], _, _, H1, rfl, I2, turn_enumT a (s1.heap.objs.size + 1) s1.heap.objs.size, ⟨⟨.none, he⟩, ⟨_, hit, rfl, rfl⟩, Nat.succ_ne_self _, Nat.ne_of_lt (Nat.lt_succ_of_lt hal), Nat.ne_of_lt hal⟩, fr, q⟩
end RY
end
section
set_option maxHeartbeats 400000
/-! TV5: what a walk goes over. -/
namespace TI
open PySem L2
section
variable {B : Bs} {X : Cx} {sc : List (Str × NameKind)} {n : Nat} {lc pn : List Nat} {Y : Sa} {env env1 env2 e1 e2 : Env} {σ σ1 σ2 : St} {H H1 H2 H' : Hp} {F F1 F2 Z Z1 Z2 Z' S S1 S2 : Sa} {α β γ δ : Type} {D : Ends} {Q : St → Hp → Prop} {G : Gd}
theorem sql_inj {K : PySem.W.Frag} {pins : List (Addr × Obj)} {s : Shared} (I : Inv X pins σ H s) {a : Addr} {xs ys : List V} (h : SqL X.K H a xs) (h' : SqL X.K H a ys) : xs = ys := I.list_inj h h'
/-- one list, as it stands -/
theorem w_list {t : T} {f : Bool} {k : Kd} {xs : List T} {a : Addr} {K : PySem.W.Frag} (hG : G.K = K) (ht : t = .nd k f xs) (hk : k = .lst ∨ k = .scr) (hf : T.freeL xs = true) : Walks G (Itl K a) [t] [.ref a] xs := by
  intro Z H ra
  obtain ⟨v, S, e, h⟩ := ra.one
  cases e
  have h' : ∃ vs S0, SqL K H a vs ∧ RepL G Z H xs vs S0 := by
    subst ht
    rcases hk with rfl | rfl
    · obtain ⟨b, vs, S0, e, hn, l⟩ := h.lstD
      cases e
      exact ⟨vs, S0, sql_lst hn, l⟩
    · obtain ⟨b, vs, S0, e, hn, l⟩ := Rep.scrL hG h
      cases e
      exact ⟨vs, S0, hn, l⟩
  obtain ⟨vs, S0, hq, l⟩ := h'
  have l := l.bare xs hf
  have hlen := RepL.len xs l
  refine ⟨fun i hi => ?_, ⟨vs, hq, by omega⟩, fun i t' x H' ei ⟨eH, hy⟩ => ?_⟩
  · exact ⟨vs, vs[i]'(by omega), hq, List.getElem?_eq_getElem (by omega)⟩
  · subst eH
    obtain ⟨w, Sj, Sr, ew, qw, _, _⟩ := RepL.at_ xs l ei
    have := hy vs hq
    rw [ew] at this; cases this
    have hfree : t'.free = true := by
      have := List.getElem?_eq_some_iff.mp ei
      clear ra h hq l ei ew qw hy hlen
      obtain ⟨hi, e⟩ := this
      subst e
      have go : ∀ (ys : List T) (hy : T.freeL ys = true) (j : Nat) (hj : j < ys.length), ys[j].free = true := by
        intro ys
        induction ys with
        | nil => intro _ j hj; simp at hj
        | cons y ys ih =>
          intro hy j hj
          have hy' : (y.free && T.freeL ys) = true := hy
          rw [Bool.and_eq_true] at hy'
          cases j with
          | zero => exact hy'.1
          | succ j => exact ih hy'.2 j (by simpa using hj)
      exact go xs hf i hi
    exact Res.same (qw.bare t' hfree)
theorem freeL_at {xs : List T} {i : Nat} {t : T} (hf : T.freeL xs = true) (e : xs[i]? = some t) : t.free = true := by
  induction xs generalizing i with
  | nil => simp at e
  | cons y ys ih =>
    have hy' : (y.free && T.freeL ys) = true := hf
    rw [Bool.and_eq_true] at hy'
    cases i with
    | zero => simp at e; subst e; exact hy'.1
    | succ j => exact ih hy'.2 (by simpa using e)
theorem w_tup {f : Bool} {xs : List T} {a : Addr} {K : PySem.W.Frag} (hG : G.K = K) (hf : T.freeL xs = true) : Walks G (Itt K a) [.nd .tup f xs] [.ref a] xs := by
  intro Z H ra
  obtain ⟨v, S, e, h⟩ := ra.one
  cases e
  obtain ⟨b, vs, S0, e, hn, l⟩ := h.tupD
  cases e
  rw [hG] at hn
  have l := l.bare xs hf
  have hlen := RepL.len xs l
  refine ⟨fun i hi => ⟨vs, vs[i]'(by omega), hn, List.getElem?_eq_getElem (by omega)⟩, ⟨vs, hn, by omega⟩, fun i t' x H' ei ⟨eH, hy⟩ => ?_⟩
  subst eH
  obtain ⟨w, Sj, Sr, ew, qw, _, _⟩ := RepL.at_ xs l ei
  have := hy vs hn
  rw [ew] at this; cases this
  exact Res.same (qw.bare t' (freeL_at hf ei))
theorem w_str {s : Str} : Walks G (Its s) [.str s] [.str s] (s.cps.toList.map fun c => .str ⟨#[c]⟩) := by
  intro Z H ra
  refine ⟨fun i hi => (by simpa using hi : i < s.cps.size), by simp [Its], fun i t x H' ei ⟨eH, c, ec, ex⟩ => ?_⟩
  subst eH
  subst ex
  have e2 : s.cps.toList[i]? = some c := by simpa using ec
  rw [List.getElem?_map, e2] at ei
  cases ei
  exact Res.same rfl
theorem w_range {lo : Int} {m : Nat} : Walks G (Itr lo m) [] [] (rangeT lo m) := by
  intro Z H ra
  refine ⟨fun i hi => (by simpa [rangeT] using hi : i < m), by simp [Itr, rangeT], fun i t x H' ei ⟨eH, ex⟩ => ?_⟩
  subst eH
  subst ex
  unfold rangeT at ei
  rw [List.getElem?_map] at ei
  cases er : (List.range m)[i]? with
  | none => rw [er] at ei; cases ei
  | some j =>
    rw [er] at ei
    have : j = i := by
      rw [List.getElem?_eq_some_iff] at er
      obtain ⟨h, e⟩ := er
      simpa using e.symm
    subst this
    cases ei
    exact Res.same rfl
theorem enumF_at : ∀ {xs : List T} {k i : Nat} {t : T}, (enumF k xs)[i]? = some t → ∃ x, xs[i]? = some x ∧ t = .tup [.int ((k + i : Nat) : Int), x]
  | [], _, _, _, e => by simp [enumF] at e
  | x :: xs, k, 0, t, e => by simp [enumF] at e; exact ⟨x, rfl, e.symm⟩
  | x :: xs, k, i + 1, t, e => by
    have e' : (enumF (k + 1) xs)[i]? = some t := by simpa [enumF] using e
    obtain ⟨y, ey, et⟩ := enumF_at e'
    exact ⟨y, by simpa using ey, by rw [et, show k + 1 + i = k + (i + 1) by omega]⟩
theorem enumF_len : ∀ (xs : List T) (k : Nat), (enumF k xs).length = xs.length
  | [], _ => rfl
  | _ :: xs, k => by simp [enumF, enumF_len xs]
theorem w_enum {f : Bool} {xs : List T} {a : Addr} {K : PySem.W.Frag} (hf : T.freeL xs = true) : Walks G (Ite K a) [.nd .lst f xs] [.ref a] (enumF 0 xs) := by
  intro Z H ra
  obtain ⟨v, S, e, h⟩ := ra.one
  cases e
  obtain ⟨b, vs, S0, e, hn, l⟩ := h.lstL (K := K)
  cases e
  have l := l.bare xs hf
  have hlen := RepL.len xs l
  rw [enumF_len]
  refine ⟨fun i hi => ⟨vs, vs[i]'(by omega), hn, List.getElem?_eq_getElem (by omega)⟩, ⟨vs, hn, by omega⟩, fun i t' x H' ei ⟨p, y, ex, hp, eH, hy⟩ => ?_⟩
  subst ex eH
  obtain ⟨u, eu, et⟩ := enumF_at ei
  subst et
  obtain ⟨w, Sj, Sr, ew, qw, _, _⟩ := RepL.at_ xs l eu
  have := hy vs hn
  rw [ew] at this; cases this
  rw [Nat.zero_add]
  exact Res.newT hp ⟨.int i, [y], none_, none_, rfl, rfl, ⟨y, [], none_, none_, rfl, qw.bare u (freeL_at hf eu), rfl, fun _ z => z.elim, fun _ z => z, fun _ z => z⟩, fun _ z => z.elim, fun _ z => z, fun _ z => z⟩
theorem w_enumT {K : PySem.W.Frag} (hG : G.K = K) {f : Bool} {xs : List T} {a : Addr} (hf : T.freeL xs = true) : Walks G (RY.IteT K a) [.nd .tup f xs] [.ref a] (enumF 0 xs) := by
  intro Z H ra
  obtain ⟨v, S, e, h⟩ := ra.one
  cases e
  obtain ⟨b, vs, S0, e, hn, l⟩ := h.tupD
  cases e
  rw [hG] at hn
  have l := l.bare xs hf
  have hlen := RepL.len xs l
  rw [enumF_len]
  refine ⟨fun i hi => ⟨vs, vs[i]'(by omega), hn, List.getElem?_eq_getElem (by omega)⟩, ⟨vs, hn, by omega⟩, fun i t' x H' ei ⟨p, y, ex, hp, eH, hy⟩ => ?_⟩
  subst ex eH
  obtain ⟨u, eu, et⟩ := enumF_at ei
  subst et
  obtain ⟨w, Sj, Sr, ew, qw, _, _⟩ := RepL.at_ xs l eu
  have := hy vs hn
  rw [ew] at this; cases this
  rw [Nat.zero_add]
  exact Res.newT hp ⟨.int i, [y], none_, none_, rfl, rfl, ⟨y, [], none_, none_, rfl, qw.bare u (freeL_at hf eu), rfl, fun _ z => z.elim, fun _ z => z, fun _ z => z⟩, fun _ z => z.elim, fun _ z => z, fun _ z => z⟩
theorem w_zip {f f' : Bool} {xs ys : List T} {a b : Addr} {K : PySem.W.Frag} (hf : T.freeL xs = true) (hf' : T.freeL ys = true) : Walks G (Itz K a b) [.nd .lst f xs, .nd .lst f' ys] [.ref a, .ref b] (List.zipWith (fun x y => .tup [x, y]) xs ys) := by
  intro Z H ra
  obtain ⟨v, v', S, S', e, h, h'⟩ := ra.two
  cases e
  obtain ⟨_, vs, S0, e, hn, l⟩ := h.lstL (K := K)
  cases e
  obtain ⟨_, ws, S0', e, hn', l'⟩ := h'.lstL (K := K)
  cases e
  have l := l.bare xs hf
  have l' := l'.bare ys hf'
  have hlen := RepL.len xs l
  have hlen' := RepL.len ys l'
  rw [List.length_zipWith]
  refine ⟨fun i hi => ⟨vs, ws, vs[i]'(by omega), ws[i]'(by omega), hn, hn', List.getElem?_eq_getElem (by omega), List.getElem?_eq_getElem (by omega)⟩, ⟨vs, ws, hn, hn', by omega⟩, fun i t' x H' ei ⟨p, y, y', ex, hp, eH, hy, hy'⟩ => ?_⟩
  subst ex eH
  rw [List.getElem?_zipWith] at ei
  cases e1 : xs[i]? with
  | none => rw [e1] at ei; cases ei
  | some u =>
    cases e2 : ys[i]? with
    | none => rw [e1, e2] at ei; cases ei
    | some u' =>
      rw [e1, e2] at ei; cases ei
      obtain ⟨w, Sj, Sr, ew, qw, _, _⟩ := RepL.at_ xs l e1
      obtain ⟨w', Sj', Sr', ew', qw', _, _⟩ := RepL.at_ ys l' e2
      have t1 := hy vs hn
      rw [ew] at t1; cases t1
      have t2 := hy' ws hn'
      rw [ew'] at t2; cases t2
      exact Res.newT hp ⟨y, [y'], none_, none_, rfl, qw.bare u (freeL_at hf e1), ⟨y', [], none_, none_, rfl, qw'.bare u' (freeL_at hf' e2), rfl, fun _ z => z.elim, fun _ z => z, fun _ z => z⟩, fun _ z => z.elim, fun _ z => z, fun _ z => z⟩
theorem w_zipT {f f' : Bool} {xs ys : List T} {a b : Addr} {K : PySem.W.Frag} (hG : G.K = K) (hf : T.freeL xs = true) (hf' : T.freeL ys = true) : Walks G (RZ.ItzT K a b) [.nd .tup f xs, .nd .tup f' ys] [.ref a, .ref b] (List.zipWith (fun x y => .tup [x, y]) xs ys) := by
  intro Z H ra
  obtain ⟨v, v', S, S', e, h, h'⟩ := ra.two
  cases e
  obtain ⟨_, vs, S0, e, hn, l⟩ := h.tupD
  cases e
  obtain ⟨_, ws, S0', e, hn', l'⟩ := h'.tupD
  cases e
  rw [hG] at hn hn'
  have l := l.bare xs hf
  have l' := l'.bare ys hf'
  have hlen := RepL.len xs l
  have hlen' := RepL.len ys l'
  rw [List.length_zipWith]
  refine ⟨fun i hi => ⟨vs, ws, vs[i]'(by omega), ws[i]'(by omega), hn, hn', List.getElem?_eq_getElem (by omega), List.getElem?_eq_getElem (by omega)⟩, ⟨vs, ws, hn, hn', by omega⟩, fun i t' x H' ei ⟨p, y, y', ex, hp, eH, hy, hy'⟩ => ?_⟩
  subst ex eH
  rw [List.getElem?_zipWith] at ei
  cases e1 : xs[i]? with
  | none => rw [e1] at ei; cases ei
  | some u =>
    cases e2 : ys[i]? with
    | none => rw [e1, e2] at ei; cases ei
    | some u' =>
      rw [e1, e2] at ei; cases ei
      obtain ⟨w, Sj, Sr, ew, qw, _, _⟩ := RepL.at_ xs l e1
      obtain ⟨w', Sj', Sr', ew', qw', _, _⟩ := RepL.at_ ys l' e2
      have t1 := hy vs hn
      rw [ew] at t1; cases t1
      have t2 := hy' ws hn'
      rw [ew'] at t2; cases t2
      exact Res.newT hp ⟨y, [y'], none_, none_, rfl, qw.bare u (freeL_at hf e1), ⟨y', [], none_, none_, rfl, qw'.bare u' (freeL_at hf' e2), rfl, fun _ z => z.elim, fun _ z => z, fun _ z => z⟩, fun _ z => z.elim, fun _ z => z, fun _ z => z⟩
theorem s_one {tg e : Expr} {c : C} (hG : B.G.K = X.K) (hc : (ev c).i = walkR (ev c).r) (h : PE X e (tR B c)) : PI X tg e (tI B c) := by
  refine (((pi_list (tg := tg) h).or (pi_tup (tg := tg) h)).or (pi_str (tg := tg) h)).tim fun σ H Rk ⟨lc, pn, Y, env, F, Z, r, w⟩ => ?_
  rw [hc] at w
  have w1 : match (evR (B.k lc pn) c env).bind fun x e => Out.ok (([x], IK.one) : List RV × IK) e with
    | .ok q e1 => (match lookAll e1 q.1 with
      | some ts => (match itemsK q.2 ts with
        | some its => ∀ (J : It) (vs : List V) (H1 : Hp) (F1 Z1 S1 : Sa), Aft B.G lc Y env σ F Z H e1 σ F1 Z1 H1 S1 → RepRVs B.G σ Z1 H1 q.1 vs S1 → Walks B.G J ts vs its → Rk J H1
        | none => False)
      | none => False)
    | .err c xs env' => ∀ (cls : Value) (d : Option Addr) (H' : Hp) (F' Z' : Sa), Aft B.G lc Y env σ F Z H env' σ F' Z' H' none_ → ExcAt B.G B.cs Z' H' c xs cls d → B.W cls d σ H'
    | .stuck => False := w
  cases eo : evR (B.k lc pn) c env with
  | stuck => rw [eo] at w1; exact w1.elim
  | err k xs e1 =>
    rw [eo] at w1
    exact .inl (.inl ⟨lc, pn, Y, env, F, Z, r, by dsimp only; rw [eo]; exact w1⟩)
  | ok rv e1 =>
    rw [eo] at w1
    have w2 : match lookAll e1 [rv] with
      | some ts => (match itemsK .one ts with
        | some its => ∀ (J : It) (vs : List V) (H1 : Hp) (F1 Z1 S1 : Sa), Aft B.G lc Y env σ F Z H e1 σ F1 Z1 H1 S1 → RepRVs B.G σ Z1 H1 [rv] vs S1 → Walks B.G J ts vs its → Rk J H1
        | none => False)
      | none => False := w1
    have mk : ∀ {P : V → Hp → Prop}, (∀ (v : V) (H1 : Hp) (F1 Z1 S1 : Sa), Aft B.G lc Y env σ F Z H e1 σ F1 Z1 H1 S1 → RepRV B.G σ Z1 H1 rv v S1 → P v H1) → tR B c σ H P := fun k => ⟨lc, pn, Y, env, F, Z, r, by dsimp only; rw [eo]; exact fun v H1 F1 Z1 S1 a q => k v H1 F1 Z1 S1 a q⟩
    cases el : lookR e1 rv with
    | none =>
      have : lookAll e1 [rv] = none := by show (match lookR e1 rv, lookAll e1 [] with | some t, some ts => some (t :: ts) | _, _ => none) = none; rw [el]
      rw [this] at w2; exact w2.elim
    | some t =>
      have e2 : lookAll e1 [rv] = some [t] := by show (match lookR e1 rv, lookAll e1 [] with | some t, some ts => some (t :: ts) | _, _ => none) = some [t]; rw [el]; rfl
      rw [e2] at w2
      have w3 : match (match itemsI t with | some xs => if T.freeL xs then some xs else none | none => none) with
        | some its => ∀ (J : It) (vs : List V) (H1 : Hp) (F1 Z1 S1 : Sa), Aft B.G lc Y env σ F Z H e1 σ F1 Z1 H1 S1 → RepRVs B.G σ Z1 H1 [rv] vs S1 → Walks B.G J [t] vs its → Rk J H1
        | none => False := w2
      have one : ∀ {v : V} {H1 : Hp} {Z1 S1 : Sa}, RepRV B.G σ Z1 H1 rv v S1 → RepRVs B.G σ Z1 H1 [rv] [v] S1 := fun q => ⟨_, [], _, none_, rfl, q, rfl, fun _ _ z => z, fun _ z => z, fun _ z => z.elim⟩
      cases t with
      | str s =>
        have w4 : match (match (if s.length ≤ lim then some (s.cps.toList.map fun c => T.str ⟨#[c]⟩) else none) with | some xs => if T.freeL xs then some xs else none | none => none) with
          | some its => ∀ (J : It) (vs : List V) (H1 : Hp) (F1 Z1 S1 : Sa), Aft B.G lc Y env σ F Z H e1 σ F1 Z1 H1 S1 → RepRVs B.G σ Z1 H1 [rv] vs S1 → Walks B.G J [.str s] vs its → Rk J H1
          | none => False := w3
        split at w4
        · rename_i its hi
          refine .inr (mk fun v H1 F1 Z1 S1 a q => ?_)
          obtain ⟨S', q', _⟩ := look_rep a.r q el
          refine ⟨s, q', w4 (Its s) [v] H1 F1 Z1 S1 a (one q) ?_⟩
          have ev' : v = .str s := q'
          subst ev'
          have ei : its = s.cps.toList.map fun c => T.str ⟨#[c]⟩ := by
            split at hi
            · rename_i xs hx
              split at hi
              · cases hi
                split at hx
                · cases hx; rfl
                · cases hx
              · cases hi
            · cases hi
          rw [ei]
          exact w_str
        · exact w4.elim
      | nd k f xs =>
        have lists : (k = .lst ∨ k = .scr) → ((iList X.K (tR B c) σ H Rk ∨ iTup X.K (tR B c) σ H Rk) ∨ iStr (tR B c) σ H Rk) := by
          intro hk
          have w4 : match (if T.freeL xs then some xs else none) with
            | some its => ∀ (J : It) (vs : List V) (H1 : Hp) (F1 Z1 S1 : Sa), Aft B.G lc Y env σ F Z H e1 σ F1 Z1 H1 S1 → RepRVs B.G σ Z1 H1 [rv] vs S1 → Walks B.G J [.nd k f xs] vs its → Rk J H1
            | none => False := by rcases hk with rfl | rfl <;> exact w3
          by_cases hf : T.freeL xs = true
          · rw [if_pos hf] at w4
            refine .inl (.inl (mk fun v H1 F1 Z1 S1 a q => ?_))
            obtain ⟨S', q', _⟩ := look_rep a.r q el
            have hv : ∃ p vs, v = .ref p ∧ SqL X.K H1 p vs := by
              rcases hk with rfl | rfl
              · obtain ⟨p, vs, S0, e, hn, _⟩ := q'.lstL (K := X.K); exact ⟨p, vs, e, hn⟩
              · obtain ⟨p, vs, S0, e, hn, _⟩ := Rep.scrL hG q'; exact ⟨p, vs, e, hn⟩
            obtain ⟨p, vs, rfl, hn⟩ := hv
            exact ⟨p, rfl, ⟨vs, hn⟩, w4 (Itl X.K p) [.ref p] H1 F1 Z1 S1 a (one q) (w_list hG rfl hk hf)⟩
          · rw [if_neg hf] at w4; exact w4.elim
        cases k with
        | lst => exact lists (.inl rfl)
        | scr => exact lists (.inr rfl)
        | tup =>
          have w4 : match (if T.freeL xs then some xs else none) with
            | some its => ∀ (J : It) (vs : List V) (H1 : Hp) (F1 Z1 S1 : Sa), Aft B.G lc Y env σ F Z H e1 σ F1 Z1 H1 S1 → RepRVs B.G σ Z1 H1 [rv] vs S1 → Walks B.G J [.nd .tup f xs] vs its → Rk J H1
            | none => False := w3
          by_cases hf : T.freeL xs = true
          · rw [if_pos hf] at w4
            refine .inl (.inr (mk fun v H1 F1 Z1 S1 a q => ?_))
            obtain ⟨S', q', _⟩ := look_rep a.r q el
            obtain ⟨p, vs, S0, rfl, hn, _⟩ := q'.tupD
            exact ⟨p, rfl, ⟨vs, hG ▸ hn⟩, w4 (Itt X.K p) [.ref p] H1 F1 Z1 S1 a (one q) (w_tup hG hf)⟩
          · rw [if_neg hf] at w4; exact w4.elim
        | _ => exact w3.elim
      | _ => exact w3.elim
end
end TI
end
section
set_option maxHeartbeats 400000
/-! TV6: range, enumerate, zip. -/
namespace TI
open PySem L2
section
variable {B : Bs} {X : Cx} {sc : List (Str × NameKind)} {n : Nat} {lc pn : List Nat} {Y : Sa} {env env1 env2 e1 e2 : Env} {σ σ1 σ2 : St} {H H1 H2 H' : Hp} {F F1 F2 Z Z1 Z2 Z' S S1 S2 : Sa} {α β γ δ : Type} {D : Ends} {Q : St → Hp → Prop} {G : Gd}
/-- the wish of a walk's own step -/
def IQ (B : Bs) (lc : List Nat) (Y : Sa) (env : Env) (σ : St) (F Z : Sa) (H : Hp) (o : Out (List RV × IK)) (Rk : It → Hp → Prop) : Prop := match o with
  | .ok q e1 => (match lookAll e1 q.1 with
    | some ts => (match itemsK q.2 ts with
      | some its => ∀ (J : It) (vs : List V) (H1 : Hp) (F1 Z1 S1 : Sa), Aft B.G lc Y env σ F Z H e1 σ F1 Z1 H1 S1 → RepRVs B.G σ Z1 H1 q.1 vs S1 → Walks B.G J ts vs its → Rk J H1
      | none => False)
    | none => False)
  | .err c xs env' => ∀ (cls : Value) (d : Option Addr) (H' : Hp) (F' Z' : Sa), Aft B.G lc Y env σ F Z H env' σ F' Z' H' none_ → ExcAt B.G B.cs Z' H' c xs cls d → B.W cls d σ H'
  | .stuck => False
theorem IQ.bind {VR' : γ → δ → Sa → Sa → Hp → Prop} {o : Out γ} {f : γ → Env → Out (List RV × IK)} {Rk : It → Hp → Prop} {Q1 : δ → Hp → Prop} (h : IQ B lc Y env σ F Z H (o.bind f) Rk)
    (k : ∀ (a : γ) (env1 : Env) (b : δ) (H1 : Hp) (F1 Z1 S1 : Sa), o = .ok a env1 → Aft B.G lc Y env σ F Z H env1 σ F1 Z1 H1 S1 → VR' a b S1 Z1 H1 → IQ B lc Y env σ F Z H (f a env1) Rk → Q1 b H1) : OQ B lc Y env σ F Z H VR' o Q1 := by
  cases o with
  | stuck => exact h
  | ok x e => exact fun b H' F' Z' S a q => k x e b H' F' Z' S rfl a q h
  | err c xs e => exact h
theorem s_range1 {tg a : Expr} {c : C} {p pos : Pos} (hg : Gl X "range") (hm : X.mg "range" = none) (ha : PE X a (tR B c)) (hs : starEach [a] X.env = [(false, eval a X.env)]) : PI X tg (.Call (.Name "range" p) [a] [] pos) (tI B (.itR1 c)) := by
  have hpa : PA X [a] (fun σ H Q => tR B c σ H fun v H1 => Q [v] H1) := (pa_cons ha pa_nil hs).tim fun σ H Q h => h
  refine (pi_range1 hg hm hpa hs).tim fun σ H Rk ⟨lc, pn, Y, env, F, Z, r, w⟩ => ⟨lc, pn, Y, env, F, Z, r, ?_⟩
  have w1 : IQ B lc Y env σ F Z H ((evR (B.k lc pn) c env).bind fun x e => match x with
    | .tmp (.int n) => if -1000000 < n ∧ n < 1000000 then .ok ([], .range 0 n.toNat) e else .stuck
    | _ => .stuck) Rk := w
  refine IQ.bind w1 fun rv e1 v H1 F1 Z1 S1 _ a1 q1 h2 => ?_
  cases rv with
  | plc _ _ => exact h2.elim
  | tmp t =>
    cases t with
    | int n =>
      dsimp only at h2
      by_cases hc : -1000000 < n ∧ n < 1000000
      · rw [if_pos hc] at h2
        have qv : v = .int n := q1
        exact ⟨n, by rw [qv], by omega, by omega, h2 (Itr 0 n.toNat) [] H1 F1 Z1 none_ (a1.less fun _ z => z.elim) rfl w_range⟩
      · rw [if_neg hc] at h2; exact h2.elim
    | _ => exact h2.elim
theorem IQ.again {VR' : St → γ → δ → Sa → Sa → Hp → Prop} {ev : Ek → Env → Out γ} {f : γ → Env → Out (List RV × IK)} {Rk : It → Hp → Prop} {Q2 : δ → Hp → Prop}
    (a : Aft B.G lc Y env σ F Z H env1 σ F1 Z1 H1 S1) (h : IQ B lc Y env σ F Z H ((ev (B.k lc pn) env1).bind f) Rk)
    (k : ∀ (x : γ) (e2 : Env) (w : δ) (H2 : Hp) (F2 Z2 S2 : Sa), Aft B.G lc Y env σ F Z H e2 σ F2 Z2 H2 S2 → VR' σ x w S2 Z2 H2 → IQ B lc Y env σ F Z H (f x e2) Rk → Q2 w H2) :
    tG B VR' ev σ H1 Q2 := by
  refine ⟨lc, pn, Y, env1, F1, Z1, a.r, ?_⟩
  cases eo : ev (B.k lc pn) env1 with
  | stuck => rw [eo] at h; exact h
  | ok x e2 =>
    rw [eo] at h
    exact fun w H2 F2 Z2 S2 b q => k x e2 w H2 F2 Z2 S2 ((a.step b).1.less fun _ z => .inr z) q h
  | err c xs e2 =>
    rw [eo] at h
    exact fun cls d H2 F2 Z2 b q => h cls d H2 F2 Z2 ((a.step b).1.less fun _ z => z.elim) q
theorem s_range2 {tg a b : Expr} {c d : C} {p pos : Pos} (hg : Gl X "range") (hm : X.mg "range" = none) (ha : PE X a (tR B c)) (hb : PE X b (tR B d)) (hs : starEach [a, b] X.env = [(false, eval a X.env), (false, eval b X.env)]) (hs2 : starEach [b] X.env = [(false, eval b X.env)]) :
    PI X tg (.Call (.Name "range" p) [a, b] [] pos) (tI B (.itR2 c d)) := by
  have hpb : PA X [b] (fun σ H Q => tR B d σ H fun v H1 => Q [v] H1) := (pa_cons hb pa_nil hs2).tim fun σ H Q h => h
  have hpa : PA X [a, b] (fun σ H Q => tR B c σ H fun v H1 => tR B d σ H1 fun w H2 => Q [v, w] H2) := (pa_cons ha hpb (by rw [hs, hs2])).tim fun σ H Q h => h
  refine (pi_range2 hg hm hpa hs hs2).tim fun σ H Rk ⟨lc, pn, Y, env, F, Z, r, w⟩ => ⟨lc, pn, Y, env, F, Z, r, ?_⟩
  have w1 : IQ B lc Y env σ F Z H ((evR (B.k lc pn) c env).bind fun x e => match x with
    | .tmp (.int m) => (evR (B.k lc pn) d e).bind fun y e => (match y with
      | .tmp (.int n) => if -1000000 < m ∧ m < 1000000 ∧ -1000000 < n ∧ n < 1000000 then .ok ([], .range m (n - m).toNat) e else .stuck
      | _ => .stuck)
    | _ => .stuck) Rk := w
  refine IQ.bind w1 fun rv e1 v H1 F1 Z1 S1 _ a1 q1 h2 => ?_
  cases rv with
  | plc i p => exact h2.elim
  | tmp t =>
    cases t with
    | int m =>
      have qv : v = .int m := q1
      refine IQ.again (ev := fun K e => evR K d e) (VR' := VR1 B.G) a1 h2 fun rw' e2 w H2 F2 Z2 S2 a2 q2 h3 => ?_
      cases rw' with
      | plc _ _ => exact h3.elim
      | tmp t' =>
        cases t' with
        | int n =>
          dsimp only at h3
          by_cases hc : -1000000 < m ∧ m < 1000000 ∧ -1000000 < n ∧ n < 1000000
          · rw [if_pos hc] at h3
            have qw : w = .int n := q2
            exact ⟨m, n, by rw [qv, qw], by omega, h3 (Itr m (n - m).toNat) [] H2 F2 Z2 none_ (a2.less fun _ z => z.elim) rfl w_range⟩
          · rw [if_neg hc] at h3; exact h3.elim
        | _ => exact h3.elim
    | _ => exact h2.elim
theorem s_enum {a : Expr} {c : C} {p pos tpos : Pos} {elts : List Expr} {kk : Nat} (hG : B.G.K = X.K) (hg : Gl X "enumerate") (hm : X.mg "enumerate" = none) (ha : PE X a (tR B c)) (hs : starEach [a] X.env = [(false, eval a X.env)]) :
    PI X (.Tuple elts kk tpos) (.Call (.Name "enumerate" p) [a] [] pos) (tI B (.itE c)) := by
  have hpa : PA X [a] (fun σ H Q => tR B c σ H fun v H1 => Q [v] H1) := (pa_cons ha pa_nil hs).tim fun σ H Q h => h
  refine (RY.pi_enumA hg hm hpa hs).tim fun σ H Rk ⟨lc, pn, Y, env, F, Z, r, w⟩ => ⟨lc, pn, Y, env, F, Z, r, ?_⟩
  have w1 : IQ B lc Y env σ F Z H ((evR (B.k lc pn) c env).bind fun x e => .ok ([x], .enum) e) Rk := w
  refine IQ.bind w1 fun rv e1 v H1 F1 Z1 S1 _ a1 q1 h2 => ?_
  have h3 : match lookAll e1 [rv] with
    | some ts => (match itemsK .enum ts with
      | some its => ∀ (J : It) (vs : List V) (H1 : Hp) (F1 Z1 S1 : Sa), Aft B.G lc Y env σ F Z H e1 σ F1 Z1 H1 S1 → RepRVs B.G σ Z1 H1 [rv] vs S1 → Walks B.G J ts vs its → Rk J H1
      | none => False)
    | none => False := h2
  cases el : lookAll e1 [rv] with
  | none => rw [el] at h3; exact h3.elim
  | some ts =>
    rw [el] at h3
    dsimp only at h3
    have qs : RepRVs B.G σ Z1 H1 [rv] [v] S1 := ⟨_, [], _, none_, rfl, q1, rfl, fun _ _ z => z, fun _ z => z, fun _ z => z.elim⟩
    have ra := look_all a1.r qs el
    cases ei : itemsK .enum ts with
    | none => rw [ei] at h3; exact h3.elim
    | some its =>
      rw [ei] at h3
      have alt : (∃ f xs, ts = [.nd .lst f xs] ∧ T.freeL xs = true ∧ its = enumF 0 xs) ∨ ∃ f xs, ts = [.nd .tup f xs] ∧ T.freeL xs = true ∧ its = enumF 0 xs := by
        unfold itemsK at ei
        split at ei <;> first | contradiction | skip
        all_goals (repeat' (split at ei)) <;> first | (cases ei; done) | (cases ei; exact .inl ⟨_, _, rfl, by assumption, rfl⟩) | (cases ei; exact .inr ⟨_, _, rfl, by assumption, rfl⟩)
      rcases alt with ⟨f, xs, rfl, hf, rfl⟩ | ⟨f, xs, rfl, hf, rfl⟩
      · obtain ⟨v', S', e, h⟩ := ra.one
        cases e
        obtain ⟨b, vs, S0, rfl, hn, l⟩ := h.lstL (K := X.K)
        exact ⟨b, vs, rfl, .inl ⟨hn, h3 (Ite X.K b) [.ref b] H1 F1 Z1 S1 a1 qs (w_enum hf)⟩⟩
      · obtain ⟨v', S', e, h⟩ := ra.one
        cases e
        obtain ⟨b, vs, S0, rfl, hn, l⟩ := h.tupD
        exact ⟨b, vs, rfl, .inr ⟨hG ▸ hn, h3 (RY.IteT X.K b) [.ref b] H1 F1 Z1 S1 a1 qs (w_enumT hG hf)⟩⟩
theorem s_zip {a b : Expr} {c : C} {p pos tpos : Pos} {elts : List Expr} {kk : Nat} (hG : B.G.K = X.K) (hg : Gl X "zip") (hm : X.mg "zip" = none) (ha : PA X [a, b] (tL B c)) (hs : starEach [a, b] X.env = (false, eval a X.env) :: starEach [b] X.env) (hpl : (backTo pos (starEach [b] X.env)).any (·.1) = false) :
    PI X (.Tuple elts kk tpos) (.Call (.Name "zip" p) [a, b] [] pos) (tI B (.itZ false c)) := by
  refine (RZ.pi_zipA hg hm ha hs hpl).tim fun σ H Rk ⟨lc, pn, Y, env, F, Z, r, w⟩ => ⟨lc, pn, Y, env, F, Z, r, ?_⟩
  have w1 : IQ B lc Y env σ F Z H ((evL (B.k lc pn) c env).bind fun rvs e => .ok (rvs, .zip) e) Rk := w
  refine IQ.bind w1 fun rvs e1 vs H1 F1 Z1 S1 _ a1 q1 h2 => ?_
  have h3 : match lookAll e1 rvs with
    | some ts => (match itemsK .zip ts with
      | some its => ∀ (J : It) (vs : List V) (H1 : Hp) (F1 Z1 S1 : Sa), Aft B.G lc Y env σ F Z H e1 σ F1 Z1 H1 S1 → RepRVs B.G σ Z1 H1 rvs vs S1 → Walks B.G J ts vs its → Rk J H1
      | none => False)
    | none => False := h2
  cases el : lookAll e1 rvs with
  | none => rw [el] at h3; exact h3.elim
  | some ts =>
    rw [el] at h3
    dsimp only at h3
    have ra := look_all a1.r q1 el
    cases ei : itemsK .zip ts with
    | none => rw [ei] at h3; exact h3.elim
    | some its =>
      rw [ei] at h3
      have alt : (∃ f f' xs ys, ts = [.nd .lst f xs, .nd .lst f' ys] ∧ (T.freeL xs && T.freeL ys) = true ∧ its = List.zipWith (fun x y => .tup [x, y]) xs ys) ∨ ∃ f f' xs ys, ts = [.nd .tup f xs, .nd .tup f' ys] ∧ (T.freeL xs && T.freeL ys) = true ∧ its = List.zipWith (fun x y => .tup [x, y]) xs ys := by
        unfold itemsK at ei
        split at ei <;> first | contradiction | skip
        all_goals (repeat' (split at ei)) <;> first | (cases ei; done) | (cases ei; exact .inl ⟨_, _, _, _, rfl, by assumption, rfl⟩) | (cases ei; exact .inr ⟨_, _, _, _, rfl, by assumption, rfl⟩)
      rcases alt with ⟨f, f', xs, ys, rfl, hf, rfl⟩ | ⟨f, f', xs, ys, rfl, hf, rfl⟩
      · rw [Bool.and_eq_true] at hf
        obtain ⟨v, v', S, S', rfl, h, h'⟩ := ra.two
        obtain ⟨p1, ws, S0, rfl, hn, l⟩ := h.lstL (K := X.K)
        obtain ⟨p2, ws', S0', rfl, hn', l'⟩ := h'.lstL (K := X.K)
        exact ⟨p1, p2, ws, ws', rfl, .inl ⟨hn, hn', h3 (Itz X.K p1 p2) _ H1 F1 Z1 S1 a1 q1 (w_zip hf.1 hf.2)⟩⟩
      · rw [Bool.and_eq_true] at hf
        obtain ⟨v, v', S, S', rfl, h, h'⟩ := ra.two
        obtain ⟨p1, ws, S0, rfl, hn, l⟩ := h.tupD
        obtain ⟨p2, ws', S0', rfl, hn', l'⟩ := h'.tupD
        exact ⟨p1, p2, ws, ws', rfl, .inr ⟨hG ▸ hn, hG ▸ hn', h3 (RZ.ItzT X.K p1 p2) _ H1 F1 Z1 S1 a1 q1 (w_zipT hG hf.1 hf.2)⟩⟩
end
end TI
end
section
set_option maxHeartbeats 400000
/-! TV7: list comprehensions. -/
namespace TI
open PySem L2
section
variable {B : Bs} {X : Cx} {sc : List (Str × NameKind)} {n : Nat} {lc pn : List Nat} {Y : Sa} {env env1 env2 e1 e2 : Env} {σ σ1 σ2 : St} {H H1 H2 H' : Hp} {F F1 F2 Z Z1 Z2 Z' S S1 S2 : Sa} {α β γ δ : Type} {D : Ends} {Q : St → Hp → Prop} {G : Gd}
/-- what is at hand is kept away -/
theorem R.keepR (r : R G lc Y env σ H F Z) (sm : ∀ a, S a → ∃ o, H a = some o ∧ MutO o) (sd : ∀ a, S a → ¬ F a ∧ ¬ Z a ∧ ¬ Y a) : R G lc (fun a => Y a ∨ S a) env σ H F Z := by
  obtain ⟨hl, fm, zf, yf, S0, w1, w2, w3, w4⟩ := r
  exact ⟨hl, fm, zf, fun x z => z.elim (yf x) fun z => ⟨(sd x z).1, (sd x z).2.1, by obtain ⟨o, e, _⟩ := sm x z; rw [e]; exact fun q => nomatch q⟩, S0, w1, fun i hi x z => .inl (w2 i hi x z), w3, w4⟩
theorem AftS.kept {pn' : List Nat} (a : AftS B lc pn Y env σ F Z H env1 σ1 F1 Z1 H1 S1) (b : AftS B lc pn' (fun x => Y x ∨ S1 x) env1 σ1 F1 Z1 H1 env2 σ2 F2 Z2 H2 S2) (hp : ∀ i, i ∈ pn → i ∈ lc ∨ i ∈ pn' ∨ σ2[i]? = σ1[i]?) : AftS B lc pn Y env σ F Z H env2 σ2 F2 Z2 H2 (fun x => S1 x ∨ S2 x) := by
  have keep : ∀ x o, S1 x → H1 x = some o → H2 x = some o := fun x o z e => b.a.p.keep x o e (a.a.sd x z).1
  refine ⟨⟨a.a.r.lessY (Fb := F1) b.a.r (fun _ z => .inl z) b.a.p.keep b.a.p.zin a.a.r.fm (fun x z => (a.a.r.yf x z).1) (fun x z => (a.a.r.zf x z).1) b.a.lk (fun i hi => b.ks i (.inl hi)), fun x z => ?_, fun x z => ?_, ?_, a.a.lk.trans b.a.lk⟩, fun i hi => ?_⟩
  · rcases z with z | z
    · obtain ⟨o, e, m⟩ := a.a.sm x z
      exact ⟨o, keep x o z e, m⟩
    · exact b.a.sm x z
  · rcases z with z | z
    · have y := b.a.r.yf x (.inr z)
      exact ⟨y.1, y.2.1, (a.a.sd x z).2.2⟩
    · exact ⟨(b.a.sd x z).1, (b.a.sd x z).2.1, fun y => (b.a.sd x z).2.2 (.inl y)⟩
  · refine (a.a.p.trans (b.a.p.frame S1)).sub (fun _ z => z) fun x z => ?_
    rcases z with z | z | z
    · exact .inl (.inl (.inl z))
    · exact .inl (.inr z)
    · exact .inl (.inl (.inr z))
  · have q : σ2[i]? = σ1[i]? := by
      rcases hi with hi | hi
      · exact b.ks i (.inl hi)
      · rcases hp i hi with z | z | z
        · exact b.ks i (.inl z)
        · exact b.ks i (.inr z)
        · exact z
    exact q.trans (a.ks i hi)
/-- a result beside what is at hand -/
theorem AftS.res2 {z : T} {v : V} (a : AftS B lc pn Y env σ F Z H env1 σ1 F1 Z1 H1 S1) (h : Res B.G Z1 H1 z v H' none_) : AftS B lc pn Y env σ F Z H env1 σ1 F1 Z1 H' S1 := by
  have b := a.a.res h
  refine ⟨⟨b.r, fun x z => ?_, a.a.sd, ⟨b.p.keep, b.p.al, a.a.p.grow, b.p.zin, b.p.zup⟩, b.lk⟩, a.ks⟩
  obtain ⟨o, e, m⟩ := a.a.sm x z
  exact ⟨o, h.keep x o e, m⟩
theorem wipeE_len (own : List Nat) (env : Env) : (wipeE own env).length = env.length := by
  induction own with
  | nil => rfl
  | cons i r ih => show ((wipeE r env).set i none).length = _; rw [List.length_set, ih]
theorem wipeE_out {i : Nat} : ∀ {own : List Nat} {env : Env}, i ∉ own → (wipeE own env)[i]? = env[i]?
  | [], _, _ => rfl
  | v :: vs, env, h => by
    have h1 : v ≠ i := fun e => h (by rw [e]; exact List.mem_cons_self)
    show ((wipeE vs env).set v none)[i]? = _
    rw [List.getElem?_set_ne h1, wipeE_out fun m => h (List.mem_cons_of_mem _ m)]
theorem wipeE_some {i : Nat} {t : T} : ∀ {own : List Nat} {env : Env}, (wipeE own env)[i]? = some (some t) → env[i]? = some (some t) ∧ i ∉ own
  | [], _, h => ⟨h, by simp⟩
  | v :: vs, env, h => by
    have h' : ((wipeE vs env).set v none)[i]? = some (some t) := h
    by_cases hi : v = i
    · subst hi
      by_cases hv : v < (wipeE vs env).length
      · rw [List.getElem?_set_self hv] at h'; cases h'
      · rw [List.getElem?_eq_none (by simpa using hv)] at h'; cases h'
    · rw [List.getElem?_set_ne hi] at h'
      obtain ⟨h1, h2⟩ := wipeE_some h'
      exact ⟨h1, by simp only [List.mem_cons, not_or]; exact ⟨fun e => hi e.symm, h2⟩⟩
theorem backE_len (own : List Nat) (old env : Env) : (backE own old env).length = env.length := by
  induction own with
  | nil => rfl
  | cons i r ih => show ((backE r old env).set i _).length = _; rw [List.length_set, ih]
theorem backE_out {i : Nat} {old : Env} : ∀ {own : List Nat} {env : Env}, i ∉ own → (backE own old env)[i]? = env[i]?
  | [], _, _ => rfl
  | v :: vs, env, h => by
    have h1 : v ≠ i := fun e => h (by rw [e]; exact List.mem_cons_self)
    show ((backE vs old env).set v _)[i]? = _
    rw [List.getElem?_set_ne h1, backE_out fun m => h (List.mem_cons_of_mem _ m)]
theorem backE_in {i : Nat} {old : Env} {t : T} : ∀ {own : List Nat} {env : Env}, i ∈ own → (backE own old env)[i]? = some (some t) → old[i]? = some (some t)
  | v :: vs, env, h, e => by
    have e' : ((backE vs old env).set v ((old[v]?).getD none))[i]? = some (some t) := e
    by_cases hi : v = i
    · subst hi
      by_cases hv : v < (backE vs old env).length
      · rw [List.getElem?_set_self hv] at e'
        have e2 : (old[v]?).getD none = some t := Option.some.inj e'
        cases q : old[v]? with
        | none => rw [q] at e2; cases e2
        | some o => rw [q] at e2; exact congrArg some e2
      · rw [List.getElem?_eq_none (by simpa using hv)] at e'; cases e'
    · rw [List.getElem?_set_ne hi] at e'
      rcases List.mem_cons.mp h with h | h
      · exact absurd h.symm hi
      · exact backE_in h e'
/-- the slots of a block forgotten -/
theorem R.wipe {own : List Nat} (r : R G lc Y env σ H F Z) : R G lc Y (wipeE own env) (L2.wipe σ own) H F Z :=
  r.forget (by rw [wipeE_len, wipe_length, r.len]) fun j t e => by
    obtain ⟨h1, h2⟩ := wipeE_some e
    exact ⟨h1, wipe_out h2⟩
def tTs (B : Bs) (c : C) : TT := tG B (fun _ => VRb) (fun K env => (ev c).t K env)
theorem ts_nil : PTs X [] (tTs B .nil) := ⟨fun pins s σ H Q I ⟨lc, pn, Y, env, F, Z, r, h⟩ => pts_nil.run pins s σ H Q I (h true H F Z none_ (Aft.refl r) rfl)⟩
theorem ts_one {e : Expr} {c : C} (hc : (ev c).t = (ev c).b) (h : PT X e (tB B c)) : PTs X [e] (tTs B c) := ⟨fun pins s σ H Q I ⟨lc, pn, Y, env, F, Z, r, w⟩ => (pts_one h).run pins s σ H Q I ⟨lc, pn, Y, env, F, Z, r, by rw [hc] at w; exact w⟩⟩
abbrev Bs.calm (B : Bs) : Bs := { B with W := fun _ _ _ _ => False }
/-- the block's own work, turn by turn -/
def cg (own : List Nat) (g : C) (K : Ek) (m : Nat) : T → Env → Out Unit := (ev g).a (K.pinO own m)
def cb (el : C) (K : Ek) : List T → Env → Out (List T) := fun acc e => ((ev el).r K e).bind fun rv e => (valR K rv e).bind fun v e => if acc.length < lim ∧ v.whole = true then .ok (acc ++ [v.frz]) e else .stuck
theorem compL_cons {own : List Nat} {g : T → Env → Out Unit} {t : Env → Out Bool} {b : α → Env → Out α} {x : T} {r : List T} {acc : α} {env : Env} : compL own g t b (x :: r) acc env = (g x env).bind fun _ e => (t e).bind fun c e => if c = true then (b acc e).bind fun acc e => compL own g t b r acc (wipeE own e) else compL own g t b r acc (wipeE own e) := rfl
theorem bind_ok {o : Out α} {f : α → Env → Out β} {b : β} {e : Env} (h : o.bind f = .ok b e) : ∃ a e1, o = .ok a e1 ∧ f a e1 = .ok b e := by
  cases o with
  | ok a e1 => exact ⟨a, e1, rfl, h⟩
  | err c xs e1 => cases h
  | stuck => cases h
theorem wipe_eq {own : List Nat} {σ σ' : St} (hl : σ'.length = σ.length) (h : ∀ j, j ∉ own → j < σ.length → σ'[j]? = σ[j]?) : L2.wipe σ' own = L2.wipe σ own := by
  refine List.ext_getElem? fun j => ?_
  by_cases hj : j ∈ own
  · have dead : ∀ τ : St, (L2.wipe τ own)[j]? = if j < τ.length then some none else none := by
      intro τ
      by_cases hlt : j < τ.length
      · rw [if_pos hlt]
        have : j < (L2.wipe τ own).length := by rw [wipe_length]; exact hlt
        rw [List.getElem?_eq_getElem this]
        cases q : (L2.wipe τ own)[j] with
        | none => rfl
        | some x =>
          exact absurd hj (wipe_some (i := j) (x := x) (by rw [List.getElem?_eq_getElem this, q])).2
      · rw [if_neg hlt]
        exact List.getElem?_eq_none (by rw [wipe_length]; omega)
    rw [dead, dead, hl]
  · rw [wipe_out hj, wipe_out hj]
    by_cases hlt : j < σ.length
    · exact h j hj hlt
    · rw [List.getElem?_eq_none (by omega), List.getElem?_eq_none (by omega)]
end
end TI
end
section
set_option maxHeartbeats 400000
/-! TV8: list comprehensions. -/
namespace TI
open PySem L2
section
variable {B : Bs} {X : Cx} {sc : List (Str × NameKind)} {n : Nat} {lc pn : List Nat} {Y : Sa} {env env1 env2 e1 e2 : Env} {σ σ1 σ2 : St} {H H1 H2 H' : Hp} {F F1 F2 Z Z1 Z2 Z' S S1 S2 : Sa} {α β γ δ : Type} {G : Gd}
theorem calm_a {S : Sa} {lc pn : List Nat} (a : AftS B.calm lc pn Y env σ F Z H env1 σ1 F1 Z1 H1 S) : AftS B lc pn Y env σ F Z H env1 σ1 F1 Z1 H1 S := ⟨a.a, a.ks⟩
theorem lc_ok {own : List Nat} {g it tst el : C} {Q : VK} (hw : tR B (.lc own g it tst el) σ H Q) : tLc (tI B it) (tA B.calm g) (tTs B.calm tst) (tR B.calm el) own σ H Q := by
  obtain ⟨lc, pn, Y, env, F, Z, r, h⟩ := hw
  refine ⟨lc, pn, Y, env, F, Z, r, ?_⟩
  have h1 : OQ B lc Y env σ F Z H (VR1 B.G σ) (((ev it).i (B.k lc pn) env).bind fun q e => match lookAll e q.1 with
    | some ts => (match itemsK q.2 ts with
      | some its => if ownOk ((B.k lc pn).lockRs q.1) own e = true then (match compL own (cg own g ((B.k lc pn).lockRs q.1) e.length) ((ev tst).t ((B.k lc pn).lockRs q.1)) (cb el ((B.k lc pn).lockRs q.1)) its [] (wipeE own e) with
        | .ok acc e2 => .ok (.tmp (.lst true acc)) (backE own e e2)
        | _ => .stuck) else .stuck
      | none => .stuck)
    | none => .stuck) Q := h
  cases eo : (ev it).i (B.k lc pn) env with
  | stuck => rw [eo] at h1; exact h1
  | err c xs e => rw [eo] at h1; exact h1
  | ok q e1 =>
    rw [eo] at h1
    have h2 : OQ B lc Y env σ F Z H (VR1 B.G σ) (match lookAll e1 q.1 with
      | some ts => (match itemsK q.2 ts with
        | some its => if ownOk ((B.k lc pn).lockRs q.1) own e1 = true then (match compL own (cg own g ((B.k lc pn).lockRs q.1) e1.length) ((ev tst).t ((B.k lc pn).lockRs q.1)) (cb el ((B.k lc pn).lockRs q.1)) its [] (wipeE own e1) with
          | .ok acc e2 => .ok (.tmp (.lst true acc)) (backE own e1 e2)
          | _ => .stuck) else .stuck
        | none => .stuck)
      | none => .stuck) Q := h1
    dsimp only
    cases el' : lookAll e1 q.1 with
    | none => rw [el'] at h2; exact h2
    | some ts =>
      rw [el'] at h2
      dsimp only at h2 ⊢
      cases ei : itemsK q.2 ts with
      | none => rw [ei] at h2; exact h2
      | some its =>
        rw [ei] at h2
        dsimp only at h2 ⊢
        intro J vs H1 F1 Z1 S1 a1 q1 wk A hA
        obtain ⟨lc', Y', F', hK, r', hY, rb, back⟩ := lock_all (pn := pn) (B.k lc pn) q.1 (Hand.of (G := B.G) a1) q1 el'
        rw [hK (B.k lc pn) rfl] at h2
        have hK' : ({ B.k lc pn with lc := lc' } : Ek) = B.k lc' pn := rfl
        rw [hK'] at h2
        by_cases how : ownOk (B.k lc' pn) own e1 = true
        · rw [if_pos how] at h2
          cases ecomp : compL own (cg own g (B.k lc' pn) e1.length) ((ev tst).t (B.k lc' pn)) (cb el (B.k lc' pn)) its [] (wipeE own e1) with
          | stuck => rw [ecomp] at h2; exact h2.elim
          | err c xs e => rw [ecomp] at h2; exact h2.elim
          | ok accF eF =>
            rw [ecomp] at h2
            dsimp only at h2
            have own1 : ∀ i ∈ own, i ∉ lc' ∧ ∀ t, e1[i]? = some (some t) → t.free = true := by
              intro i hi
              have := (List.all_eq_true.mp how) i hi
              rw [Bool.and_eq_true, Bool.and_eq_true] at this
              obtain ⟨⟨q1, q2⟩, q3⟩ := this
              refine ⟨fun z => ?_, fun t et => ?_⟩
              · have : lc'.contains i = true := by simpa using z
                rw [show (B.k lc' pn).lc = lc' from rfl, this] at q2; cases q2
              · rw [et] at q1; exact q1
            have rw0 : R B.G lc' Y' (wipeE own e1) (L2.wipe σ own) H1 F' Z1 := r'.wipe
            let pnO : List Nat := (List.range e1.length).filter fun i => !own.contains i
            have src : ∀ {H2 : Hp} {F2 Z2 S2 : Sa} {e2 : Env} {σ2 : St}, AftS B.calm lc' pnO Y' (wipeE own e1) (L2.wipe σ own) F' Z1 H1 e2 σ2 F2 Z2 H2 S2 → RepA B.G Z2 H2 ts vs := fun a =>
              RepB.stab (Fc := F') a.a.p.keep r'.fm (fun x z => (r'.yf x z).1) (fun x z => (r'.zf x z).1) a.a.p.zin rb
            let Inv : Nat → Hp → Prop := fun i H3 => ∃ (e3 : Env) (F3 Z3 : Sa) (acc : List T) (vacc : List V), AftS B.calm lc' pnO Y' (wipeE own e1) (L2.wipe σ own) F' Z1 H1 e3 (L2.wipe σ own) F3 Z3 H3 (fun a => a = A) ∧ H3 A = some (.lst vacc) ∧ RepL B.G Z3 H3 acc vacc none_ ∧
              compL own (cg own g (B.k lc' pn) e1.length) ((ev tst).t (B.k lc' pn)) (cb el (B.k lc' pn)) (its.drop i) acc e3 = .ok accF eF
            refine ⟨fun i m H3 => i ≤ its.length ∧ m = its.length - i ∧ Inv i H3, ⟨its.length, Nat.zero_le _, rfl, wipeE own e1, F', Z1, [], [], ⟨(AftS.refl (B := B.calm) (pn := pnO) rw0).a.res (Res.newL (xs := []) (vs := []) hA rfl), fun _ _ => rfl⟩, upd_same, rfl, ecomp⟩, ?_⟩
            rintro i m H3 ⟨hle, hm, e3, F3, Z3, acc, vacc, a3, hA3, racc, hc⟩
            obtain ⟨wgo, wstop, wyld⟩ := wk Z3 H3 (src a3)
            by_cases hlt : i < its.length
            · refine .inr ⟨wgo i hlt, fun H' => i + 1 ≤ its.length ∧ Inv (i + 1) H', fun H' ⟨q1, q2⟩ => ⟨its.length - (i + 1), by omega, q1, rfl, q2⟩, ?_⟩
              intro x H4 hy
              have eat : its[i]? = some its[i] := List.getElem?_eq_getElem hlt
              have rs := wyld i its[i] x H4 eat hy
              have a4 := a3.res2 rs
              have hA4 : H4 A = some (.lst vacc) := rs.keep A _ hA3
              have racc4 : RepL B.G Z3 H4 acc vacc none_ := racc.grow rs.keep
              have ed : its.drop i = its[i] :: its.drop (i + 1) := List.drop_eq_getElem_cons hlt
              rw [ed, compL_cons] at hc
              obtain ⟨u5, e5, eg, hc⟩ := bind_ok hc
              obtain ⟨c6, e6, et, hc⟩ := bind_ok hc
              have rk : R B.G lc' (fun a => Y' a ∨ a = A) e3 (L2.wipe σ own) H4 F3 Z3 := a4.a.r.keepR a4.a.sm a4.a.sd
              refine ⟨lc', pnO, fun a => Y' a ∨ a = A, e3, F3, Z3, none_, its[i], ⟨rk, fun _ z => z.elim, fun _ z => z.elim⟩, rs.rep, ?_⟩
              have eg' : (ev g).a (B.calm.k lc' pnO) its[i] e3 = .ok u5 e5 := eg
              rw [eg']
              intro σ5 H5 F5 Z5 b5'
              have b5 : AftS B.calm lc' pnO (fun a => Y' a ∨ a = A) e3 (L2.wipe σ own) F3 Z3 H4 e5 σ5 F5 Z5 H5 none_ := ⟨⟨b5'.a.r, b5'.a.sm, b5'.a.sd, b5'.a.p.sub (fun _ z => z.elim id False.elim) fun x z => .inl z, b5'.a.lk⟩, b5'.ks⟩
              have hl3 : e3.length = e1.length := by have := a3.a.lk.1; rw [wipeE_len] at this; exact this
              have hlσ : (L2.wipe σ own).length = e1.length := by rw [wipe_length, ← r'.len]
              have hw5 : L2.wipe σ5 own = L2.wipe (L2.wipe σ own) own := wipe_eq (by rw [← b5.a.r.len, ← a4.a.r.len]; exact b5.a.lk.1) fun j hj hlt => by
                refine b5.ks j (.inr ?_)
                simp only [pnO, List.mem_filter, List.mem_range]
                refine ⟨by omega, by simpa using hj⟩
              have hww : L2.wipe (L2.wipe σ own) own = L2.wipe σ own := (wipe_eq (σ := L2.wipe σ own) (σ' := σ) (by rw [wipe_length]) fun j hj _ => (wipe_out hj).symm).symm.trans rfl |>.trans rfl
              refine ⟨hw5.trans hww, lc', pn, fun a => Y' a ∨ a = A, e5, F5, Z5, b5.a.r, ?_⟩
              have et' : (ev tst).t (B.calm.k lc' pn) e5 = .ok c6 e6 := et
              dsimp only
              rw [et']
              intro b6 H6 F6 Z6 S6 a6 q6
              have q6' : c6 = b6 := q6
              subst q6'
              have b6' : AftS B.calm lc' pnO (fun a => Y' a ∨ a = A) e3 (L2.wipe σ own) F3 Z3 H4 e6 σ5 F6 Z6 H6 none_ := AftS.then b5 ⟨a6.less fun _ z => z.elim, fun _ _ => rfl⟩
              -- the turn's end: the block's slots forgotten
              have turn : ∀ {e' : Env} {F7 Z7 : Sa} {H7 : Hp}, AftS B.calm lc' pnO Y' (wipeE own e1) (L2.wipe σ own) F' Z1 H1 e' σ5 F7 Z7 H7 (fun a => a = A) → AftS B.calm lc' pnO Y' (wipeE own e1) (L2.wipe σ own) F' Z1 H1 (wipeE own e') (L2.wipe σ own) F7 Z7 H7 (fun a => a = A) := by
                intro e' F7 Z7 H7 k
                have rw7 : R B.G lc' Y' (wipeE own e') (L2.wipe σ5 own) H7 F7 Z7 := k.a.r.wipe
                rw [hw5.trans hww] at rw7
                refine ⟨⟨rw7, k.a.sm, k.a.sd, k.a.p, ⟨by rw [wipeE_len]; exact k.a.lk.1, fun j hj => ?_⟩⟩, fun _ _ => rfl⟩
                rw [wipeE_out fun z => (own1 j z).1 hj]
                exact k.a.lk.2 j hj
              by_cases hb : c6 = true
              · rw [if_pos hb] at hc ⊢
                obtain ⟨acc2, e8, ebl, hc⟩ := bind_ok hc
                have ebl' : ((evR (B.k lc' pn) el e6).bind fun rv e => (valR (B.k lc' pn) rv e).bind fun v e => if acc.length < lim ∧ v.whole = true then .ok (acc ++ [v.frz]) e else .stuck) = .ok acc2 e8 := ebl
                obtain ⟨rv7, e7, er, ebl2⟩ := bind_ok ebl'
                obtain ⟨v8, e8', evv, ebl3⟩ := bind_ok ebl2
                refine ⟨lc', pn, fun a => Y' a ∨ a = A, e6, F6, Z6, a6.r, ?_⟩
                have er' : evR (B.calm.k lc' pn) el e6 = .ok rv7 e7 := er
                dsimp only
                rw [er']
                intro y H7 F7 Z7 S7 a7 q7
                obtain ⟨F8, Z8, S8, a8, q8⟩ := val_inv (B := B.calm) (pn := pn) a7 q7 evv
                by_cases hcap : acc.length < lim ∧ v8.whole = true
                · rw [if_pos hcap] at ebl3
                  cases ebl3
                  -- what the value owned is shared from now on
                  have b8 : AftS B.calm lc' pnO (fun a => Y' a ∨ a = A) e3 (L2.wipe σ own) F3 Z3 H4 e8 σ5 F8 Z8 H7 S8 := AftS.then b6' ⟨a8, fun _ _ => rfl⟩
                  have k8 := a4.kept b8 fun i hi => .inr (.inl hi)
                  have hA7 : H7 A = some (.lst vacc) := b8.a.p.keep A _ hA4 (a4.a.sd A rfl).1
                  have racc7 : RepL B.G Z8 H7 acc vacc none_ := RepL.stab acc racc4 b8.a.p.keep a4.a.r.fm (fun _ z => z.elim) (fun x z => (a4.a.r.zf x z).1) b8.a.p.zin
                  refine ⟨vacc, hA7, by rw [RepL.len acc racc7]; exact Nat.lt_of_lt_of_le hcap.1 (by decide), hlt, ?_⟩
                  have nA8 : ¬ Z8 A ∧ ¬ F8 A := ⟨(k8.a.sd A (.inl rfl)).2.1, (k8.a.sd A (.inl rfl)).1⟩
                  have nS8 : ¬ S8 A := fun z => (b8.a.sd A z).2.2 (.inr rfl)
                  have hm : ∃ o, H7 A = some o ∧ MutO o := ⟨_, hA7, trivial⟩
                  have ne8 : ∀ x, L2.upd H7 A (.lst (vacc ++ [y])) x = none → H7 x = none := fun x e => by
                    by_cases q : x = A
                    · subst q; rw [upd_same] at e; cases e
                    · rw [upd_ne q] at e; exact e
                  have post8 : Post (fun x => x = A ∨ S8 x) Z8 H7 (fun x => x = A) (fun x => Z8 x ∨ S8 x) (L2.upd H7 A (.lst (vacc ++ [y]))) :=
                    ⟨fun x o e n => by rw [upd_ne fun q => n (.inl q)]; exact e, ne8, fun x z => .inl (.inl z), fun x z => .inl z, fun x z => z.elim .inl fun z => .inr (.inl (.inr z))⟩
                  have k9 : AftS B.calm lc' pnO Y' (wipeE own e1) (L2.wipe σ own) F' Z1 H1 e8 σ5 F8 (fun x => Z8 x ∨ S8 x) (L2.upd H7 A (.lst (vacc ++ [y]))) (fun a => a = A) := by
                    refine ⟨⟨k8.a.r.frame post8 k8.a.sm (fun x z w => (k8.a.sd x w).1 z) (fun x z w => (k8.a.sd x w).2.2 z) (fun x z w => (k8.a.sd x w).2.1 z) (fun x z e => ?_), fun x z => ⟨.lst (vacc ++ [y]), by subst z; exact upd_same, trivial⟩, fun x z => ?_, ?_, k8.a.lk⟩, k8.ks⟩
                    · rcases z with z | z
                      · exact (k8.a.r.zf x z).2 (ne8 x e)
                      · obtain ⟨o, e', _⟩ := b8.a.sm x z; rw [ne8 x e] at e'; cases e'
                    · subst z
                      exact ⟨nA8.2, fun q => q.elim nA8.1 nS8, (k8.a.sd _ (.inl rfl)).2.2⟩
                    · refine (k8.a.p.trans ((post8.frame F8).sub (F1 := fun x => F8 x ∨ x = A ∨ S8 x) (F1' := fun x => F8 x ∨ x = A) (fun x z => z.elim .inr .inl) fun x z => z.elim (fun z => .inl (.inr z)) fun z => .inl (.inl z)))
                  refine ⟨wipeE own e8, F8, fun x => Z8 x ∨ S8 x, acc ++ [v8.frz], vacc ++ [y], turn k9, upd_same, RepL.snoc (kept_items racc7 hm (fun z => z) nA8.1 fun _ z => .inl z) ?_, hc⟩
                  exact kept_item (q8.frz v8 hcap.2 (fun _ z => .inl z) fun _ z => .inr z) hm (fun z => z) (fun z => z.elim nA8.1 nS8) fun _ z => z
                · rw [if_neg hcap] at ebl3; cases ebl3
              · rw [if_neg hb] at hc ⊢
                refine ⟨hlt, wipeE own e6, F6, Z6, acc, vacc, turn ((a4.kept b6' fun i hi => .inr (.inl hi)).less fun _ z => .inl z), b6'.a.p.keep A _ hA4 (a4.a.sd A rfl).1, RepL.stab acc racc4 b6'.a.p.keep a4.a.r.fm (fun _ z => z.elim) (fun x z => (a4.a.r.zf x z).1) b6'.a.p.zin, hc⟩
            · have ei2 : i = its.length := by omega
              refine .inl ⟨by rw [ei2]; exact wstop, ?_⟩
              rw [ei2, List.drop_length] at hc
              have hc' : Out.ok acc e3 = .ok accF eF := hc
              cases hc'
              have aF : AftS B lc' pn Y' e1 σ F' Z1 H1 (backE own e1 eF) σ F3 Z3 H3 (fun a => a = A) := by
                refine ⟨⟨?_, a3.a.sm, a3.a.sd, a3.a.p, ⟨by rw [backE_len]; have := a3.a.lk.1; rw [wipeE_len] at this; exact this, fun j hj => ?_⟩⟩, fun _ _ => rfl⟩
                · obtain ⟨hl, fm, zf, yf, S0, w1, w2, w3, w4⟩ := a3.a.r
                  have r2 := r'
                  obtain ⟨_, _, _, _, S9, _, _, _, v4⟩ := r2
                  refine ⟨by rw [backE_len, hl, wipe_length], fm, zf, yf, fun j x => j ∉ own ∧ S0 j x, fun j hj x z => w1 j hj x z.2, fun j hj x z => w2 j hj x z.2, fun j k hjk x z y => w3 j k hjk x z.2 y.2, fun j t e => ?_⟩
                  by_cases hj : j ∈ own
                  · have eo := backE_in hj e
                    obtain ⟨v, ev', qv⟩ := v4 j t eo
                    refine ⟨v, ev', ?_⟩
                    have qb := qv.bare t ((own1 j hj).2 t eo)
                    exact (qb.stab t a3.a.p.keep r'.fm (fun _ z => z.elim) (fun x z => (r'.zf x z).1) a3.a.p.zin).mono t fun _ z => z.elim
                  · rw [backE_out hj] at e
                    obtain ⟨v, ev', qv⟩ := w4 j t e
                    rw [wipe_out hj] at ev'
                    exact ⟨v, ev', qv.mono t fun x z => ⟨hj, z⟩⟩
                · have hjo : j ∉ own := fun z => (own1 j z).1 hj
                  rw [backE_out hjo, a3.a.lk.2 j hj, wipeE_out hjo]
              obtain ⟨F9, b9⟩ := back aF
              have c9 := AftS.hand (B := B) (pn := pn) ⟨a1, fun _ _ => rfl⟩ b9
              refine h2 (.ref A) H3 F9 Z3 _ c9.a ⟨A, vacc, none_, rfl, hA3, trivial, racc, ?_⟩
              unfold ndF
              rw [if_neg (fun q => nomatch q), if_pos rfl]
              exact ⟨rfl, fun z => z, fun _ z => z.elim⟩
        · rw [if_neg how] at h2; exact h2.elim
/-- [el for tg in it] -/
theorem s_lc {elt tg iter : Expr} {ifs : List Expr} {scope : Scope} {own : List (Str × Nat)} {pos : Pos} {g it tst el : C} (hc : X.calm = true) (hN : X.N.Nodup) (hi : PI X tg iter (tI B it)) (ok : BlkOk X.N X.env.scope scope own)
    (hg : ∀ (s : Shared) (H : Hp) (C : Addr) (cl : List (Str × Addr)) (fp : List Addr), PG (X.blk s H scope (compEnvC scope cl C X.env) fp) tg (tA B.calm g)) (ht : ∀ (s : Shared) (H : Hp) (C : Addr) (cl : List (Str × Addr)) (fp : List Addr), PTs (X.blk s H scope (compEnvC scope cl C X.env) fp) ifs (tTs B.calm tst))
    (he : ∀ (s : Shared) (H : Hp) (C : Addr) (cl : List (Str × Addr)) (fp : List Addr), PE (X.blk s H scope (compEnvC scope cl C X.env) fp) elt (tR B.calm el)) (hs : ∀ x, foldedSetIterable iter X.env x = pure x) :
    PE X (.ListComp elt [⟨tg, iter, ifs, 0⟩] scope pos) (tR B (.lc (own.map (·.2)) g it tst el)) :=
  (pe_lc hc hN hi ok hg ht he hs).tim fun σ H Q h => lc_ok h
theorem s_setLc {i : Nat} {y : Str} {py : Pos} {elt tg iter : Expr} {ifs : List Expr} {scope : Scope} {own : List (Str × Nat)} {pos spos : Pos} {g it tst el : C} (hc : X.calm = true) (hN : X.N.Nodup) (hy : X.N[i]? = some y) (hyl : X.env.scope.names.lookup y = some .local)
    (hsw : swapsWith (.ListComp elt [⟨tg, iter, ifs, 0⟩] scope pos) (some (.Name y py)) spos.line X.env = pure true) (hi : PI X tg iter (tI B it)) (ok : BlkOk X.N X.env.scope scope own)
    (hg : ∀ (s : Shared) (H : Hp) (C : Addr) (cl : List (Str × Addr)) (fp : List Addr), PG (X.blk s H scope (compEnvC scope cl C X.env) fp) tg (tA B.calm g)) (ht : ∀ (s : Shared) (H : Hp) (C : Addr) (cl : List (Str × Addr)) (fp : List Addr), PTs (X.blk s H scope (compEnvC scope cl C X.env) fp) ifs (tTs B.calm tst))
    (he : ∀ (s : Shared) (H : Hp) (C : Addr) (cl : List (Str × Addr)) (fp : List Addr), PE (X.blk s H scope (compEnvC scope cl C X.env) fp) elt (tR B.calm el)) (hs : ∀ x, foldedSetIterable iter X.env x = pure x) :
    PS X (.Assign [.Name y py] (.ListComp elt [⟨tg, iter, ifs, 0⟩] scope pos) spos) (tS B (.asg (.tv i) (.lc (own.map (·.2)) g it tst el))) :=
  (ps_setLc hc hN hy hyl hsw hi ok hg ht he hs).tim fun D σ H h => lc_ok (tG.mono (asg_ok rfl h) fun v H1 w => a_name w)
end
end TI
end
section
set_option maxHeartbeats 400000
/-! TW1: calls. -/
namespace TI
open PySem L2
/-- what holds behind a call: the value, the arguments as they are then -/
structure Done (G : Gd) (Z S : Sa) (H : Hp) (vs : List V) (fin : List T) (Z' S' Sf : Sa) (H' : Hp) : Prop where
  p : Post S Z H (fun a => S' a ∨ Sf a) Z' H'
  fin : RepL G Z' H' fin vs Sf
  dj : ∀ a, S' a → ¬ Sf a
  fm : ∀ a, S' a ∨ Sf a → ∃ o, H' a = some o ∧ MutO o
  zf : ∀ a, Z' a → ¬ S' a ∧ ¬ Sf a ∧ H' a ≠ none
/-- a def's promise, by trees -/
def spOf (G : Gd) (cs : Nat → List Str) (cl : List T → CO) : Sp := fun vs H Q E => ∃ (Z S : Sa) (ts : List T), RepL G Z H ts vs S ∧ (∀ a, S a → ∃ o, H a = some o ∧ MutO o) ∧ (∀ a, Z a → ¬ S a ∧ H a ≠ none) ∧ match cl ts with
  | .ok t fin => ∀ (v : V) (H' : Hp) (Z' S' Sf : Sa), Done G Z S H vs fin Z' S' Sf H' → Rep G Z' H' t v S' → Q v H'
  | .err c xs fin => ∀ (cls : Value) (d : Option Addr) (H' : Hp) (Z' Sf : Sa), Done G Z S H vs fin Z' none_ Sf H' → ExcAt G cs Z' H' c xs cls d → E cls d H'
  | .stuck => False
section
variable {B : Bs} {X : Cx} {sc : List (Str × NameKind)} {n : Nat} {lc pn : List Nat} {Y : Sa} {env env1 env2 e1 e2 : Env} {σ σ1 σ2 : St} {H H1 H2 H' : Hp} {F F1 F2 Z Z1 Z2 Z' S S1 S2 : Sa} {α β γ δ : Type} {G : Gd}
/-- the arguments taken, and put back -/
theorem take_all : ∀ (rvs : List RV) {vs : List V} {S F : Sa} {env e' : Env} {ts : List T} {us : List (Option T)}, Hand B lc Y env σ H F Z S → RepRVs B.G σ Z H rvs vs S → takeA (B.k lc pn) rvs env = some (ts, us, e') → ∃ (F' Sg Sk : Sa), R B.G lc Y e' σ H F' Z ∧ RepL B.G Z H ts vs Sg ∧
    (∀ a, Sg a → F a ∨ S a) ∧ (∀ a, Sk a → F a) ∧ (∀ a, F' a → F a) ∧ (∀ a, Sg a → ¬ F' a ∧ ¬ Sk a) ∧ (∀ a, Sk a → ¬ F' a) ∧ e'.length = env.length ∧ (∀ j ∈ lc, e'[j]? = env[j]?) ∧
    ∀ {H' : Hp} {Z' Sf Fc : Sa} {fin : List T}, Stab Fc H H' → (∀ a, Fc a → ∃ o, H a = some o ∧ MutO o) → (∀ a, Fc a → ¬ Sk a ∧ ¬ Z a) → (∀ a, Z a → Z' a) → (∀ a, Z' a → ¬ Sk a) → RepL B.G Z' H' fin vs Sf → (∀ a, Sf a → (∃ o, H' a = some o ∧ MutO o) ∧ ¬ Z' a ∧ ¬ Y a ∧ ¬ Sk a) →
      ∀ {env2 : Env} {F2 : Sa}, env2.length = env.length → R B.G lc Y env2 σ H' F2 Z' → (∀ a, F2 a → ¬ Sk a ∧ ¬ Sf a) → ∃ F3, R B.G lc Y (putA rvs fin us env2) σ H' F3 Z' ∧ (∀ a, F3 a → F2 a ∨ Sk a ∨ Sf a) ∧ (putA rvs fin us env2).length = env.length ∧ ∀ j ∈ lc, (putA rvs fin us env2)[j]? = env2[j]?
  | [], vs, S, F, env, e', ts, us, hd, q, e => by
    cases e
    refine ⟨F, none_, none_, hd.r, q, fun _ z => z.elim, fun _ z => z.elim, fun _ z => z, fun _ z => z.elim, fun _ z => z.elim, rfl, fun _ _ => rfl, fun {H' Z' Sf Fc fin} st fmc dc zin zk qf hf {env2 F2} hl r2 d2 => ⟨F2, ?_, fun _ z => .inl z, ?_, ?_⟩⟩
    · have ev : vs = [] := q
      subst ev
      cases fin with
      | nil => exact r2
      | cons t ts => obtain ⟨_, _, _, _, e, _⟩ := qf; cases e
    · have ev : vs = [] := q
      subst ev
      cases fin with
      | nil => exact hl
      | cons t ts => obtain ⟨_, _, _, _, e, _⟩ := qf; cases e
    · have ev : vs = [] := q
      subst ev
      cases fin with
      | nil => exact fun _ _ => rfl
      | cons t ts => obtain ⟨_, _, _, _, e, _⟩ := qf; cases e
  | .tmp t :: rvs, vs, S, F, env, e', ts, us, hd, ⟨v, r, S1, S2, ev, q1, q2, d, s1, s2⟩, e => by
    subst ev
    have e0 : (match takeA (B.k lc pn) rvs env with | some (ts, us, e) => some (t :: ts, none :: us, e) | none => none) = some (ts, us, e') := e
    cases et : takeA (B.k lc pn) rvs env with
    | none => rw [et] at e0; cases e0
    | some w =>
      obtain ⟨ts1, us1, e1⟩ := w
      rw [et] at e0
      cases e0
      obtain ⟨F', Sg, Sk, r', ra, g1, g2, g3, g4, g5, g6, g7, back⟩ := take_all rvs (hd.less s2) q2 et
      have hS : ∀ x, S x → ¬ F x := fun x z => (hd.sd x z).1
      refine ⟨F', fun x => S1 x ∨ Sg x, Sk, r', ⟨v, r, S1, Sg, rfl, q1, ra, fun x z y => (g1 x y).elim (hS x (s1 x z)) (d x z), fun _ z => .inl z, fun _ z => .inr z⟩, fun x z => z.elim (fun z => .inr (s1 x z)) fun z => (g1 x z).imp id (s2 x), g2, g3, fun x z => z.elim (fun z => ⟨fun y => hS x (s1 x z) (g3 x y), fun y => hS x (s1 x z) (g2 x y)⟩) (g4 x), g5, g6, g7, ?_⟩
      intro H' Z' Sf Fc fin st fmc dc zin zk qf hf env2 F2 hl r2 d2
      cases fin with
      | nil => cases (show v :: r = [] from qf)
      | cons tf fin =>
        obtain ⟨v', r2', Sf1, Sf2, ev2, qf1, qf2, df, sf1, sf2⟩ := qf
        cases ev2
        obtain ⟨F3, k1, k2, k3, k4⟩ := back st fmc dc zin zk qf2 (fun x z => hf x (sf2 x z)) hl r2 fun x z => ⟨(d2 x z).1, fun y => (d2 x z).2 (sf2 x y)⟩
        exact ⟨F3, k1, fun x z => (k2 x z).imp id fun z => z.imp id (sf2 x), k3, k4⟩
  | .plc i p :: rvs, vs, S, F, env, e', ts, us, hd, ⟨v, r, S1, S2, ev, q1, q2, d, s1, s2⟩, e => by
    subst ev
    have e0 : (match env[i]? with
      | some (some t) => (match t.get p with
        | some x => if ((B.k lc pn).open_ i && x.whole) = true then (match takeA (B.k lc pn) rvs (env.set i none) with
          | some (ts, us, e) => some (x :: ts, some t :: us, e)
          | none => none) else none
        | none => none)
      | _ => none) = some (ts, us, e') := e
    cases ei : env[i]? with
    | none => rw [ei] at e0; cases e0
    | some o =>
      cases o with
      | none => rw [ei] at e0; cases e0
      | some t =>
        rw [ei] at e0
        dsimp only at e0
        cases ex : t.get p with
        | none => rw [ex] at e0; cases e0
        | some x =>
          rw [ex] at e0
          dsimp only at e0
          by_cases hc : ((B.k lc pn).open_ i && x.whole) = true
          · rw [if_pos hc] at e0
            rw [Bool.and_eq_true] at hc
            have hi : i ∉ lc := by
              have := hc.1
              simp [Ek.open_] at this
              exact this
            cases et : takeA (B.k lc pn) rvs (env.set i none) with
            | none => rw [et] at e0; cases e0
            | some w =>
              obtain ⟨ts1, us1, e1⟩ := w
              rw [et] at e0
              cases e0
              obtain ⟨u, Sr, eu, rp, hSr, r0⟩ := hd.r.open_ hi ei
              obtain ⟨nS, u', eu', nv⟩ := q1
              rw [eu] at eu'; cases eu'
              obtain ⟨w', Sx, S3, nw, rx, b1, b2, b3, put⟩ := placeL p rp ex
              cases nv.inj nw
              have hlen : i < env.length := (List.getElem?_eq_some_iff.mp ei).1
              have hd1 : Hand B lc Y (env.set i none) σ H (fun a => F a ∧ ¬ Sr a) Z S2 := ⟨r0, fun x z => hd.sm x (s2 x z), fun x z => ⟨fun y => (hd.sd x (s2 x z)).1 y.1, (hd.sd x (s2 x z)).2⟩⟩
              obtain ⟨F', Sg, Sk, r', ra, g1, g2, g3, g4, g5, g6, g7, back⟩ := take_all rvs hd1 q2 et
              have sS2 : ∀ a, Sr a → ¬ S2 a := fun a z y => (hd.sd a (s2 a y)).1 (hSr a z)
              have srg : ∀ a, Sr a → ¬ Sg a := fun a z y => (g1 a y).elim (fun y => y.2 z) (sS2 a z)
              refine ⟨F', fun a => Sx a ∨ Sg a, fun a => S3 a ∨ Sk a, r', ⟨v, r, Sx, Sg, rfl, rx, ra, fun a z y => srg a (b1 a z) y, fun _ z => .inl z, fun _ z => .inr z⟩, fun a z => z.elim (fun z => .inl (hSr a (b1 a z))) fun z => (g1 a z).imp (·.1) (s2 a), fun a z => z.elim (fun z => hSr a (b2 a z)) fun z => (g2 a z).1, fun a z => (g3 a z).1, fun a z => ?_, fun a z => ?_, by rw [g6, List.length_set], fun j hj => ?_, ?_⟩
              · rcases z with z | z
                · exact ⟨fun y => (g3 a y).2 (b1 a z), fun y => y.elim (fun y => b3 a y z) fun y => (g2 a y).2 (b1 a z)⟩
                · exact ⟨(g4 a z).1, fun y => y.elim (fun y => srg a (b2 a y) z) (g4 a z).2⟩
              · rcases z with z | z
                · exact fun y => (g3 a y).2 (b2 a z)
                · exact g5 a z
              · rw [g7 j hj, List.getElem?_set_ne (fun w => hi (by rw [w]; exact hj))]
              · intro H' Z' Sf Fc fin st fmc dc zin zk qf hf env2 F2 hl r2 d2
                cases fin with
                | nil => cases (show v :: r = [] from qf)
                | cons tf fin =>
                  obtain ⟨v', r2', Sf1, Sf2, ev2, qf1, qf2, df, sf1, sf2⟩ := qf
                  cases ev2
                  have rt := put (H' := H') (Z' := Z') (Fc := Fc) (x' := tf) (Sx' := Sf1) st fmc (fun a z y => (dc a y).1 (.inl z)) (fun a z y => (dc a y).2 z) zin qf1 (fun a z y => (hf a (sf1 a y)).2.2.2 (.inl z))
                  have r3 := r2.bind (r := i) (σ' := σ) hi (by omega) rt (fun a z => z.elim (fun z => by
                      obtain ⟨o, e, m⟩ := hd.r.fm a (hSr a (b2 a z))
                      exact ⟨o, st a o e fun y => (dc a y).1 (.inl z), m⟩) fun z => (hf a (sf1 a z)).1)
                    (fun a z y => z.elim (fun z => (d2 a y).1 (.inl z)) fun z => (d2 a y).2 (sf1 a z))
                    (fun a z y => z.elim (fun z => (hd.r.yf a y).1 (hSr a (b2 a z))) fun z => (hf a (sf1 a z)).2.2.1 y)
                    (fun a z y => z.elim (fun z => zk a y (.inl z)) fun z => (hf a (sf1 a z)).2.1 y) rfl (fun _ _ => rfl) eu
                  obtain ⟨F3, k1, k2, k3, k4⟩ := back st fmc (fun a z => ⟨fun y => (dc a z).1 (.inr y), (dc a z).2⟩) zin (fun a z y => zk a z (.inr y)) qf2 (fun a z => ⟨(hf a (sf2 a z)).1, (hf a (sf2 a z)).2.1, (hf a (sf2 a z)).2.2.1, fun y => (hf a (sf2 a z)).2.2.2 (.inr y)⟩) (env2 := env2.set i (some (T.set tf t p))) (F2 := _) (by rw [List.length_set, List.length_set]; exact hl) r3 (fun a z => by
                    rcases z with z | z | z
                    · exact ⟨fun y => (d2 a z).1 (.inr y), fun y => (d2 a z).2 (sf2 a y)⟩
                    · exact ⟨fun y => (g2 a y).2 (b2 a z), fun y => (hf a (sf2 a y)).2.2.2 (.inl z)⟩
                    · exact ⟨fun y => (hf a (sf1 a z)).2.2.2 (.inr y), fun y => df a z y⟩)
                  refine ⟨F3, k1, fun a z => ?_, by rw [List.length_set] at k3; exact k3, fun j hj => ?_⟩
                  · rcases k2 a z with (z | z | z) | z | z
                    · exact .inl z
                    · exact .inr (.inl (.inl z))
                    · exact .inr (.inr (sf1 a z))
                    · exact .inr (.inl (.inr z))
                    · exact .inr (.inr (sf2 a z))
                  · have q := k4 j hj
                    rw [List.getElem?_set_ne (fun w => hi (by rw [w]; exact hj))] at q
                    exact q
          · rw [if_neg hc] at e0; cases e0
theorem s_callA {f : Nat} {c : C} {Q : VK} (hw : tR B (.call f c) σ H Q) : tCallSD (spOf B.G B.cs (B.K.cl f)) [] (WE B.W) (tL B c) σ H Q := by
  obtain ⟨lc, pn, Y, env, F, Z, r, h⟩ := hw
  have h1 : OQ B lc Y env σ F Z H (VR1 B.G σ) ((evL (B.k lc pn) c env).bind fun rvs e => callA (B.k lc pn) (B.K.cl f) rvs e) Q := h
  refine ⟨lc, pn, Y, env, F, Z, r, OQ.bind h1 fun rvs e1 vs H1 F1 Z1 S1 _ a1 q1 h2 => ?_⟩
  rw [List.append_nil]
  have h3 : OQ B lc Y env σ F Z H (VR1 B.G σ) (match takeA (B.k lc pn) rvs e1 with
    | some (ts, us, e) => (match B.K.cl f ts with
      | .ok t fin => Out.ok (.tmp t) (putA rvs fin us e)
      | .err c xs fin => .err c xs (putA rvs fin us e)
      | .stuck => .stuck)
    | none => .stuck) Q := h2
  cases et : takeA (B.k lc pn) rvs e1 with
  | none => rw [et] at h3; exact h3.elim
  | some w =>
    obtain ⟨ts, us, e'⟩ := w
    rw [et] at h3
    dsimp only at h3
    have hd : Hand B lc Y e1 σ H1 F1 Z1 S1 := ⟨a1.r, a1.sm, a1.sd⟩
    obtain ⟨F', Sg, Sk, r', ra, g1, g2, g3, g4, g5, g6, g7, back⟩ := take_all (pn := pn) rvs hd q1 et
    have sgm : ∀ a, Sg a → ∃ o, H1 a = some o ∧ MutO o := fun a z => (g1 a z).elim (a1.r.fm a) (a1.sm a)
    have sgz : ∀ a, Z1 a → ¬ Sg a := fun a z y => (g1 a y).elim (a1.r.zf a z).1 fun y => (a1.sd a y).2.1 z
    have sgy : ∀ a, Y a → ¬ Sg a := fun a z y => (g1 a y).elim (a1.r.yf a z).1 fun y => (a1.sd a y).2.2 z
    refine ⟨Z1, Sg, ts, ra, sgm, fun a z => ⟨sgz a z, (a1.r.zf a z).2⟩, ?_⟩
    -- behind the call
    have key : ∀ {fin : List T} {Z' S' Sf : Sa} {H' : Hp}, Done B.G Z1 Sg H1 vs fin Z' S' Sf H' → ∃ F3, Aft B.G lc Y env σ F Z H (putA rvs fin us e') σ F3 Z' H' S' := by
      intro fin Z' S' Sf H' dn
      have gone : ∀ a, H' a = none → H1 a = none := dn.p.al
      have new : ∀ a, S' a ∨ Sf a → Sg a ∨ H1 a = none := dn.p.grow
      have ne1 : ∀ a, F1 a → H1 a ≠ none := fun a z => a1.r.ne a z
      have zup : ∀ a, Z' a → Z1 a ∨ Sg a ∨ H1 a = none := dn.p.zup
      have skF : ∀ a, Sk a → ¬ Sg a := fun a z y => (g4 a y).2 z
      have r2 : R B.G lc Y e' σ H' F' Z' := r'.frame (Fc := Sg) (Fc' := fun a => S' a ∨ Sf a) dn.p sgm (fun a z y => (g4 a y).1 z) sgy sgz fun a z => (dn.zf a z).2.2
      have apart : ∀ a, S' a ∨ Sf a → ¬ F' a ∧ ¬ Sk a ∧ ¬ Y a := fun a z => by
        rcases new a z with y | y
        · exact ⟨(g4 a y).1, (g4 a y).2, fun w => sgy a w y⟩
        · exact ⟨fun w => ne1 a (g3 a w) y, fun w => ne1 a (g2 a w) y, fun w => (a1.r.yf a w).2.2 y⟩
      obtain ⟨F3, k1, k2, k3, k4⟩ := back (H' := H') (Z' := Z') (Sf := Sf) (Fc := Sg) (fin := fin) (fun a o e n => dn.p.keep a o e n) sgm (fun a z => ⟨(g4 a z).2, fun y => sgz a y z⟩) dn.p.zin (fun a z y => by
          rcases zup a z with w | w | w
          · exact (a1.r.zf a w).1 (g2 a y)
          · exact (g4 a w).2 y
          · exact ne1 a (g2 a y) w) dn.fin (fun a z => ⟨dn.fm a (.inr z), fun y => (dn.zf a y).2.1 z, (apart a (.inr z)).2.2, (apart a (.inr z)).2.1⟩) g6 r2 (fun a z => ⟨fun y => g5 a y z, fun y => (apart a (.inr y)).1 z⟩)
      refine ⟨F3, k1, fun a z => dn.fm a (.inl z), fun a z => ⟨fun y => ?_, fun y => (dn.zf a y).1 z, (apart a (.inl z)).2.2⟩, ?_, ⟨k3.trans a1.lk.1, fun j hj => ?_⟩⟩
      · rcases k2 a y with y | y | y
        · exact (apart a (.inl z)).1 y
        · exact (apart a (.inl z)).2.1 y
        · exact dn.dj a z y
      · refine a1.p.trans (F1 := fun a => F1 a ∨ S1 a) ⟨fun a o e n => dn.p.keep a o e fun z => n (g1 a z), dn.p.al, fun a z => ?_, dn.p.zin, fun a z => (zup a z).imp id fun z => z.imp (g1 a) id⟩
        have fromNew : S' a ∨ Sf a → (F1 a ∨ S1 a) ∨ H1 a = none := fun z => (new a z).imp (g1 a) id
        rcases z with z | z
        · rcases k2 a z with y | y | y
          · exact .inl (.inl (g3 a y))
          · exact .inl (.inl (g2 a y))
          · exact fromNew (.inr y)
        · exact fromNew (.inl z)
      · rw [k4 j hj, g7 j hj, a1.lk.2 j hj]
    cases ec : B.K.cl f ts with
    | stuck => rw [ec] at h3; exact h3.elim
    | ok t fin =>
      rw [ec] at h3
      intro v H' Z' S' Sf dn rep
      obtain ⟨F3, a3⟩ := key dn
      exact h3 v H' F3 Z' S' a3 rep
    | err k xs fin =>
      rw [ec] at h3
      intro cls dd H' Z' Sf dn ex
      obtain ⟨F3, a3⟩ := key dn
      exact h3 cls dd H' F3 Z' a3 ex
theorem s_call {f : Nat} {c : C} {k : Nat} {fa : Addr} {fd : FuncData} {ps : List Str} {x : Str} {p pos : Pos} {e : Expr} {es : List Expr} (tk : Takes X B.W) (Fo : FnOk X.prog X.w X.K X.mg X.base (L2.CX X.prog X.w) k fa fd ps (spOf B.G B.cs (B.K.cl f))) (hr : Room k X.A) (hg : Gl X x) (hm : X.mg x = some (.ref fa)) (hk : PySem.W.keepIn X.K (.ref fa) = true) (hb : Binds X.K fd ps [])
    (ha : PA X (e :: es) (tL B c)) (hdb : (x == ("__debug__" : Str)) = false) (he : starEach (e :: es) X.env = (false, eval e X.env) :: starEach es X.env) (hpl : (backTo pos (starEach es X.env)).any (·.1) = false) :
    PE X (.Call (.Name x p) (e :: es) [] pos) (tR B (.call f c)) :=
  (pe_callSD (E := WE B.W) Fo hr hg hm hk hb .nil (fun σ => passAt tk σ) ha hdb he hpl).tim fun σ H Q h => s_callA h
end
end TI
end
section
set_option maxHeartbeats 400000
/-! TW2: functions. -/
namespace TI
open PySem L2
section
variable {B : Bs} {X : Cx} {sc : List (Str × NameKind)} {n : Nat} {lc pn : List Nat} {Y : Sa} {env env1 env2 e1 e2 : Env} {σ σ1 σ2 : St} {H H1 H2 H' : Hp} {F F1 F2 Z Z1 Z2 Z' S S1 S2 : Sa} {α β γ δ : Type} {G : Gd}
theorem RepL.split : ∀ {ts : List T} {vs : List V} {S : Sa}, RepL G Z H ts vs S → ∃ Sf : Nat → Sa, (∀ i a, Sf i a → S a) ∧ (∀ i j, i ≠ j → ∀ a, Sf i a → ¬ Sf j a) ∧ ∀ i t, ts[i]? = some t → ∃ v, vs[i]? = some v ∧ Rep G Z H t v (Sf i)
  | [], _, _, _ => ⟨fun _ => none_, fun _ _ z => z.elim, fun _ _ _ _ z => z.elim, fun i t e => by simp at e⟩
  | t :: ts, _, S, ⟨v, r, S1, S2, e, q1, q2, d, s1, s2⟩ => by
    subst e
    obtain ⟨Sf, h1, h2, h3⟩ := RepL.split q2
    refine ⟨fun i => match i with | 0 => S1 | i + 1 => Sf i, fun i a z => ?_, fun i j hij a z y => ?_, fun i u e => ?_⟩
    · cases i with
      | zero => exact s1 a z
      | succ i => exact s2 a (h1 i a z)
    · cases i with
      | zero =>
        cases j with
        | zero => exact hij rfl
        | succ j => exact d a z (h1 j a y)
      | succ i =>
        cases j with
        | zero => exact d a y (h1 i a z)
        | succ j => exact h2 i j (fun q => hij (by rw [q])) a z y
    · cases i with
      | zero => simp at e; subst e; exact ⟨v, rfl, q1⟩
      | succ i => obtain ⟨w, ew, q⟩ := h3 i u (by simpa using e); exact ⟨w, by simpa using ew, q⟩
theorem RepL.join : ∀ {ts : List T} {vs : List V} {S : Sa} (Sf : Nat → Sa), ts.length = vs.length → (∀ i a, Sf i a → S a) → (∀ i j, i ≠ j → ∀ a, Sf i a → ¬ Sf j a) → (∀ i t v, ts[i]? = some t → vs[i]? = some v → Rep G Z H t v (Sf i)) → RepL G Z H ts vs S
  | [], vs, S, Sf, hl, h1, h2, h3 => by
    cases vs with
    | nil => rfl
    | cons _ _ => simp at hl
  | t :: ts, vs, S, Sf, hl, h1, h2, h3 => by
    cases vs with
    | nil => simp at hl
    | cons v r =>
      refine ⟨v, r, Sf 0, fun a => ∃ i, Sf (i + 1) a, rfl, h3 0 t v rfl rfl, RepL.join (fun i => Sf (i + 1)) (by simpa using hl) (fun i a z => ⟨i, z⟩) (fun i j hij => h2 (i + 1) (j + 1) (fun q => hij (by omega))) (fun i t v e e' => h3 (i + 1) t v (by simpa using e) (by simpa using e')), fun a z ⟨i, y⟩ => h2 0 (i + 1) (by omega) a z y, h1 0, fun a ⟨i, z⟩ => h1 (i + 1) a z⟩
theorem pinned_mem : ∀ {ts : List T} {k i : Nat} {t : T}, ts[i]? = some t → t.free = false → k + i ∈ pinned k ts
  | [], _, _, _, e, _ => by simp at e
  | x :: ts, k, 0, t, e, f => by
    simp at e; subst e
    unfold pinned
    rw [if_neg (by rw [f]; decide)]
    exact List.mem_cons_self
  | x :: ts, k, i + 1, t, e, f => by
    have := pinned_mem (ts := ts) (k := k + 1) (i := i) (by simpa using e) f
    unfold pinned
    rw [show k + (i + 1) = k + 1 + i by omega]
    split
    · exact this
    · exact List.mem_cons_of_mem _ this
theorem fins_len {pn : List Nat} {args : List T} {env : Env} : (fins pn args env).length = args.length := by unfold fins; simp
theorem fins_at {pn : List Nat} {args : List T} {env : Env} {i : Nat} {u : T} (e : (fins pn args env)[i]? = some u) : ∃ t, args[i]? = some t ∧ u = if pn.contains i then ((env[i]?).getD none).getD .hole else t := by
  unfold fins at e
  rw [List.getElem?_mapIdx] at e
  cases q : args[i]? with
  | none => rw [q] at e; cases e
  | some t => rw [q] at e; exact ⟨t, rfl, (Option.some.inj e).symm⟩
/-- behind a body: the promise -/
theorem done_of {args : List T} {vs : List V} {N : Nat} (ra : RepL G Z H args vs S) (hS : ∀ a, S a → ∃ o, H a = some o ∧ MutO o) (hz : ∀ a, Z a → ¬ S a ∧ H a ≠ none) (hG : B.G = G) {e' : Env} {σ' : St} {S' : Sa}
    (a : AftS B [] (pinned 0 args) none_ (args.map some ++ List.replicate N none) (vs.map some ++ List.replicate N none) S Z H e' σ' F1 Z' H' S') : Done G Z S H vs (fins (pinned 0 args) args e') Z' S' F1 H' := by
  subst hG
  refine ⟨a.a.p.sub (fun _ z => z) fun x z => .inl z.symm, ?_, fun x z => (a.a.sd x z).1, fun x z => z.elim (a.a.sm x) (a.a.r.fm x), fun x z => ⟨fun y => (a.a.sd x y).2.1 z, (a.a.r.zf x z).1, (a.a.r.zf x z).2⟩⟩
  obtain ⟨S0, s1, s2, s3, s4⟩ := a.a.r.sl
  have hlen := RepL.len args ra
  refine RepL.join (fun i => if (pinned 0 args).contains i = true then S0 i else none_) (by rw [fins_len, hlen]) (fun i x z => ?_) (fun i j hij x z y => ?_) fun i u v eu ev => ?_
  · split at z
    · exact s1 i (by simp) x z
    · exact z.elim
  · split at z
    · split at y
      · exact s3 i j hij x z y
      · exact y
    · exact z
  · obtain ⟨t, et, hu⟩ := fins_at eu
    have hi : i < vs.length := (List.getElem?_eq_some_iff.mp ev).1
    by_cases hp : (pinned 0 args).contains i = true
    · rw [if_pos hp] at hu
      rw [if_pos hp]
      have ks := a.ks i (.inr (by simpa using hp))
      rw [List.getElem?_append_left (by rw [List.length_map]; exact hi), List.getElem?_map, ev] at ks
      cases ee : e'[i]? with
      | none => rw [ee] at hu; subst hu; exact trivial
      | some o =>
        cases o with
        | none => rw [ee] at hu; subst hu; exact trivial
        | some t' =>
          rw [ee] at hu
          subst hu
          obtain ⟨w, ew, q⟩ := s4 i _ ee
          rw [ks] at ew
          cases ew
          exact q
    · rw [if_neg hp] at hu
      subst hu
      rw [if_neg hp]
      have fr : u.free = true := by
        cases q : u.free with
        | true => rfl
        | false =>
          have := pinned_mem (k := 0) et q
          rw [Nat.zero_add] at this
          exact absurd (by simpa using this) hp
      obtain ⟨w, Sj, Sr, ew, q, _, _⟩ := RepL.at_ args ra et
      rw [ev] at ew; cases ew
      exact (q.bare u fr).stab u a.a.p.keep hS (fun _ z => z.elim) (fun x z => (hz x z).1) a.a.p.zin
/-- a body's start -/
theorem start_R {args : List T} {vs : List V} {N : Nat} (ra : RepL G Z H args vs S) (hS : ∀ a, S a → ∃ o, H a = some o ∧ MutO o) (hz : ∀ a, Z a → ¬ S a ∧ H a ≠ none) : R G [] none_ (args.map some ++ List.replicate N none) (vs.map some ++ List.replicate N none) H S Z := by
  obtain ⟨Sf, h1, h2, h3⟩ := ra.split
  refine ⟨by simp [RepL.len args ra], hS, hz, fun _ z => z.elim, Sf, fun i _ => h1 i, fun i hi => absurd hi (by simp), h2, fun i t e => ?_⟩
  by_cases hi : i < args.length
  · rw [List.getElem?_append_left (by rw [List.length_map]; exact hi), List.getElem?_map] at e
    cases q : args[i]? with
    | none => rw [q] at e; cases e
    | some u =>
      rw [q] at e; cases e
      obtain ⟨v, ev, rp⟩ := h3 i t q
      refine ⟨v, ?_, rp⟩
      rw [List.getElem?_append_left (by rw [List.length_map]; exact (List.getElem?_eq_some_iff.mp ev).1), List.getElem?_map, ev]
      rfl
  · rw [List.getElem?_append_right (by rw [List.length_map]; omega)] at e
    rw [List.getElem?_replicate] at e
    split at e <;> cases e
theorem takes_cx {P : Program} {w : World} {K : PySem.W.Frag} {mg : Str → Option Value} {base : Heap} {N : List Str} {qual : Str} {scope : Scope} {f : Addr} {cd : Value} {A : Around} {outer : List PySem.Env} {s : Shared} {H : Hp} {E : XK} : True := trivial
end
/-- a def by its body -/
theorem fn_body {P : Program} {w : World} {K : PySem.W.Frag} {mg : Str → Option Value} {base : Heap} {k : Nat} {f : Addr} {name qual : Str} {params : Arguments} {body : List Stmt} {scope : Scope} {dV kV doc pm cdv ct oc : Value} {an od : Option Addr}
    {osl : Array (Option Value)} {N ps : List Str} {G : Gd} {cs : Nat → List Str} {Kk : Ek} {c : C} (lk : K.lookup f = some ⟨oc, od, .func (PySem.W.fnOf name qual params body scope dV kV doc pm an cdv ct), osl⟩) (hcd : PySem.W.codeIn K cdv qual = true) (S : FnScope N ps scope)
    (hb : ∀ (A : Around) (outer : List PySem.Env) (s : Shared) (H : Hp) (E : XK), Room k (A.deeper (PyProof.Rows.envOfC qual scope s.heap.objs.size f cdv)) → PSs (cxOf (L2.CX P w) P w K mg base N qual scope f cdv A outer s H E) body (tBl ⟨G, Kk, cs, fun cls d _ H => E cls d H⟩ c)) :
    FnOk P w K mg base (L2.CX P w) (k + 1) f (PySem.W.fnOf name qual params body scope dV kV doc pm an cdv ct) ps (spOf G cs (runFn Kk ⟨ps.length, N.length, c⟩)) := by
  have hlen : ∀ vs H Q E, spOf G cs (runFn Kk ⟨ps.length, N.length, c⟩) vs H Q E → vs.length = ps.length := by
    rintro vs H Q E ⟨Z, S0, ts, ra, _, _, h⟩
    by_cases hl : ts.length = ps.length
    · rw [RepL.len ts ra, hl]
    · have : runFn Kk ⟨ps.length, N.length, c⟩ ts = .stuck := by unfold runFn; rw [if_neg hl]
      rw [this] at h; exact h.elim
  refine fn_of lk hcd S hlen fun A outer s H vs Q E hr hsp => ⟨_, hb A outer s H E hr, ?_⟩
  have hl := hlen vs H Q E hsp
  obtain ⟨Z, S0, ts, ra, hS, hz, h⟩ := hsp
  have hts : ts.length = ps.length := by rw [← RepL.len ts ra]; exact hl
  have est : L2.start N vs = vs.map some ++ List.replicate (N.length - ps.length) none := by unfold L2.start; rw [hl]
  rw [est]
  refine ⟨[], pinned 0 ts, none_, ts.map some ++ List.replicate (N.length - ps.length) none, S0, Z, start_R ra hS hz, ?_⟩
  have er : runFn Kk ⟨ps.length, N.length, c⟩ ts = (match (ev c).bl { Kk with lc := [], pn := pinned 0 ts } (ts.map some ++ List.replicate (N.length - ps.length) none) with
    | .nx env => .ok .non (fins (pinned 0 ts) ts env)
    | .rt t env => .ok t (fins (pinned 0 ts) ts env)
    | .err c xs env => .err c xs (fins (pinned 0 ts) ts env)
    | _ => .stuck) := by
    unfold runFn
    rw [if_pos hts] <;> rfl
  rw [er] at h
  show SQ _ [] (pinned 0 ts) none_ _ _ S0 Z H ((ev c).bl { Kk with lc := [], pn := pinned 0 ts } (ts.map some ++ List.replicate (N.length - ps.length) none)) _
  cases eo : (ev c).bl { Kk with lc := [], pn := pinned 0 ts } (ts.map some ++ List.replicate (N.length - ps.length) none) with
  | stuck => rw [eo] at h; exact h
  | bk e => rw [eo] at h; exact h.elim
  | ct e => rw [eo] at h; exact h.elim
  | nx e =>
    rw [eo] at h
    exact fun σ' H' F' Z' a => h .non H' Z' none_ F' (done_of ra hS hz rfl a) rfl
  | rt t e =>
    rw [eo] at h
    exact fun v σ' H' F' Z' S' a q => h v H' Z' S' F' (done_of ra hS hz rfl a) q
  | err cc xs e =>
    rw [eo] at h
    exact fun cls d σ' H' F' Z' a q => h cls d H' Z' F' (done_of ra hS hz rfl a) q
end TI
end
section
set_option maxHeartbeats 400000
/-! TW3: isinstance, join, split, a[::st]. -/
namespace TI
open PySem L2
def Ty.name : Ty → String
  | .non => "NoneType"
  | .bool => "bool"
  | .int => "int"
  | .str => "str"
  | .tuple => "tuple"
  | .list => "list"
  | .dict => "dict"
section
variable {B : Bs} {X : Cx} {sc : List (Str × NameKind)} {n : Nat} {lc pn : List Nat} {Y : Sa} {env env1 env2 e1 e2 : Env} {σ σ1 σ2 : St} {H H1 H2 H' : Hp} {F F1 F2 Z Z1 Z2 Z' S S1 S2 : Sa} {α β γ δ : Type} {G : Gd}
theorem kit_ty (K : PySem.W.Frag) (a b : Ty) : PySem.W.kitOne K (.type a.name) (.type b.name) = some (subY a b) := by
  cases a <;> cases b <;> rfl
theorem tyT_rep {K : PySem.W.Frag} (hG : G.K = K) {t : T} {v : V} {a : Ty} (h : Rep G Z H t v S) (e : tyT t = some a) : TyX K H v (.type a.name) := by
  cases t with
  | hole => cases e
  | non => cases e; rw [show v = .non from h]; exact .base .non
  | bl b => cases e; rw [show v = .bl b from h]; exact .base (.bl b)
  | int i => cases e; rw [show v = .int i from h]; exact .base (.int i)
  | str s => cases e; rw [show v = .str s from h]; exact .base (.str s)
  | nd k f xs =>
    cases k with
    | tup =>
      cases e
      obtain ⟨p, vs, S0, rfl, hn, l⟩ := h.tupD
      rw [hG] at hn
      rcases hn with hn | ⟨o, its, m, ho, hc, hd, _⟩
      · rcases hn with hn | ⟨o, hn⟩
        · exact .base (.tup hn)
        · exact .fTuple hn
      · exact .kTuple ho hc
    | lst =>
      cases e
      obtain ⟨p, vs, S0, rfl, hn, l⟩ := h.lstD
      exact .base (.lst hn)
    | scr =>
      cases e
      obtain ⟨p, vs, S0, rfl, hn, _⟩ := h
      have hn : SqF K H p vs := hG ▸ (show SqF G.K H p vs from hn)
      rcases hn with ⟨o, hn⟩ | ⟨o, its, m, ho, hc, _⟩
      · exact .base (.frz hn)
      · exact .kList ho hc
    | _ => cases e
/-- isinstance(x, T), T a built-in class -/
theorem s_isi {e : Expr} {c : C} {cl : Cl} {b : Ty} {p p2 pos : Pos} {x : Str} (hG : B.G.K = X.K) (hb : clY cl = some b) (hg : Gl X "isinstance") (hm : X.mg "isinstance" = none) (hgt : Gl X x) (hmt : X.mg x = none) (hv : bootBuiltins x = some (.type b.name)) (hn : x ≠ "__name__") (hdb : (x == ("__debug__" : Str)) = false)
    (ha : PE X e (tR B c)) (he : starEach [e, .Name x p2] X.env = (false, eval e X.env) :: starEach [.Name x p2] X.env) : PE X (.Call (.Name "isinstance" p) [e, .Name x p2] [] pos) (tR B (.isi c [cl])) := by
  have ht : PE X (.Name x p2) (fun σ H Q => Q (.ty b.name) H) := pe_bltn hgt hmt hv rfl hn hdb
  have hpt : PA X [.Name x p2] (fun σ H Q => Q [.ty b.name] H) := (pa_cons ht pa_nil rfl).tim fun σ H Q h => h
  have hpa : PA X [e, .Name x p2] (fun σ H Q => tR B c σ H fun v H1 => Q [v, .ty b.name] H1) := (pa_cons ha hpt he).tim fun σ H Q h => h
  refine (pe_callB call_isi hg hm (by rfl) hpa (by decide) (by decide) he rfl).tim fun σ H Q ⟨lc, pn, Y, env, F, Z, r, h⟩ => ⟨lc, pn, Y, env, F, Z, r, ?_⟩
  have h1 : OQ B lc Y env σ F Z H (VR1 B.G σ) ((evR (B.k lc pn) c env).bind fun x e => match lookR e x with
    | some t => (lift (anyO ([cl].map fun c => clT c t)) e).bind fun z e => .ok (.tmp (.bl z)) e
    | none => .stuck) Q := h
  refine OQ.bind h1 fun rv e1 v H1 F1 Z1 S1 _ a1 q1 h2 => ?_
  cases el : lookR e1 rv with
  | none => rw [el] at h2; exact h2.elim
  | some t =>
    rw [el] at h2
    obtain ⟨T1, r1, _⟩ := look_rep a1.r q1 el
    have h3 : OQ B lc Y env σ F Z H (VR1 B.G σ) ((lift (anyO [clT cl t]) e1).bind fun z e => .ok (.tmp (.bl z)) e) Q := h2
    cases et : tyT t with
    | none =>
      have : clT cl t = none := by unfold clT; rw [et]
      rw [this] at h3; exact h3.elim
    | some a =>
      have : clT cl t = some (subY a b) := by unfold clT; rw [et, hb]
      rw [this] at h3
      have h4 : Q (.bl (subY a b)) H1 := by
        have h5 : OQ B lc Y env σ F Z H (VR1 B.G σ) (.ok (.tmp (.bl (subY a b))) e1) Q := by
          cases hs : subY a b with
          | true => rw [hs] at h3; exact h3
          | false => rw [hs] at h3; exact h3
        exact h5 (.bl (subY a b)) H1 F1 Z1 none_ (a1.less fun _ z => z.elim) rfl
      exact ⟨v, .ty b.name, .type a.name, .type b.name, subY a b, rfl, .ty _, tyT_rep hG r1 et, kit_ty X.K a b, h4⟩
/-! ### texts' methods -/
theorem str_empty_eq : (⟨#[]⟩ : Str) = Str.empty := rfl
theorem join_eq (sep : Str) : ∀ ss : List Str, joinS sep ss = Txt.join sep ss := by
  intro ss
  have h : ∀ ss : List Str, joinS sep ss = Str.join sep ss := by
    intro ss
    induction ss with
    | nil => rfl
    | cons x r ih =>
      cases r with
      | nil => rfl
      | cons y r => show x ++ sep ++ joinS sep (y :: r) = x ++ sep ++ Str.join sep (y :: r); rw [ih]
  rw [h]
  exact (StrLaws.glued_eq_join sep ss).symm
/-- one argument alone -/
theorem l_one {c : C} {σ : St} {H : Hp} {Q : List V → Hp → Prop} {VR : St → γ → V → Sa → Sa → Hp → Prop} : True := trivial
theorem s_mt0 {m : Mt} {a c : C} {σ : St} {H : Hp} {Q : VK} (h : tR B (.mt m a (.cons c .nil)) σ H Q) : tR B a σ H fun v H1 => (((m = .join ∨ m = .split) → ∃ s, v = .str s)) ∧ (m = .index → ∃ p vs, v = .ref p ∧ ∀ K, SqL K H1 p vs) ∧ tR B c σ H1 fun w H2 => ∃ (Z S1 S2 : Sa) (t u z : T), Rep B.G Z H2 t v S1 ∧ Rep B.G Z H2 u w S2 ∧ mtT m t [u] = some z ∧ ∀ (v : V) (H' : Hp) (S : Sa), Res B.G Z H2 z v H' S → Q v H' := by
  obtain ⟨lc, pn, Y, env, F, Z, r, h⟩ := h
  have h1 : OQ B lc Y env σ F Z H (VR1 B.G σ) ((evR (B.k lc pn) a env).bind fun x e => if mtOk m x e = true then ((B.k lc pn).withP e x fun K => evL K (.cons c .nil) e).bind fun rvs e => (match lookR e x, lookAll e rvs with
    | some t, some ts => (lift (mtT m t ts) e).bind fun z e => .ok (.tmp z) e
    | _, _ => .stuck) else .stuck) Q := h
  refine ⟨lc, pn, Y, env, F, Z, r, OQ.bind h1 fun rv e1 v H1 F1 Z1 S1 _ a1 q1 h2 => ?_⟩
  have hok : mtOk m rv e1 = true := by
    cases q : mtOk m rv e1 with
    | true => rfl
    | false => rw [q] at h2; exact h2.elim
  rw [if_pos hok] at h2
  refine ⟨fun hm => ?_, fun hm => ?_, ?_⟩
  · cases rv with
    | plc _ _ => rcases hm with rfl | rfl <;> cases hok
    | tmp t =>
      cases t with
      | str s => exact ⟨s, q1⟩
      | _ => rcases hm with rfl | rfl <;> cases hok
  · subst hm
    have hok' : (match lookR e1 rv with | some (.nd .lst _ _) => true | _ => false) = true := hok
    cases el : lookR e1 rv with
    | none => rw [el] at hok'; cases hok'
    | some t =>
      rw [el] at hok'
      obtain ⟨T1, r1, _⟩ := look_rep a1.r q1 el
      cases t with
      | nd k f xs =>
        cases k with
        | lst =>
          obtain ⟨p, vs, S0, rfl, hn, l⟩ := r1.lstD
          exact ⟨p, vs, rfl, fun K => sql_lst hn⟩
        | _ => cases hok'
      | _ => cases hok'
  have h3 := second (VR' := fun σ => VRl B.G σ) (ev := fun K e => evL K (.cons c .nil) e) (Q2 := fun ws H2 => ∀ w, ws = [w] → ∃ (Z S1 S2 : Sa) (t u z : T), Rep B.G Z H2 t v S1 ∧ Rep B.G Z H2 u w S2 ∧ mtT m t [u] = some z ∧ ∀ (v : V) (H' : Hp) (S : Sa), Res B.G Z H2 z v H' S → Q v H') a1 q1 h2 fun rvs e2 ws H2 F2 Z2 S2 b q1' q2 h3 w ew => ?_
  · obtain ⟨lc', pn', Y', env', F', Z', r', h3⟩ := h3
    refine ⟨lc', pn', Y', env', F', Z', r', ?_⟩
    have h4 : OQ B lc' Y' env' σ F' Z' H1 (VRl B.G σ) ((evR (B.k lc' pn') c env').bind fun x e => ((B.k lc' pn').withP e x fun K => .ok [] e).bind fun xs e => .ok (x :: xs) e) _ := h3
    refine OQ.bind h4 fun rv2 e2 w H2 F2 Z2 S2 _ a2 q2 h5 => ?_
    have h6 : OQ B lc' Y' env' σ F' Z' H1 (VRl B.G σ) (.ok [rv2] e2) (fun ws H2 => ∀ w, ws = [w] → ∃ (Z S1 S2 : Sa) (t u z : T), Rep B.G Z H2 t v S1 ∧ Rep B.G Z H2 u w S2 ∧ mtT m t [u] = some z ∧ ∀ (v : V) (H' : Hp) (S : Sa), Res B.G Z H2 z v H' S → Q v H') := by
      cases rv2 with
      | tmp t => exact h5
      | plc i p =>
        cases p with
        | nil => exact h5
        | cons j p =>
          have h7 : OQ B lc' Y' env' σ F' Z' H1 (VRl B.G σ) ((match lookR e2 (.plc i (j :: p)) with | some _ => Out.ok [] e2 | none => .stuck).bind fun xs e => .ok (RV.plc i (j :: p) :: xs) e) _ := h5
          cases el : lookR e2 (.plc i (j :: p)) with
          | none => rw [el] at h7; exact h7.elim
          | some t => rw [el] at h7; exact h7
    exact h6 [w] H2 F2 Z2 S2 a2 ⟨w, [], S2, none_, rfl, q2, rfl, fun _ _ z => z, fun _ z => z, fun _ z => z.elim⟩ w rfl
  · subst ew
    obtain ⟨ab, d⟩ := a1.step b
    cases el : lookR e2 rv with
    | none => rw [el] at h3; exact h3.elim
    | some t =>
      cases el2 : lookAll e2 rvs with
      | none => rw [el, el2] at h3; exact h3.elim
      | some ts =>
        rw [el, el2] at h3
        dsimp only at h3
        have ra := look_all ab.r q2 el2
        obtain ⟨T1, r1, _⟩ := look_rep ab.r q1' el
        cases em : mtT m t ts with
        | none => rw [em] at h3; exact h3.elim
        | some z =>
          rw [em] at h3
          cases ts with
          | nil => cases (show [w] = [] from ra)
          | cons u us =>
            obtain ⟨w', r', S', e', ru, rr⟩ := ra
            cases e'
            cases us with
            | cons _ _ => obtain ⟨_, _, _, e', _⟩ := rr; cases e'
            | nil => exact ⟨Z2, T1, S', t, u, z, r1, ru, em, fun v' H' S'' rs => h3 v' H' F2 Z2 S'' (ab.res rs) rs.rep⟩
theorem s_join {o e : Expr} {a c : C} {apos pos : Pos} (hG : B.G.K = X.K) (ho : PE X o (tR B a)) (he : PE X e (tR B c)) (hs : starEach [e] X.env = [(false, eval e X.env)]) (hbase : attributeBase o "join" X.env (eval o X.env) = eval o X.env) (hline : (apos.endLine == pos.line) = true) :
    PE X (.Call (.Attribute o "join" apos) [e] [] pos) (tR B (.mt .join a (.cons c .nil))) := by
  refine (pe_join ho he hs hbase hline).tim fun σ H Q h => tG.mono (s_mt0 h) fun v H1 ⟨hv, _, h2⟩ => ⟨hv (.inl rfl), tG.mono h2 fun w H2 ⟨Z, S1, S2, t, u, z, r1, r2, em, k⟩ => ?_⟩
  have alt : ∃ sep ss xs, t = .str sep ∧ (∃ f, u = .nd .lst f xs ∨ u = .nd .tup f xs) ∧ strsL xs = some ss ∧ (ss.map (·.length)).sum + ss.length * sep.length ≤ lim ∧ z = .str (joinS sep ss) := by
    have go : ∀ (sep : Str) (xs : List T) (z : T), (match strsL xs with
        | some ss => if (ss.map (·.length)).sum + ss.length * sep.length ≤ lim then some (T.str (joinS sep ss)) else none
        | none => none) = some z → ∃ ss, strsL xs = some ss ∧ (ss.map (·.length)).sum + ss.length * sep.length ≤ lim ∧ z = .str (joinS sep ss) := by
      intro sep xs z e
      cases es : strsL xs with
      | none => rw [es] at e; cases e
      | some ss =>
        rw [es] at e
        dsimp only at e
        split at e
        · cases e; exact ⟨ss, rfl, by assumption, rfl⟩
        · cases e
    cases t with
    | str sep =>
      cases u with
      | nd kd f xs =>
        cases kd with
        | lst => obtain ⟨ss, h1, h2, h3⟩ := go sep xs z em; exact ⟨sep, ss, xs, rfl, ⟨f, .inl rfl⟩, h1, h2, h3⟩
        | tup => obtain ⟨ss, h1, h2, h3⟩ := go sep xs z em; exact ⟨sep, ss, xs, rfl, ⟨f, .inr rfl⟩, h1, h2, h3⟩
        | _ => cases em
      | _ => cases em
    | _ => cases em
  obtain ⟨sep, ss, xs, rfl, ⟨f, hu⟩, es, hl, rfl⟩ := alt
  have fin : Q (.str (Txt.join sep ss)) H2 := by rw [← join_eq]; exact k _ H2 none_ (Res.same rfl)
  have hl' : (ss.map (·.length)).sum + ss.length * sep.length ≤ 16777216 := Nat.le_trans hl (by decide)
  rcases hu with rfl | rfl
  · obtain ⟨p, vs, S0, rfl, hn, l⟩ := r2.lstL (K := X.K)
    exact ⟨sep, p, ss, r1, rfl, .inl (strs_rep es l ▸ hn), hl', fin⟩
  · obtain ⟨p, vs, S0, rfl, hn, l⟩ := r2.tupD
    exact ⟨sep, p, ss, r1, rfl, .inr (strs_rep es l ▸ hG ▸ hn), hl', fin⟩
/-- a list of texts without the sign c, joined by it, is the split -/
theorem splitL_free (c : Nat) : ∀ {w : List Nat}, c ∉ w → splitL c w = [w]
  | [], _ => rfl
  | x :: w, h => by
    have h1 : x ≠ c := fun e => h (by rw [e]; exact List.mem_cons_self)
    have h2 : c ∉ w := fun m => h (List.mem_cons_of_mem _ m)
    unfold splitL
    rw [if_neg h1, splitL_free c h2]
theorem splitL_app (c : Nat) : ∀ {w r : List Nat}, c ∉ w → splitL c (w ++ c :: r) = w :: splitL c r
  | [], r, _ => by
    show splitL c (c :: r) = _
    unfold splitL
    rw [if_pos rfl]
    cases r <;> rfl
  | x :: w, r, h => by
    have h1 : x ≠ c := fun e => h (by rw [e]; exact List.mem_cons_self)
    have h2 : c ∉ w := fun m => h (List.mem_cons_of_mem _ m)
    show splitL c (x :: (w ++ c :: r)) = _
    rw [show splitL c (x :: (w ++ c :: r)) = (if x = c then [] :: splitL c (w ++ c :: r) else match splitL c (w ++ c :: r) with | [] => [[x]] | w :: ws => (x :: w) :: ws) from rfl, if_neg h1, splitL_app c h2]
theorem split_join (c : Nat) : ∀ {ws : List Str}, ws ≠ [] → (∀ w ∈ ws, c ∉ w.cps.toList) → splitL c (Str.join ⟨#[c]⟩ ws).cps.toList = ws.map fun w => w.cps.toList
  | [], h, _ => absurd rfl h
  | [w], _, h => splitL_free c (h w List.mem_cons_self)
  | w :: v :: r, _, h => by
    have e : (Str.join ⟨#[c]⟩ (w :: v :: r)).cps.toList = w.cps.toList ++ c :: (Str.join ⟨#[c]⟩ (v :: r)).cps.toList := by
      show ((w.cps ++ #[c]) ++ (Str.join ⟨#[c]⟩ (v :: r)).cps).toList = _
      simp
    rw [e, splitL_app c (h w List.mem_cons_self), split_join c (List.cons_ne_nil _ _) fun u hu => h u (List.mem_cons_of_mem _ hu)]
    rfl
theorem split_eq (x : Str) (c : Nat) : (splitL c x.cps.toList).map (fun w => (⟨w.toArray⟩ : Str)) = Txt.split x ⟨#[c]⟩ := by
  have h1 := PySem.StrLaws.join_split x ⟨#[c]⟩
  have h2 := split_join c (ws := Txt.split x ⟨#[c]⟩) (fun e => by have := PyProof.Rows.split_pos x ⟨#[c]⟩; rw [e] at this; simp at this) (PySem.StrLaws.split_free x c)
  rw [h1] at h2
  rw [h2, List.map_map]
  conv => rhs; rw [← List.map_id (Txt.split x ⟨#[c]⟩)]
  refine List.map_congr_left fun w _ => ?_
  cases w
  simp
theorem s_split {o e : Expr} {a c : C} {apos pos : Pos} (ho : PE X o (tR B a)) (he : PE X e (tR B c)) (hs : starEach [e] X.env = [(false, eval e X.env)]) (hbase : attributeBase o "split" X.env (eval o X.env) = eval o X.env) (hline : (apos.endLine == pos.line) = true) :
    PE X (.Call (.Attribute o "split" apos) [e] [] pos) (tR B (.mt .split a (.cons c .nil))) := by
  refine (pe_split ho he hs hbase hline).tim fun σ H Q h => tG.mono (s_mt0 h) fun v H1 ⟨hv, _, h2⟩ => ⟨hv (.inr rfl), tG.mono h2 fun w H2 ⟨Z, S1, S2, t, u, z, r1, r2, em, k⟩ => ?_⟩
  have alt : ∃ s sep ws, t = .str s ∧ u = .str sep ∧ splitS sep s = some ws ∧ s.length ≤ lim ∧ capL (ws.map .str) = some z := by
    cases t with
    | str s =>
      cases u with
      | str sep =>
        have em' : (match splitS sep s with
          | some ws => if s.length ≤ lim then capL (ws.map .str) else none
          | none => none) = some z := em
        cases ew : splitS sep s with
        | none => rw [ew] at em'; cases em'
        | some ws =>
          rw [ew] at em'
          dsimp only at em'
          split at em'
          · exact ⟨s, sep, ws, rfl, rfl, ew, by assumption, em'⟩
          · cases em'
      | _ => cases em
    | _ => cases em
  obtain ⟨s, sep, ws, rfl, rfl, ew, hl, ec⟩ := alt
  obtain ⟨_, _, rfl⟩ := capL_some ec
  unfold splitS at ew
  split at ew
  · rename_i ch hch
    cases ew
    have esep : sep = ⟨#[ch]⟩ := by
      cases sep with
      | mk a => simp only [Str.mk.injEq]; exact Array.toList_inj.mp (by simpa using hch)
    subst esep
    have hlim : lim + 2 ≤ sizeLine := by decide
    refine ⟨s, ⟨#[ch]⟩, r1, by rw [show w = _ from r2], rfl, by omega, fun p hp => ?_⟩
    rw [split_eq] at k
    have strsR : ∀ ss : List Str, RepL B.G Z H2 (ss.map T.str) (ss.map V.str) none_ := by
      intro ss
      induction ss with
      | nil => rfl
      | cons x r ih => exact ⟨.str x, _, none_, none_, rfl, rfl, ih, fun _ z => z.elim, fun _ z => z, fun _ z => z⟩
    exact k _ _ _ (Res.newL hp (strsR _))
  · cases ew
end
end TI
end
section
set_option maxHeartbeats 400000
/-! TW4: xs[::st]. -/
namespace L2
open PySem PySem.Spec PyProof.Rows
section
variable {X : Cx}
def tSls (K : PySem.W.Frag) (te ts : TE) : TE := fun σ H Q => te σ H fun x H1 => tPart ts σ H1 fun o H2 => ∃ (a : Addr) (xs : List V) (k : Int), o = some k ∧ x = .ref a ∧ SqL K H2 a xs ∧ (k = 1 ∨ k = -1) ∧ ∀ p, H2 p = none → Q (.ref p) (upd H2 p (.lst (if k = 1 then xs else xs.reverse)))
theorem pick_k (items : Array Value) {k : Int} (hk : k = 1 ∨ k = -1) : slicePick items none none (some k) = (if k = 1 then items.toList else items.toList.reverse).toArray := by
  rcases hk with rfl | rfl
  · have h := slicePick_all items
    rw [show slicePick items none none (some 1) = slicePick items none none none from rfl, h]
    simp
  · rw [PySem.W.krv_pick]
    simp
theorem pe_sls {e st : Expr} {te ts : TE} {p3 pos : Pos} (he : PE X e te) (hst : PE X st ts) : PE X (.Subscript e (.Slice none none (some st) p3) pos) (tSls X.K te ts) := by
  refine ⟨fun pins s σ H Q I h => ?_⟩
  refine Subscript_ (thn (he.run pins s σ H _ I h) fun v s1 ⟨x, H1, I1, r1, q1⟩ => ?_)
  refine wpAny_Slice (thn (po_none.run pins s1 σ H1 (fun o H2 => o = none ∧ H2 = H1) I1 ⟨rfl, rfl⟩) fun vl s2 ⟨l, H2, I2, pl, el, e2⟩ => ?_)
  subst el e2
  refine thn (po_none.run pins s2 σ H2 (fun o H3 => o = none ∧ H3 = H2) I2 ⟨rfl, rfl⟩) fun vu s3 ⟨u, H3, I3, pu, eu, e3⟩ => ?_
  subst eu e3
  refine thn ((po_some hst).run pins s3 σ H3 _ I3 q1) fun vs s4 ⟨o, H4, I4, ps, a, xs, k, eo, ex, hx, hk, q⟩ => ?_
  subst eo ex
  cases r1
  have I5 : Inv X pins σ H4 { s4 with heap := s4.heap.push { cls := .type "slice", data := .fields #[vl, vu, vs] } } := I4.kept (t' := s4.toks) fun b ob q => Heap.get?_push_of_some _ q
  obtain ⟨its, r, ht, hz⟩ := I5.list hx
  have hlen := r.length
  show wpAny (model X.prog X.w) X.A (subscriptTail e (.Slice none none (some st) p3) (.ref a) (.ref s4.heap.objs.size)) (EP X pins σ Q) X.xe { s4 with heap := s4.heap.push { cls := .type "slice", data := .fields #[vl, vu, vs] } }
  refine tail_any (ops := [.ref a, .ref s4.heap.objs.size]) ht.isList.typeIs (PySem.slot_list_getitem.lookup) ?_ (by with_unfolding_all rfl)
  refine wpAny_getItem_list_slice ht.isList (Heap.IsSliceOf.new _ vl vu vs) pl pu ps (by rcases hk with rfl | rfl <;> decide) ?_ (by rw [List.size_toArray]; omega)
  rw [pick_k _ hk]
  refine ⟨.ref _, _, I5.laid (t' := s4.toks) (o := .lst (if k = 1 then xs else xs.reverse)) (fun b ob q => Heap.get?_push_of_some _ q) (Nat.le_refl _) ?_, rfl, q _ (I5.hok.fresh (Nat.le_refl _))⟩
  rcases hk with rfl | rfl
  · exact ⟨hz, _, 0, r, Heap.get?_push_size _ rfl⟩
  · exact ⟨by rw [if_neg (by decide), List.length_reverse]; exact hz, _, 0, r.reverse, Heap.get?_push_size _ rfl⟩
end
end L2
namespace TI
open PySem L2
section
variable {B : Bs} {X : Cx} {sc : List (Str × NameKind)} {n : Nat} {lc pn : List Nat} {Y : Sa} {env env1 env2 e1 e2 : Env} {σ σ1 σ2 : St} {H H1 H2 H' : Hp} {F F1 F2 Z Z1 Z2 Z' S S1 S2 : Sa} {α β γ δ : Type} {G : Gd}
theorem RepL.app1 : ∀ {xs : List T} {vs : List V}, RepL G Z H xs vs none_ → RepL G Z H xs.reverse vs.reverse none_
  | [], _, h => by have e := (show _ = [] from h); subst e; exact rfl
  | x :: xs, _, ⟨v, r, S1, S2, e, h1, h2, d, s1, s2⟩ => by
    subst e
    rw [List.reverse_cons, List.reverse_cons]
    exact RepL.snoc (RepL.app1 (RepL.mono xs h2 s2)) (h1.mono x s1)
theorem s_sls {e st : Expr} {a c : C} {p3 pos : Pos} (he : PE X e (tR B a)) (hst : PE X st (tR B c)) : PE X (.Subscript e (.Slice none none (some st) p3) pos) (tR B (.sls a c)) := by
  refine (pe_sls he hst).tim fun σ H Q ⟨lc, pn, Y, env, F, Z, r, h⟩ => ⟨lc, pn, Y, env, F, Z, r, ?_⟩
  have h1 : OQ B lc Y env σ F Z H (VR1 B.G σ) ((evR (B.k lc pn) a env).bind fun x e => ((B.k lc pn).withP e x fun K => evR K c e).bind fun y e => match lookR e x, y with
    | some t, .tmp (.int s) => (lift (slsT s t) e).bind fun z e => .ok (.tmp z) e
    | _, _ => .stuck) Q := h
  refine OQ.bind h1 fun rv e1 v H1 F1 Z1 S1 _ a1 q1 h2 => ?_
  refine second (VR' := VR1 B.G) (ev := fun K e => evR K c e) a1 q1 h2 fun rw' e2 w H2 F2 Z2 S2 b q1' q2 h3 => ?_
  obtain ⟨ab, d⟩ := a1.step b
  cases el : lookR e2 rv with
  | none => rw [el] at h3; exact h3.elim
  | some t =>
    rw [el] at h3
    cases rw' with
    | plc _ _ => exact h3.elim
    | tmp u =>
      cases u with
      | int k =>
        dsimp only at h3
        have qw : w = .int k := q2
        refine ⟨k, qw, ?_⟩
        cases es : slsT k t with
        | none => rw [es] at h3; exact h3.elim
        | some z =>
          rw [es] at h3
          obtain ⟨T1, r1, _⟩ := look_rep ab.r q1' el
          obtain ⟨f, xs, rfl, hf, hz⟩ : ∃ f xs, t = .nd .lst f xs ∧ T.freeL xs = true ∧ ((k = 1 ∧ capL xs = some z) ∨ (k = -1 ∧ capL xs.reverse = some z)) := by
            cases t with
            | nd kd f xs =>
              cases kd with
              | lst =>
                have e' : (if T.freeL xs = false then none else if k = 1 then capL xs else if k = -1 then capL xs.reverse else none) = some z := es
                split at e'
                · cases e'
                · rename_i hf
                  have hf' : T.freeL xs = true := by cases q : T.freeL xs <;> simp_all
                  split at e'
                  · exact ⟨f, xs, rfl, hf', .inl ⟨by assumption, e'⟩⟩
                  · split at e'
                    · exact ⟨f, xs, rfl, hf', .inr ⟨by assumption, e'⟩⟩
                    · cases e'
              | _ => cases es
            | _ => cases es
          obtain ⟨p, vs, S0, rfl, hn, l⟩ := r1.lstL (K := X.K)
          have l := l.bare xs hf
          have fin : ∀ (v' : V) (H' : Hp) (S' : Sa), Res B.G Z2 H2 z v' H' S' → Q v' H' := fun v' H' S' rs => h3 v' H' F2 Z2 S' (ab.res rs) rs.rep
          rcases hz with ⟨rfl, hz⟩ | ⟨rfl, hz⟩
          · obtain ⟨_, _, rfl⟩ := capL_some hz
            exact ⟨p, vs, 1, rfl, rfl, hn, .inl rfl, fun q hq => fin _ _ _ (Res.newL hq l)⟩
          · obtain ⟨_, _, rfl⟩ := capL_some hz
            exact ⟨p, vs, -1, rfl, rfl, hn, .inr rfl, fun q hq => fin _ _ _ (Res.newL hq (RepL.app1 l))⟩
      | _ => exact h3.elim
end
end TI
end
section
set_option maxHeartbeats 400000
/-! TW5: xs[i] = v. -/
namespace TI
open PySem L2
section
variable {B : Bs} {X : Cx} {sc : List (Str × NameKind)} {n : Nat} {lc pn : List Nat} {Y : Sa} {env env1 env2 e1 e2 : Env} {σ σ1 σ2 : St} {H H1 H2 H' : Hp} {F F1 F2 Z Z1 Z2 Z' S S1 S2 : Sa} {α β γ δ : Type} {G : Gd}
theorem OQ.from {VR : α → β → Sa → Sa → Hp → Prop} {o : Out α} {Q : β → Hp → Prop} (h : OQ B lc Y env σ F Z H VR o Q) (p : Post F Z H F1 Z1 H1) : OQ B lc Y env σ F1 Z1 H1 VR o Q := by
  cases o with
  | ok a e => exact fun b H' F' Z' S a q => h b H' F' Z' S ⟨a.r, a.sm, a.sd, p.trans a.p, a.lk⟩ q
  | err c xs e => exact fun cls d H' F' Z' a q => h cls d H' F' Z' ⟨a.r, a.sm, a.sd, (p.trans (F2 := fun x => F' x ∨ none_ x) a.p), a.lk⟩ q
  | stuck => exact h
theorem AQ.toO {o : Out Unit} {Q : St → Hp → Prop} (h : AQ B lc pn Y env σ F Z H o Q) : OQ B lc Y env σ F Z H (fun _ (_ : Unit) _ _ _ => True) o (fun _ H' => Q σ H') := by
  cases o with
  | ok a e => exact fun b H' F' Z' S a _ => h σ H' F' Z' ⟨a.less fun _ z => z.elim, fun _ _ => rfl⟩
  | err c xs e => exact fun cls d H' F' Z' a q => h cls d σ H' F' Z' ⟨a, fun _ _ => rfl⟩ q
  | stuck => exact h
theorem RepL.setAt : ∀ {xs : List T} {vs : List V} {S : Sa} {j : Nat} {t : T} {w : V}, RepL G Z H xs vs S → Rep G Z H t w none_ → RepL G Z H (xs.set j t) (vs.set j w) S
  | [], _, S, j, t, w, h, q => by
    have e := (show _ = [] from h)
    subst e
    exact rfl
  | x :: xs, _, S, 0, t, w, ⟨v, r, S1, S2, e, h1, h2, d, s1, s2⟩, q => by
    subst e
    exact ⟨w, r, none_, S2, rfl, q, h2, fun _ z => z.elim, fun _ z => z.elim, s2⟩
  | x :: xs, _, S, j + 1, t, w, ⟨v, r, S1, S2, e, h1, h2, d, s1, s2⟩, q => by
    subst e
    exact ⟨v, r.set j w, S1, S2, rfl, h1, RepL.setAt h2 q, d, s1, s2⟩
theorem a_ts {a i : C} {v : V} {Q : St → Hp → Prop} (h : tA B (.ts a i) v σ H Q) : gSub (tR B a) (tR B i) rSetL v σ H Q := by
  obtain ⟨lc, pn, Y, env, F, Z, S, t, hd, q, h⟩ := h
  have h1 : AQ B lc pn Y env σ (fun a => F a ∨ S a) Z H (if t.whole = true then (evR (B.k lc pn) a env).bind fun x e => ((B.k lc pn).withP e x fun K => evR K i e).bind fun y e => (match y with
    | .tmp u => (upd (B.k lc pn) x (fun s => (putT u t.frz s).map fun t' => (.non, t')) e).bind fun _ e => .ok () e
    | _ => .stuck) else .stuck) Q := h
  by_cases hw : t.whole = true
  · rw [if_pos hw] at h1
    have hne : ∀ x, S x → H x ≠ none := fun x z => by obtain ⟨o, e, _⟩ := hd.sm x z; rw [e]; exact fun q => nomatch q
    have q9 : Rep B.G (fun a => Z a ∨ S a) H t.frz v none_ := q.frz t hw (fun _ z => .inl z) fun _ z => .inr z
    have p9 : Post (fun a => F a ∨ S a) Z H F (fun a => Z a ∨ S a) H := ⟨fun _ _ e _ => e, fun _ e => e, fun _ z => .inl (.inl z), fun _ z => .inl z, fun x z => z.elim .inl fun z => .inr (.inl (.inr z))⟩
    have r9 : R B.G lc Y env σ H F (fun a => Z a ∨ S a) := by
      refine hd.r.frame (Fc := S) (Fc' := none_) ⟨fun _ _ e _ => e, fun _ e => e, fun _ z => z.elim, fun _ z => .inl z, fun y z => z.elim .inl fun z => .inr (.inl z)⟩ hd.sm (fun y z w => (hd.sd y w).1 z) (fun y z w => (hd.sd y w).2.2 z) (fun y z w => (hd.sd y w).2.1 z) fun y z => ?_
      rcases z with z | z
      · exact (hd.r.zf y z).2
      · exact hne y z
    have h2 := (AQ.toO h1).from p9
    refine ⟨lc, pn, Y, env, F, _, r9, OQ.bind h2 fun rv e1 o H1 F1 Z1 S1 _ a1 q1 h3 => ?_⟩
    refine second (VR' := VR1 B.G) (ev := fun K e => evR K i e) a1 q1 h3 fun rw' e2 w H2 F2 Z2 S2 b q1' q2 h4 => ?_
    obtain ⟨ab, d⟩ := a1.step b
    cases rw' with
    | plc _ _ => exact h4.elim
    | tmp u =>
      dsimp only at h4
      cases eu : upd (B.k lc pn) rv (fun s => (putT u t.frz s).map fun t' => (T.non, t')) e2 with
      | stuck => rw [eu] at h4; exact h4.elim
      | err c xs e =>
        exfalso
        unfold upd at eu
        repeat' (split at eu)
        all_goals cases eu
      | ok w0 e3 =>
        rw [eu] at h4
        obtain ⟨x, x', Sx, ef, rx, d1, d2, fm, k⟩ := upd_ok (S2 := none_) ab q1' (fun _ z => .inl z) (fun _ z => z.elim) (fun _ _ z => z) eu
        obtain ⟨xs, n, j, rfl, rfl, ej, rfl, rfl⟩ : ∃ xs n j, x = .nd .lst true xs ∧ u = .int n ∧ ixNat xs.length n = some j ∧ w0 = .non ∧ x' = .lst true (xs.set j t.frz) := by
          cases ep : putT u t.frz x with
          | none => rw [ep] at ef; cases ef
          | some y =>
            rw [ep] at ef
            cases ef
            unfold putT at ep
            split at ep
            · split at ep
              · split at ep
                · cases ep; exact ⟨_, _, _, rfl, rfl, by assumption, rfl, rfl⟩
                · cases ep
              · cases ep
            · cases ep
        obtain ⟨p, vs, S0, rfl, hn, l, hp, hp0, h0⟩ := own_lst rfl rx
        have qi : w = .int n := q2
        refine ⟨p, vs, n, j, rfl, qi, hn, by rw [RepL.len xs l]; exact ej, ?_⟩
        have hm : ∃ o, H2 p = some o ∧ MutO o := ⟨_, hn, trivial⟩
        have q92 : Rep B.G Z2 H2 t.frz v none_ := q9.stab _ ab.p.keep r9.fm (fun _ z => z.elim) (fun x z => (r9.zf x z).1) ab.p.zin
        obtain ⟨F3, a3⟩ := k (Chg.lst (Z' := Z2) (vs := vs.set j v) (xs := xs.set j t.frz) (S0 := S0) hp h0 hp0 d2 (fun _ _ z => z) (fun _ _ z => z) (fun y z => z.elim (fm y) False.elim) (fun _ z => z) (fun _ z => .inl z) (RepL.setAt (kept_items l hm hp0 (d2 p hp) fun _ z => z) (kept_item q92 hm (fun z => z) (d2 p hp) fun _ z => z)))
        exact h4 () _ F3 Z2 none_ a3 trivial
  · rw [if_neg hw] at h1; exact h1.elim
theorem g_ts {o i : Expr} {a c : C} {pos : Pos} (ho : PE X o (tR B a)) (hi : PE X i (tR B c)) (ha : ∀ v, assign (.Subscript o i pos) X.env v = (do
      let ov ← holding [v] (eval o X.env)
      let iv ← holding [v, ov] (eval i X.env)
      standAt pos
      holding [v, ov, iv] (setItem ov iv v)
      release [v, ov, iv] [])) : PG X (.Subscript o i pos) (tA B (.ts a c)) :=
  (pg_sub ho hi set_list ha).tim fun v σ H Q h => a_ts h
/-- o[i] = value -/
theorem s_asgS {tg e : Expr} {a i c : C} {pos : Pos} (he : PE X e (tR B c)) (hg : PG X tg (tA B (.ts a i))) (hs : swapsWithSole [tg] e pos.line X.env = pure false) (hw : swappedStores [tg] e X.env = pure none) (h1 : (assignEach [tg] X.env).map (·.2) = [assign tg X.env]) : PS X (.Assign [tg] e pos) (tS B (.asg (.ts a i) c)) :=
  (ps_asg he hg hs hw h1).tim fun D σ H h => asg_ok rfl h
end
end TI
end
section
set_option maxHeartbeats 400000
/-! TW6: isinstance with several classes. -/
namespace TI
open PySem L2
section
variable {B : Bs} {X : Cx} {sc : List (Str × NameKind)} {n : Nat} {lc pn : List Nat} {Y : Sa} {env env1 env2 e1 e2 : Env} {σ σ1 σ2 : St} {H H1 H2 H' : Hp} {F F1 F2 Z Z1 Z2 Z' S S1 S2 : Sa} {α β γ δ : Type} {G : Gd}
/-- names of built-in classes -/
inductive TyNs (X : Cx) : List Expr → List Ty → Prop where
  | nil : TyNs X [] []
  | cons {x : Str} {p : Pos} {b : Ty} {es : List Expr} {bs : List Ty} (hg : Gl X x) (hm : X.mg x = none) (hv : bootBuiltins x = some (.type b.name)) (hn : x ≠ "__name__") (hdb : (x == ("__debug__" : Str)) = false) (r : TyNs X es bs) : TyNs X (.Name x p :: es) (b :: bs)
theorem tyNs_pa {es : List Expr} {bs : List Ty} (h : TyNs X es bs) : PA X es (fun σ H Q => Q (bs.map fun (b : Ty) => V.ty b.name) H) := by
  induction h with
  | nil => exact pa_nil.tim fun σ H Q h => h
  | @cons x p b es bs hg hm hv hn hdb r ih =>
    have ht : PE X (.Name x p) (fun σ H Q => Q (.ty b.name) H) := pe_bltn hg hm hv rfl hn hdb
    exact (pa_cons ht ih rfl).tim fun σ H Q h => h
theorem kitAny_ty (K : PySem.W.Frag) (a : Ty) : ∀ bs : List Ty, PySem.W.kitAny K (.type a.name) (bs.map fun (b : Ty) => Value.type b.name) = some (bs.any (subY a))
  | [] => rfl
  | b :: bs => by
    show (match PySem.W.kitOne K (.type a.name) (.type b.name) with
      | some true => some true
      | some false => PySem.W.kitAny K (.type a.name) (bs.map fun (b : Ty) => Value.type b.name)
      | none => none) = _
    rw [kit_ty, kitAny_ty K a bs]
    cases q : subY a b <;> simp [q]
theorem anyO_ty {a : Ty} {t : T} (et : tyT t = some a) : ∀ {cs : List Cl} {bs : List Ty}, cs.map clY = bs.map some → anyO (cs.map fun c => clT c t) = some (bs.any (subY a))
  | [], [], _ => rfl
  | [], _ :: _, h => by simp at h
  | _ :: _, [], h => by simp at h
  | c :: cs, b :: bs, h => by
    simp only [List.map_cons, List.cons.injEq] at h
    have : clT c t = some (subY a b) := by unfold clT; rw [et, h.1]
    show anyO (clT c t :: cs.map fun c => clT c t) = _
    rw [this]
    have ih := anyO_ty et h.2
    cases q : subY a b with
    | true => simp [anyO, q]
    | false => simp only [anyO, List.any_cons, q, Bool.false_or]; exact ih
theorem paired_ty : ∀ bs : List Ty, Paired ClsV (bs.map fun (b : Ty) => V.ty b.name) (bs.map fun (b : Ty) => Value.type b.name)
  | [] => .nil
  | b :: bs => .cons (.ty _) (paired_ty bs)
theorem s_isiT {e : Expr} {es : List Expr} {c : C} {cs : List Cl} {bs : List Ty} {p pt pos : Pos} {k : Nat} (hG : B.G.K = X.K) (hcs : cs ≠ []) (hb : cs.map clY = bs.map some) (hg : Gl X "isinstance") (hm : X.mg "isinstance" = none) (hns : TyNs X es bs) (hlen : bs.length ≤ 100)
    (ha : PE X e (tR B c)) (he : starEach [e, .Tuple es k pt] X.env = (false, eval e X.env) :: starEach [.Tuple es k pt] X.env) : PE X (.Call (.Name "isinstance" p) [e, .Tuple es k pt] [] pos) (tR B (.isi c cs)) := by
  have ht : PE X (.Tuple es k pt) _ := pe_tup (tyNs_pa hns)
  have hpt : PA X [.Tuple es k pt] (fun σ H Q => (bs.map fun (b : Ty) => V.ty b.name).length ≤ sizeLine ∧ ∀ q, H q = none → Q [.ref q] (L2.upd H q (.tup (bs.map fun (b : Ty) => V.ty b.name)))) := (pa_cons ht pa_nil rfl).tim fun σ H Q h => h
  have hpa : PA X [e, .Tuple es k pt] (fun σ H Q => tR B c σ H fun v H1 => (bs.map fun (b : Ty) => V.ty b.name).length ≤ sizeLine ∧ ∀ q, H1 q = none → Q [v, .ref q] (L2.upd H1 q (.tup (bs.map fun (b : Ty) => V.ty b.name)))) := (pa_cons ha hpt he).tim fun σ H Q h => h
  refine (pe_callB call_isiT hg hm (by rfl) hpa (by decide) (by decide) he rfl).tim fun σ H Q ⟨lc, pn, Y, env, F, Z, r, h⟩ => ⟨lc, pn, Y, env, F, Z, r, ?_⟩
  have h1 : OQ B lc Y env σ F Z H (VR1 B.G σ) ((evR (B.k lc pn) c env).bind fun x e => match lookR e x with
    | some t => (lift (anyO (cs.map fun c => clT c t)) e).bind fun z e => .ok (.tmp (.bl z)) e
    | none => .stuck) Q := h
  refine OQ.bind h1 fun rv e1 v H1 F1 Z1 S1 _ a1 q1 h2 => ?_
  cases el : lookR e1 rv with
  | none => rw [el] at h2; exact h2.elim
  | some t =>
    rw [el] at h2
    dsimp only at h2
    cases et : tyT t with
    | none =>
      exfalso
      cases cs with
      | nil => exact hcs rfl
      | cons c0 cs =>
        have : clT c0 t = none := by unfold clT; rw [et]
        rw [List.map_cons, this] at h2
        exact h2
    | some a =>
      rw [anyO_ty et hb] at h2
      refine ⟨by rw [List.length_map]; exact Nat.le_trans hlen (by decide), fun q hq => ?_⟩
      have rs : Res B.G Z1 H1 .non .non (L2.upd H1 q (.tup (bs.map fun (b : Ty) => V.ty b.name))) none_ := ⟨keep_new hq, fun _ z => z.elim, fun _ z => z.elim, rfl⟩
      have a2 := a1.res rs
      obtain ⟨T1, r1, _⟩ := look_rep a1.r q1 el
      have r2 : Rep B.G Z1 (L2.upd H1 q (.tup (bs.map fun (b : Ty) => V.ty b.name))) t v T1 := r1.grow (keep_new hq)
      exact ⟨v, q, bs.map fun (b : Ty) => V.ty b.name, .type a.name, bs.map fun (b : Ty) => Value.type b.name, bs.any (subY a), rfl, upd_same, paired_ty bs, tyT_rep hG r2 et, kitAny_ty X.K a bs, h2 (.bl _) _ F1 Z1 none_ a2 rfl⟩
end
end TI
end
section
set_option maxHeartbeats 400000
/-! TW7: len(set(xs)), xs texts. -/
namespace TI
open PySem PySem.Spec PyProof.Rows
abbrev dd (xs : List Str) : List Str := xs.eraseDups
theorem dd_snoc (xs : List Str) (x : Str) : dd (xs ++ [x]) = dd xs ++ if x ∈ xs then [] else [x] := by
  unfold dd
  rw [List.eraseDups_append]
  congr 1
  by_cases h : x ∈ xs
  · rw [if_pos h]
    have : [x].removeAll xs = [] := by
      unfold List.removeAll
      simp [h]
    rw [this]; rfl
  · rw [if_neg h]
    have : [x].removeAll xs = [x] := by
      unfold List.removeAll
      simp [h]
    rw [this]; rfl
theorem dd_le (xs : List Str) : (dd xs).length ≤ xs.length := by
  unfold dd
  have : ∀ (n : Nat) (xs : List Str), xs.length ≤ n → xs.eraseDups.length ≤ xs.length := by
    intro n
    induction n with
    | zero => intro xs h; cases xs with
      | nil => exact Nat.le_refl _
      | cons _ _ => simp at h
    | succ n ih =>
      intro xs h
      cases xs with
      | nil => exact Nat.le_refl _
      | cons x xs =>
        rw [List.eraseDups_cons]
        have h1 : (xs.filter fun b => !b == x).length ≤ xs.length := List.length_filter_le ..
        have h2 := ih (xs.filter fun b => !b == x) (by simp at h; omega)
        simp only [List.length_cons]
        omega
  exact this _ xs (Nat.le_refl _)
section
variable {prog : Program} {w : World} {A : Around} {R : Result → Shared → Prop} {I : Addr} {fp wr : List Addr} {G : Array GenState → Array GenState → Prop} {n : Nat} {P : Nat → Value → Prop} {St : Nat → Shared → Prop}
theorem loopDd (W : WalksS prog w A.in1 I fp wr G n P St) (S : Addr) (hSf : S ∉ fp) (xs : List Str) (hsz : xs.length = n) (hn1 : n + 1 < scanBound)
    (hval : ∀ i v, P i v → ∃ t, v = .str (xs.getD i Str.empty) t) :
    ∀ (k i : Nat) (s : Shared), n - i = k → i ≤ n → St i s →
      s.heap.SetOf (PySem.strKind prog w) S (fun k' => (xs.take i).any (· == k')) (dd (xs.take i)).length →
      (∀ s', Moved (S :: wr) G s s' → s'.heap.SetOf (PySem.strKind prog w) S (fun k' => (xs.take n).any (· == k')) (dd (xs.take n)).length → R (.ok (.ret .none)) s') →
      codeAny (model prog w) A (.builtin "set.update.loop" ⟨[.ref S, .ref I], []⟩) R s := by
  have hSw : S ∉ wr := fun h => hSf (W.sub _ h)
  have hsub : ∀ b ∈ wr, b ∈ S :: wr := fun b hb => List.mem_cons_of_mem _ hb
  intro k
  induction k with
  | zero =>
    intro i s hk hi hst hS hR
    have hin : i = n := by omega
    subst hin
    refine codeAny_builtin PyProof.Rows.F.entry_set_update_loop ?_
    rw [Around.under_plainId PyProof.Rows.F.plain_set_update_loop _]
    show wpAny _ A.in1 (pyNext (.ref I) >>= _) _ _ s
    refine wpAny_bind (W.done s _ _ hst fun s' hm => ?_)
    show wpAny _ A.in1 (ret Value.none) _ _ s'
    exact wpAny_pure (hR s' (hm.mono hsub) (by
      obtain ⟨o, es, ep, t, ho, rest⟩ := hS
      exact ⟨o, es, ep, t, hm.heap S _ hSw ho, rest⟩))
  | succ k ih =>
    intro i s hk hi hst hS hR
    have hlt : i < n := by omega
    refine codeAny_builtin PyProof.Rows.F.entry_set_update_loop ?_
    rw [Around.under_plainId PyProof.Rows.F.plain_set_update_loop _]
    show wpAny _ A.in1 (pyNext (.ref I) >>= _) _ _ s
    refine wpAny_bind (W.item i s _ _ hlt hst fun v s' hP hst' hm => ?_)
    obtain ⟨t, rfl⟩ := hval i v hP
    have hS' : s'.heap.SetOf (PySem.strKind prog w) S (fun k' => (xs.take i).any (· == k')) (dd (xs.take i)).length := by
      obtain ⟨o, es, ep, tb, ho, rest⟩ := hS
      exact ⟨o, es, ep, tb, hm.heap S _ hSw ho, rest⟩
    show wpAny _ A.in1 (holding [Value.str (xs.getD i Str.empty) t] (setAdd S (.str (xs.getD i Str.empty) t)) >>= _) _ _ s'
    refine wpAny_bind (wpAny_holding ?_)
    unfold setAdd
    refine wpAny_holding ?_
    refine wpAny_bind ((PySem.strKind prog w).pyHash (k := xs.getD i Str.empty) (strKind_is _ _ _ _) ?_)
    have hroom : (dd (xs.take i)).length + 1 < scanBound := by
      have := dd_le (xs.take i)
      rw [List.length_take] at this
      omega
    refine wpAny_setAddHashed_of (knd := PySem.strKind prog w) (s := { s' with toks := s'.toks + 1 }) (strKind_is _ _ _ _) rfl hS' hroom fun h' hsb hS2 => ?_
    have hi' : i < xs.length := by omega
    have eg : xs.getD i Str.empty = xs[i] := by simp [List.getD, hi']
    have et : xs.take (i + 1) = xs.take i ++ [xs.getD i Str.empty] := by rw [eg, List.take_succ_eq_append_getElem hi']
    have ea : ∀ (l : List Str) (z : Str), l.any (· == z) = true ↔ z ∈ l := fun l z => by
      simp
    have hSi : h'.SetOf (PySem.strKind prog w) S (fun k' => (xs.take (i + 1)).any (· == k')) (dd (xs.take (i + 1))).length := by
      refine SetOf_congr hS2 (fun k' => ?_) ?_
      · rw [et, List.any_append, Bool.eq_iff_iff, Bool.or_eq_true, Bool.or_eq_true, ea, decide_eq_true_eq, ea]
        simp
      · rw [et, dd_snoc]
        by_cases q : xs.getD i Str.empty ∈ xs.take i
        · rw [if_pos ((ea _ _).mpr q), if_pos q]; simp
        · rw [if_neg (fun z => q ((ea _ _).mp z)), if_neg q]; simp
    refine wpAny_pure ⟨plainId_quiet PyProof.Rows.F.plain_set_update_loop _, ih (i + 1) _ (by omega) hlt (W.frame _ s' _ _ hst' (Nat.le_succ _) fun b hb o e => ?_) hSi fun s'' hm'' hS'' => ?_⟩
    · rw [hsb.2 b (fun h : b = S => hSf (by rw [← h]; exact hb))]; exact e
    · refine hR s'' (Moved.trans W.gtrans ((hm.mono hsub).then_heap (Nat.le_succ _) fun b o hb e => ?_) hm'') hS''
      rw [hsb.2 b (fun h : b = S => hb (by rw [h]; exact List.mem_cons_self))]; exact e
end
section
variable {prog : Program} {w : World} {A : Around} {E : Value → Shared → Prop} {s : Shared}
abbrev newSet (led : Bool) : Obj := { cls := .type "set", dict := none, data := .set #[] 0 (.fresh 0 0 led) }
/-- what stands behind set(xs) -/
def SetDone (prog : Program) (w : World) (s : Shared) (xs : List Str) (s₂ : Shared) : Prop := ∃ (h' : Heap) (tk : Nat), s₂ = { s with heap := h', toks := tk } ∧
  h'.SetOf (PySem.strKind prog w) s.heap.objs.size (fun k' => xs.any (· == k')) (dd xs).length ∧ ∀ b o, b < s.heap.objs.size → s.heap.get? b = some o → h'.get? b = some o
set_option maxHeartbeats 3200000 in
theorem call_set_dd {l : Addr} {items : Array Value} {xs : List Str} {Q : Value → Shared → Prop} (hh : A.handled = none) (hl : s.heap.IsList l items) (hi : StrsAre items.toList xs) (hn1 : xs.length + 1 < scanBound)
    (h : ∀ s₂, SetDone prog w s xs s₂ → Q (.ref s.heap.objs.size) s₂) : wpAny (model prog w) A (call (.type "set") [.ref l]) Q E s := by
  have hsz : xs.length = items.size := by rw [← StrsAre.len_eq hi, Array.length_toList]
  obtain ⟨c, tl, hmro⟩ := PySem.F.called_set.mro
  have made := PySem.F.called_set.made
  have sub1 := PySem.F.called_set.sub
  refine wpAny_call (codeAny_of_tree ?_)
  show wpAny _ _ (callAny (.type "set") _) _ _ _
  refine wpAny_pure ⟨Code.quiet_builtin _ (by decide +kernel), codeAny_builtin PySem.F.entry_type_call ?_⟩
  rw [Around.under_plain (weight_type_call_type "set" [.ref l] []) rfl]
  have z1 := PySem.F.called_set.notType
  have z2 := PySem.F.called_set.canCreate
  have z3 := PySem.F.typeCall_set_1 (.ref l)
  repeat (any_goals (first | assumption | wp_step))
  refine codeAny_mono (code_set_new_1 (.ref l) (E := E) (Q₁ := fun obj s₁ => ∃ led : Bool, obj = .ref s.heap.objs.size ∧ s₁ = { s with heap := s.heap.push (newSet led) }) fun led => ⟨led, rfl, rfl⟩) fun r s₁ hr => ?_
  cases r with
  | error e => exact hr
  | ok fl =>
    cases fl with
    | ret obj =>
      obtain ⟨led, rfl, rfl⟩ := hr
      have at0 : (s.heap.push (newSet led)).get? s.heap.objs.size = some (newSet led) := Heap.get?_push_size _ rfl
      have ty0 : Shared.TypeIs { s with heap := s.heap.push (newSet led) } (.ref s.heap.objs.size) "set" := ⟨_, at0, rfl⟩
      have y1 := PySem.F.called_set.init.lookup
      have y2 := PySem.F.called_set.init.bind (.ref s.heap.objs.size)
      repeat (any_goals (first | assumption | wp_step))
      refine codeAny_mono (codeAny_call_builtin (R := wants (fun r s₂ => r = .none ∧ SetDone prog w s xs s₂) E) PySem.F.called_set.init.plain PySem.F.entry_set_init (check_set_init_1 ty0 ?_)) fun r₂ s₂ hr₂ => ?_
      · obtain ⟨⟨ocls, odict, odata, oslots⟩, hol, hcl, nl, hdl⟩ := hl
        dsimp only at hcl hdl
        subst hcl hdl
        have lst1 : (s.heap.push (newSet led)).get? l = some { cls := .type "list", dict := odict, data := .seq items nl, slots := oslots } := Heap.get?_push_of_some _ hol
        have q1 := PySem.F.sub_list_set
        have q2 := PySem.F.sub_list_frozenset
        have q3 : (Value.type "list" == Value.type "dict") = false := by decide
        have isl : (s.heap.push (newSet led)).IsList l items := ⟨_, lst1, rfl, nl, rfl⟩
        unfold Builtin.«set.__init__» noKeywords Builtin.Frozenset.updateFrom
        generalize hPI : pyIter = PI
        wp_walk
        subst hPI
        refine wpAny_pyIter_list isl (wpAny_bind (wpAny_runValue ?_))
        have small : l < s.heap.objs.size := Heap.lt_size hol
        have h3 : A.in1.in1.in1.handled = none := by simp [hh]
        have hneI : l ≠ (s.heap.push (newSet led)).objs.size := by rw [Heap.size_push]; exact Nat.ne_of_lt (Nat.lt_succ_of_lt small)
        have out : s.heap.objs.size ∉ [(s.heap.push (newSet led)).objs.size, l] := by
          rw [Heap.size_push]
          simp only [List.mem_cons, List.not_mem_nil, or_false, not_or]
          exact ⟨Nat.ne_of_lt (Nat.lt_succ_self _), Nat.ne_of_gt small⟩
        have vals : ∀ (i : Nat) (v : Value), items[i]? = some v → ∃ t, v = .str (xs.getD i Str.empty) t := fun i v hv => SS.strs_at hi i v (by rw [Array.getElem?_toList]; exact hv)
        refine loopDd ((Walks.list h3 _ l hneI items).toS) s.heap.objs.size out xs hsz (by omega) vals (items.size - 0) 0 _ (by omega) (Nat.zero_le _) ⟨⟨_, Heap.get?_push_size _ rfl, rfl, rfl⟩, (isl.push _)⟩ ?begin ?fin
        case begin =>
          have e := Heap.get?_push_of_some (h := s.heap.push (newSet led)) { cls := .type "list_iterator", data := .fields #[.ref l, .int 0 0] } at0
          exact SetOf_congr ((setObjOf_fresh (knd := PySem.strKind prog w) led).setOf e (by unfold scanBound; omega)) (fun _ => rfl) rfl
        case fin =>
          rintro ⟨h', g', d', tk', os'⟩ hm hS'
          obtain rfl : g' = s.gens := hm.gens
          obtain rfl : d' = s.drawn := hm.drawn
          obtain rfl : os' = s.os := hm.os
          rw [← hsz, List.take_length] at hS'
          refine wpAny_pure (wpAny_pure ⟨rfl, h', tk', rfl, hS', fun b o hb e => ?_⟩)
          refine hm.heap b o ?_ (Heap.get?_push_of_some _ (Heap.get?_push_of_some _ e))
          simp only [List.mem_cons, List.not_mem_nil, or_false, not_or]
          rw [Heap.size_push]
          exact ⟨Nat.ne_of_lt hb, Nat.ne_of_lt (Nat.lt_succ_of_lt hb)⟩
      · cases r₂ with
        | error e => exact hr₂
        | ok fl₂ =>
          cases fl₂ with
          | ret r =>
            obtain ⟨rfl, hd⟩ := hr₂
            have hd' := hd
            obtain ⟨h', tk, rfl, _, _⟩ := hd
            repeat (any_goals (first | assumption | wp_step))
            exact h _ hd'
          | _ => exact hr₂.elim
    | _ => exact hr.elim
end
open L2
section
variable {B : Bs} {X : Cx}
theorem strsAre_of' : ∀ {ys : List Str} {us : List Value}, Vals (ys.map V.str) us → StrsAre us ys
  | [], _, .nil => .nil
  | y :: ys, _, .cons r t => by
    obtain ⟨k, rfl⟩ := r
    exact .cons y k (strsAre_of' t)
theorem s_setlen {a : Expr} {c : C} {p p2 q pos : Pos} (hc : X.calm = true) (hg : Gl X "len") (hm : X.mg "len" = none) (hg2 : Gl X "set") (hm2 : X.mg "set" = none) (ha : PA X [a] (tL B c))
    (na : starEach [a] X.env = (false, eval a X.env) :: starEach [] X.env) : PE X (.Call (.Name "len" p) [.Call (.Name "set" p2) [a] [] q] [] pos) (tR B (.bi .setlen c)) := by
  refine PE.tim (t := tCB (rTL B (biT .setlen)) (tL B c)) ⟨fun pins s σ H Q I h => ?_⟩ fun _ _ _ h => s_bi0 h
  refine Call_ (ld_blt I hg hm boot_len ?_)
  refine PyProof.Rows.callWith_builtin1 (PyProof.Rows.args_cons ?_ rfl) rfl rfl
  refine Call_ (ld_blt I hg2 hm2 boot_set ?_)
  refine PyProof.Rows.callWith_type1 (thn (ha.run q pins s σ H _ I h) fun us s1 ⟨vs, H1, I1, r1, q1⟩ => ?_) na rfl
  obtain ⟨Z, ts, z, ra, e, k⟩ := q1
  have goal : ∀ (al : Addr) (ss : List Str), vs = [.ref al] → H1 al = some (.lst (ss.map V.str)) → ss.length ≤ 1000 → z = .int (dd ss).length →
      wpAny (model X.prog X.w) X.A (call (.type "set") us) (fun v s₁ => wpAny (model X.prog X.w) X.A (spliced (backTo pos (starEach [] X.env))) (fun vs s₂ => wpAny (model X.prog X.w) X.A (call (.builtin "len") (v :: vs)) (EP X pins σ Q) X.xe s₂) X.xe s₁) X.xe s1 := by
    rintro al ss rfl hl hn rfl
    cases r1 with
    | cons r0 r1 =>
    cases r1
    cases r0
    obtain ⟨its, rr, pl, hz⟩ := I1.list (.inl (.inl hl))
    have hlen : ss.length + 1 < scanBound := by unfold scanBound; omega
    refine call_set_dd (I1.ok.hd hc) pl.isList (by simpa using strsAre_of' rr) hlen fun s₂ hd => ?_
    obtain ⟨h', tk, rfl, hS, hk⟩ := hd
    refine PyProof.Rows.args_nil ?_
    obtain ⟨o, es, ep, t, ho, hex, hd, _, _, _, hf, hn'⟩ := hS
    have I2 : Inv X pins σ H1 { s1 with heap := h', toks := tk } := I1.kept fun b o e => hk b o (Heap.lt_size e) e
    have hle := dd_le ss
    refine call_len_set ho hex hd hf (by rw [hn'] <;> omega) ⟨.int (dd ss).length, H1, I2.tok _, ⟨_, by rw [hn']⟩, k _ H1 none_ (Res.same rfl)⟩
  cases ts with
  | nil => cases e
  | cons t ts =>
    cases ts with
    | cons u ts => cases t <;> simp [biT] at e
    | nil =>
      obtain ⟨v, S, rfl, h⟩ := ra.one
      cases t with
      | nd kd f xs =>
        cases kd with
        | lst =>
          have e' : (match strsL xs with | some ss => if ss.length ≤ 1000 then some (T.int ss.eraseDups.length) else none | none => none) = some z := e
          cases es : strsL xs with
          | none => rw [es] at e'; cases e'
          | some ss =>
            rw [es] at e'
            dsimp only at e'
            split at e'
            · rename_i hl
              cases e'
              obtain ⟨al, vs, S0, rfl, hn, l1⟩ := h.lstD
              exact goal al ss rfl (by rw [hn, strs_rep es l1]) hl rfl
            · cases e'
        | _ => cases e
      | _ => cases e
end
end TI
end
section
set_option maxHeartbeats 400000
/-! TW8: list.index of texts. -/
namespace TI
open PySem L2
theorem ixStr_at {s : Str} : ∀ {ss : List Str} {j : Nat}, ixStr s ss = some j → ss[j]? = some s ∧ ∀ (m : Nat) (z : Str), m < j → ss[m]? = some z → z ≠ s
  | [], _, e => by cases e
  | y :: r, j, e => by
    unfold ixStr at e
    by_cases h : y = s
    · rw [if_pos h] at e; cases e
      exact ⟨by rw [h]; rfl, fun m _ hm _ => absurd hm (Nat.not_lt_zero m)⟩
    · rw [if_neg h] at e
      cases er : ixStr s r with
      | none => rw [er] at e; cases e
      | some i =>
        rw [er] at e; cases e
        obtain ⟨h1, h2⟩ := ixStr_at er
        refine ⟨by simpa using h1, fun m z hm hz => ?_⟩
        cases m with
        | zero => cases hz; exact h
        | succ m => exact h2 m z (Nat.lt_of_succ_lt_succ hm) (by simpa using hz)
section
variable {B : Bs} {X : Cx} {σ : St} {H : Hp} {Q : VK}
theorem s_index {o e : Expr} {a c : C} {apos pos : Pos} (ho : PE X o (tR B a)) (he : PE X e (tR B c)) (hs : starEach [e] X.env = [(false, eval e X.env)]) (hbase : attributeBase o "index" X.env (eval o X.env) = eval o X.env) (hline : (apos.endLine == pos.line) = true) :
    PE X (.Call (.Attribute o "index" apos) [e] [] pos) (tR B (.mt .index a (.cons c .nil))) := by
  have hpa : PA X [e] (fun σ H Q => tR B c σ H fun v H1 => Q [v] H1) := (pa_cons he pa_nil hs).tim fun σ H Q h => h
  refine (pe_bm (T := "list") (id := "list.index") F.plainAttrs_list F.slot_list_index rfl mt_index ho hpa hbase (by rw [hs]; rfl) hline hs (by rfl)).tim fun σ H Q h => tG.mono (s_mt0 h) fun v H1 ⟨_, hv, h2⟩ => ?_
  obtain ⟨p, vs, rfl, hl⟩ := hv rfl
  refine ⟨.inl ⟨rfl, vs, hl _⟩, tG.mono h2 fun w H2 ⟨Z, S1, S2, t, u, z, r1, r2, em, k⟩ => ?_⟩
  have alt : ∃ f xs ss s j, t = .nd .lst f xs ∧ u = .str s ∧ strsL xs = some ss ∧ ixStr s ss = some j ∧ z = .int (j : Nat) := by
    unfold mtT at em
    split at em <;> first | contradiction | skip
    all_goals (repeat' (split at em)) <;> first | (cases em; done) | skip
    rename_i f' xs' s' h2 h1 o ss' h0
    cases h1
    cases ei : ixStr s' ss' with
    | none => rw [ei] at em; cases em
    | some j =>
      rw [ei] at em
      have em' : some (T.int (j : Nat)) = some z := em
      cases em'
      exact ⟨_, _, _, _, j, rfl, rfl, h0, ei, rfl⟩
  obtain ⟨f, xs, ss, s, j, rfl, rfl, es, ej, rfl⟩ := alt
  obtain ⟨p', ys, S0, e', hn, l⟩ := r1.lstL (K := X.K)
  cases e'
  have ew : w = .str s := r2
  have ey := strs_rep es l
  subst ew ey
  obtain ⟨h1, h2⟩ := ixStr_at ej
  refine ⟨p, ss.map V.str, .str s, j, .str s, rfl, rfl, hn, rfl, ?_, by rw [List.getElem?_map, h1]; rfl, ?_, ?_, k _ H2 none_ (Res.same rfl)⟩
  · rw [List.all_eq_true]; intro x hx; obtain ⟨y, _, rfl⟩ := List.mem_map.mp hx; rfl
  · show (s == s) = true; exact beq_self_eq_true s
  · intro m z' hm hz
    rw [List.getElem?_map] at hz
    obtain ⟨y, ey, rfl⟩ := Option.map_eq_some_iff.mp hz
    show (y == s) = false
    exact beq_eq_false_iff_ne.mpr (h2 m y hm ey)
end
end TI
end
section
set_option maxHeartbeats 400000
/-! TX1: own errors: their __init__, raise. -/
namespace TI
open PySem L2
theorem mc_eq {x m : Str} {p1 p2 p5 : Pos} {as : List Expr} {env : PySem.Env} (hline : (p2.endLine == p5.line) = true) (hform : methodCallForm (as.length + ([] : List Keyword).length) (backTo p5 (starEach as env)) (backToKw p5 (keywordEach [] env)) = true) :
    eval (.Call (.Attribute (.Name x p1) m p2) as [] p5) env = (do
      let ov ← eval (.Name x p1) env
      standAt p2.atName
      let (f, first) ← holding [ov] (getMethod ov m (do return (← importBound (.Name x p1) env).getD true))
      callWith p5 f first (backTo p5 (starEach as env)) (backToKw p5 (keywordEach [] env))) := by
  have hpos : methodCallPos true (.Name x p1) env p2 p5 = pure p5 := by unfold methodCallPos; simp [hline]
  show (do
    let ov ← attributeBase (.Name x p1) m env (eval (.Name x p1) env)
    standAt p2.atName
    methodCall (.Name x p1) m p2 p5 env ov (as.length + ([] : List Keyword).length) (backTo p5 (starEach as env)) (backToKw p5 (keywordEach [] env))) = _
  unfold methodCall
  rw [hform, hpos]
  rfl
/-- what the written part says of a class whose __init__ is ValueError's -/
structure BaseC (K : PySem.W.Frag) (C : Addr) : Prop where
  sp : PySem.W.specialIn K (.ref C) "__getattribute__" = some (some (.builtin "type.__getattribute__"))
  rd : PySem.W.readsIn K C (.type "type") = true
  fi : PySem.W.findCls K (.ref C) (.type "type") "__init__" = some (.val (.builtin "ValueError.__init__"))
section
variable {X : Cx} {e : Expr} {es : List Expr} {ta : TA} {p1 p2 pos : Pos} {x : Str} {C : Addr}
/-- Base.__init__(self, ..), Base an own class -/
theorem pe_binit {pl : Sem Bool} (T : BaseC X.K C) (hg : Gl X x) (hm : X.mg x = some (.ref C)) (hdb : (x == ("__debug__" : Str)) = false) (ha : PA X (e :: es) ta)
    (hc : eval (.Call (.Attribute (.Name x p1) "__init__" p2) (e :: es) [] pos) X.env = (do
      let ov ← eval (.Name x p1) X.env
      standAt p2.atName
      let (f, first) ← holding [ov] (getMethod ov "__init__" pl)
      callWith pos f first (backTo pos (starEach (e :: es) X.env)) (backToKw pos (keywordEach [] X.env))))
    (he : starEach (e :: es) X.env = (false, eval e X.env) :: starEach es X.env) (hpl : (backTo pos (starEach es X.env)).any (·.1) = false) :
    PE X (.Call (.Attribute (.Name x p1) "__init__" p2) (e :: es) [] pos) (tVeI X.K ta) := by
  refine ⟨fun pins s σ H Q I h => PySem.W.methodCall_KW (ld_glob I hg hm ?_ hdb) hc⟩
  refine PySem.W.method_cls I.kIn T.sp (PySem.W.cls_value I.kIn T.rd T.fi (by decide +kernel) ?_)
  show wpAny _ _ (callWith pos (Value.builtin "ValueError.__init__") [] (backTo pos (starEach (e :: es) X.env)) []) _ _ _
  refine PyProof.Rows.callWith_method1 (thn (ha.run pos pins _ σ H _ (I.tok _) h) fun us s1 ⟨vs, H1, I1, r1, a, C', ws, ev, hl, T', ea, q⟩ => ?_) he hpl
  subst ev
  cases r1 with
  | @cons _ u0 _ ur ra rw' =>
    obtain rfl : u0 = Value.ref a := ra
    have hlen : ur.length ≤ sizeLine := by
      rw [← Paired.length rw']
      exact Nat.le_trans hl (by decide)
    exact oinit_ok T' I1 ea hlen fun s' J => ⟨.non, H1, J, rfl, q⟩
end
/-- the promise of an error's __init__ -/
def spI (K : PySem.W.Frag) (C : Addr) (fs : List Str) : Sp := fun vs H Q _ => ∃ (a : Addr) (args : List V), vs = .ref a :: args ∧ args.length = fs.length ∧ H a = some (exo a C none) ∧ OexC K C ∧ (∀ f ∈ fs, PySem.W.findIn K (.ref C) f = some none) ∧
  ∀ (H2 : Hp) (dx : Addr) (gs : List (Str × V)), H dx = none → H2 a = some (exo a C (some dx)) → H2 dx = some (exd dx gs) → (∀ b, b ≠ a → b ≠ dx → H2 b = H b) → (∀ f, gs.lookup f = (fs.zip args).lookup f) → Q .non H2
/-- an own error's text: Base.__init__(self, 'm'), then self.f = p for each parameter -/
structure InitB (body : List Stmt) (b : Str) (fs : List Str) (ps : List Str) : Prop where
  sh : ∃ (m : Str) (j : Nat) (p1 p2 p3 p4 p5 p6 : Pos) (r : List Stmt), body = .Expr (.Call (.Attribute (.Name b p1) "__init__" p2) [.Name "self" p3, .Constant (.str m) j p4] [] p5) p6 :: r ∧ (p2.endLine == p5.line) = true ∧
    ((∃ (f q : Str) (a1 a2 a3 a4 : Pos), fs = [f] ∧ ps = [("self" : Str), q] ∧ r = [.Assign [.Attribute (.Name "self" a1) f a2] (.Name q a3) a4]) ∨
      ∃ (f g q u : Str) (a1 a2 a3 a4 b1 b2 b3 b4 : Pos), fs = [f, g] ∧ ps = [("self" : Str), q, u] ∧ r = [.Assign [.Attribute (.Name "self" a1) f a2] (.Name q a3) a4, .Assign [.Attribute (.Name "self" b1) g b2] (.Name u b3) b4])
section
variable {P : Program} {w : World} {K : PySem.W.Frag} {mg : Str → Option Value} {base : Heap}
theorem init_ok {k : Nat} {f : Addr} {fd : FuncData} {x qual : Str} {params : Arguments} {body : List Stmt} {scope : Scope} {ps fs : List Str} {b : Str} {C Cb : Addr} (F : FunD K x qual params body scope [] [] f fd) (S : FnScope ps ps scope) (hB : InitB body b fs ps) (T : BaseC K Cb) (hm : mg b = some (.ref Cb))
    (hgb : scope.names.lookup b = some .globalImplicit) (hdb : (b == ("__debug__" : Str)) = false) (hps : ∀ q ∈ ps, (q == ("__debug__" : Str)) = false ∧ (q == ("__classdict__" : Str)) = false) (hff : fs.Nodup) : FnOk P w K mg base (L2.CX P w) (k + 1) f fd ps (spI K C fs) := by
  obtain ⟨m, j, p1, p2, p3, p4, p5, p6, r, rfl, hline, hr⟩ := hB.sh
  have vis : ∀ {A : Around} {outer : List PySem.Env} {s : Shared} {H : Hp} {E : XK} {cdv : Value} (q : Str), q ∈ ps → Vis (cxOf (L2.CX P w) P w K mg base ps qual scope f cdv A outer s H E).env.scope q := fun q hq => by
    rcases S.par q hq with h | h
    · exact .inl h
    · exact .inr (.inl h)
  refine F.ok S (fun vs H Q E h => ?_) fun cdv A outer s H vs Q E hroom h => ?_
  · obtain ⟨a, args, rfl, hl, _⟩ := h
    rcases hr with ⟨f, q, _, _, _, _, rfl, rfl, _⟩ | ⟨f, g, q, u, _, _, _, _, _, _, _, _, rfl, rfl, _⟩ <;> simpa using hl
  · obtain ⟨a, args, rfl, hl, ha, T', hno, hQ⟩ := h
    rcases hr with ⟨fl, q, a1, a2, a3, a4, rfl, rfl, rfl⟩ | ⟨fl, gl, q, u, a1, a2, a3, a4, b1, b2, b3, b4, rfl, rfl, rfl⟩
    · have hq := hps q (by simp)
      have v0 := fun pos => pe_var (X := cxOf (L2.CX P w) P w K mg base [("self" : Str), q] qual scope f cdv A outer s H E) (i := 0) (x := "self") (pos := pos) rfl (vis "self" (by simp)) (by decide) (by decide)
      have v1 := fun pos => pe_var (X := cxOf (L2.CX P w) P w K mg base [("self" : Str), q] qual scope f cdv A outer s H E) (i := 1) (x := q) (pos := pos) rfl (vis q (by simp)) hq.1 hq.2
      refine ⟨_, pss_cons (ps_expr (pe_binit T hgb hm hdb (pa_cons (v0 p3) (pa_cons pe_str pa_nil)) (mc_eq hline rfl) rfl rfl) rfl) (pss_one (ps_ost (v0 a1) (v1 a3))), ?_⟩
      obtain ⟨x1, rfl⟩ : ∃ x1, args = [x1] := by
        match args, hl with
        | [x1], _ => exact ⟨x1, rfl⟩
      refine ⟨_, rfl, a, C, [.str m], rfl, (show ([V.str m] : List V).length ≤ 1000 by simp), T', ha, ?_⟩
      refine ⟨_, rfl, _, rfl, a, C, rfl, T', hno fl (by simp), .inl ⟨ha, fun dx hdx hne => ?_⟩⟩
      refine hQ _ dx [(fl, x1)] hdx (upd_same ..) (by rw [upd_ne hne, upd_same]) (fun b h1 h2 => by rw [upd_ne h1, upd_ne h2]) (fun f => rfl)
    · have hq := hps q (by simp)
      have hu := hps u (by simp)
      have v0 := fun pos => pe_var (X := cxOf (L2.CX P w) P w K mg base [("self" : Str), q, u] qual scope f cdv A outer s H E) (i := 0) (x := "self") (pos := pos) rfl (vis "self" (by simp)) (by decide) (by decide)
      have v1 := fun pos => pe_var (X := cxOf (L2.CX P w) P w K mg base [("self" : Str), q, u] qual scope f cdv A outer s H E) (i := 1) (x := q) (pos := pos) rfl (vis q (by simp)) hq.1 hq.2
      have v2 := fun pos => pe_var (X := cxOf (L2.CX P w) P w K mg base [("self" : Str), q, u] qual scope f cdv A outer s H E) (i := 2) (x := u) (pos := pos) rfl (vis u (by simp)) hu.1 hu.2
      refine ⟨_, pss_cons (ps_expr (pe_binit T hgb hm hdb (pa_cons (v0 p3) (pa_cons pe_str pa_nil)) (mc_eq hline rfl) rfl rfl) rfl) (pss_cons (ps_ost (v0 a1) (v1 a3)) (pss_one (ps_ost (v0 b1) (v2 b3)))), ?_⟩
      obtain ⟨x1, x2, rfl⟩ : ∃ x1 x2, args = [x1, x2] := by
        match args, hl with
        | [x1, x2], _ => exact ⟨x1, x2, rfl⟩
      refine ⟨_, rfl, a, C, [.str m], rfl, (show ([V.str m] : List V).length ≤ 1000 by simp), T', ha, ?_⟩
      refine ⟨_, rfl, _, rfl, a, C, rfl, T', hno fl (by simp), .inl ⟨ha, fun dx hdx hne => ?_⟩⟩
      have e1 : (L2.upd (L2.upd H dx (exd dx [(fl, x1)])) a (exo a C (some dx))) a = some (exo a C (some dx)) := upd_same ..
      have e2 : (L2.upd (L2.upd H dx (exd dx [(fl, x1)])) a (exo a C (some dx))) dx = some (exd dx [(fl, x1)]) := by rw [upd_ne hne, upd_same]
      refine ⟨_, rfl, _, rfl, a, C, rfl, T', hno gl (by simp), .inr ⟨dx, [(fl, x1)], e1, e2, (show ([(fl, x1)] : List (Str × V)).length ≤ 900 by simp), ?_⟩⟩
      refine hQ _ dx [(gl, x2), (fl, x1)] hdx (by rw [upd_ne (Ne.symm hne)]; exact e1) (upd_same ..) (fun b h1 h2 => by rw [upd_ne h2, upd_ne h1, upd_ne h2]) (fun f => ?_)
      have hfg : fl ≠ gl := by simpa using hff
      show ([(gl, x2), (fl, x1)] : List (Str × V)).lookup f = [(fl, x1), (gl, x2)].lookup f
      rw [lookup_put, lookup_put, lookup_put, lookup_put]
      by_cases h1 : f = gl
      · rw [if_pos h1, if_neg (fun z => hfg (z.symm.trans h1)), if_pos h1]
      · rw [if_neg h1, if_neg h1]
end
section
variable {B : Bs} {X : Cx} {x : Str} {e : Expr} {es : List Expr} {ce : TI.C} {c : Nat} {fI : Addr} {fd : FuncData} {ps : List Str} {p pos pos' : Pos}
/-- what is known of an own error's class -/
structure ExcC (B : Bs) (X : Cx) (c : Nat) (fI : Addr) (fd : FuncData) (ps : List Str) : Prop where
  T : OexC X.K (B.G.ca c)
  iC : PySem.W.findIn X.K (.ref (B.G.ca c)) "__init__" = some (some (.ref fI))
  tI : PySem.W.typeIn X.K (.ref fI) = some (.type "function")
  F : FnOk X.prog X.w X.K X.mg X.base (L2.CX X.prog X.w) 1 fI fd ps (spI X.K (B.G.ca c) (B.cs c))
  b : Binds X.K fd ps []
  no : ∀ f ∈ B.cs c, PySem.W.findIn X.K (.ref (B.G.ca c)) f = some none
  cs : B.cs c = B.K.xf c
  few : (B.cs c).length ≤ 1000
theorem s_rai (hc : X.calm = true) (tk : Takes X B.W) (E : ExcC B X c fI fd ps) (hr : Room 2 X.A) (hg : Gl X x) (hm : X.mg x = some (.ref (B.G.ca c))) (ha : PA X (e :: es) (tV B ce)) (hdb : (x == ("__debug__" : Str)) = false)
    (he : starEach (e :: es) X.env = (false, eval e X.env) :: starEach es X.env) (hpl : (backTo pos (starEach es X.env)).any (·.1) = false) :
    PS X (.Raise (some (.Call (.Name x p) (e :: es) [] pos)) none pos') (tS B (.rai c ce)) := by
  have hx : Passes (L2.CX X.prog X.w) X (fun _ _ _ => False) := fun pins σ H s e s' I h => by
    obtain ⟨_, _, _, _, _, _, _, _, _, _, _, _, z⟩ := h
    exact z.elim
  refine (ps_raise hc tk (pmk_oex E.T E.iC E.tI E.F hr E.b .nil hx hg hm ha hdb he hpl)).tim fun D σ H ⟨lc, pn, Y, env, F, Z, r, h⟩ => ⟨lc, pn, Y, env, F, Z, r, ?_⟩
  have h1 : SQ B lc pn Y env σ F Z H (((ev ce).v (B.k lc pn) env).run fun xs env => if T.wholeL xs = true ∧ xs.length = (B.K.xf c).length then .err c (T.frzL xs) env else .stuck) D := h
  refine SQ.run h1 fun xs e1 vs H1 F1 Z1 S1 _ a1 q1 h2 => ?_
  by_cases hw : T.wholeL xs = true ∧ xs.length = (B.K.xf c).length
  · rw [if_pos hw] at h2
    have hl : vs.length = (B.cs c).length := by rw [RepL.len xs q1, hw.2, E.cs]
    refine ⟨by rw [hl]; exact E.few, fun a hna => ?_⟩
    rw [List.append_nil]
    refine ⟨a, vs, rfl, hl, upd_same .., E.T, E.no, fun H2 dx gs hdx h2a h2d hsame hlook => ⟨rfl, dx, gs, h2a, h2d, ?_, ?_⟩⟩
    · by_cases q : dx = a
      · rw [q, upd_same] at hdx; cases hdx
      · rw [upd_ne q] at hdx; exact hdx
    · have hda : dx ≠ a := fun q => by rw [q, upd_same] at hdx; cases hdx
      have hd1 : H1 dx = none := by rw [upd_ne hda] at hdx; exact hdx
      have eH : L2.upd (del H2 a) dx (.xd gs) = L2.upd H1 dx (.xd gs) := by
        funext b
        by_cases h1 : b = dx
        · rw [h1, upd_same, upd_same]
        · rw [upd_ne h1, upd_ne h1]
          by_cases h2 : b = a
          · rw [h2, del_same, hna]
          · rw [del_ne h2, hsame b h2 h1, upd_ne h2]
      rw [eH]
      have hne := a1.ne
      have fr : RepL B.G (fun y => Z1 y ∨ S1 y) H1 (T.frzL xs) vs none_ := q1.frz xs hw.1 (fun _ z => .inl z) fun _ z => .inr z
      have r1 : R B.G lc Y e1 σ H1 F1 (fun y => Z1 y ∨ S1 y) := by
        refine a1.r.frame (Fc := S1) (Fc' := none_) ⟨fun _ _ e _ => e, fun _ e => e, fun _ z => z.elim, fun _ z => .inl z, fun y z => z.elim .inl fun z => .inr (.inl z)⟩ a1.sm (fun y z w => (a1.sd y w).1 z) (fun y z w => (a1.sd y w).2.2 z) (fun y z w => (a1.sd y w).2.1 z) fun y z => ?_
        rcases z with z | z
        · exact (a1.r.zf y z).2
        · exact hne y z
      have a2 : Aft B.G lc Y env σ F Z H e1 σ F1 (fun y => Z1 y ∨ S1 y) H1 none_ := by
        refine ⟨r1, fun _ z => z.elim, fun _ z => z.elim, ⟨a1.p.keep, a1.p.al, fun y z => a1.p.grow y (z.elim .inl False.elim), fun y z => .inl (a1.p.zin y z), fun y z => ?_⟩, a1.lk⟩
        rcases z with z | z
        · exact a1.p.zup y z
        · exact .inr (a1.p.grow y (.inr z))
      have kp : ∀ b o, H1 b = some o → (L2.upd H1 dx (.xd gs)) b = some o := fun b o eb => by rw [upd_ne (ne_of_none eb hd1)]; exact eb
      have rs : Res B.G (fun y => Z1 y ∨ S1 y) H1 .non .non (L2.upd H1 dx (.xd gs)) none_ := ⟨kp, fun _ z => z.elim, fun _ z => z.elim, rfl⟩
      refine h2 (.ref (B.G.ca c)) (some dx) σ _ F1 _ ⟨a2.res rs, fun _ _ => rfl⟩ ⟨rfl, vs, ?_, ?_, .inr ⟨dx, rfl, gs, upd_same .., hlook⟩⟩
      · exact RepL.stab (F := none_) (T.frzL xs) fr (fun b o eb _ => kp b o eb) (fun _ z => z.elim) (fun _ z => z.elim) (fun _ _ z => z) fun _ z => z
      · rw [← RepL.len _ fr, hl]
  · rw [if_neg hw] at h2; exact h2.elim
end
end TI
end
section
set_option maxHeartbeats 400000
/-! TX2: try .. except C as n. -/
namespace TI
open PySem L2
/-- with a caught exception -/
abbrev Gd.wx (G : Gd) (a : Addr) (c : Nat) (dd : Addr) : Gd := { G with ex := fun a' c' d' => a' = a ∧ c' = c ∧ d' = dd }
abbrev Bs.wx (B : Bs) (a : Addr) (c : Nat) (dd : Addr) : Bs := { B with G := B.G.wx a c dd }
section
variable {G : Gd} {Z : Sa} {H : Hp} {a : Addr} {c : Nat} {dd : Addr}
theorem nodeAt.wx {k : Kd} {p : Addr} {vs : List V} (h : nodeAt G H k p vs) (hx : ∀ a c d, ¬ G.ex a c d) : nodeAt (G.wx a c dd) H k p vs := by
  cases k with
  | exn c ns =>
    obtain ⟨_, _, _, z, _⟩ := h
    exact absurd z (hx _ _ _)
  | _ => exact h
theorem nodeAt.unwx {k : Kd} {p : Addr} {vs : List V} (h : nodeAt (G.wx a c dd) H k p vs) (hk : ∀ c ns, k ≠ .exn c ns) : nodeAt G H k p vs := by
  cases k with
  | exn c ns => exact absurd rfl (hk _ _)
  | _ => exact h
mutual
theorem Rep.wx (hx : ∀ a c d, ¬ G.ex a c d) : ∀ (t : T) {v : V} {S : Sa}, Rep G Z H t v S → Rep (G.wx a c dd) Z H t v S
  | .hole, _, _, _ => trivial
  | .non, _, _, h => h
  | .bl _, _, _, h => h
  | .int _, _, _, h => h
  | .str _, _, _, h => h
  | .nd k f xs, v, S, h => by
    obtain ⟨p, vs, S0, rfl, hn, hk, hl, hF⟩ := h
    exact ⟨p, vs, S0, rfl, hn.wx hx, hk, RepL.wx hx xs hl, hF⟩
theorem RepL.wx (hx : ∀ a c d, ¬ G.ex a c d) : ∀ (xs : List T) {vs : List V} {S : Sa}, RepL G Z H xs vs S → RepL (G.wx a c dd) Z H xs vs S
  | [], _, _, h => h
  | x :: xs, _, S, h => by
    obtain ⟨v, r, S1, S2, rfl, h1, h2, d, s1, s2⟩ := h
    exact ⟨v, r, S1, S2, rfl, Rep.wx hx x h1, RepL.wx hx xs h2, d, s1, s2⟩
end
mutual
theorem Rep.unwx : ∀ (t : T) {v : V} {S : Sa}, Rep (G.wx a c dd) Z H t v S → t.noex = true → Rep G Z H t v S
  | .hole, _, _, _, _ => trivial
  | .non, _, _, h, _ => h
  | .bl _, _, _, h, _ => h
  | .int _, _, _, h, _ => h
  | .str _, _, _, h, _ => h
  | .nd k f xs, v, S, h, hn => by
    obtain ⟨p, vs, S0, rfl, hnd, hk, hl, hF⟩ := h
    have hk' : ∀ c ns, k ≠ .exn c ns := fun c ns e => by subst e; cases hn
    have hxs : T.noexL xs = true := by
      cases k with
      | exn c ns => exact absurd rfl (hk' _ _)
      | _ => exact hn
    exact ⟨p, vs, S0, rfl, hnd.unwx hk', hk, RepL.unwx xs hl hxs, hF⟩
theorem RepL.unwx : ∀ (xs : List T) {vs : List V} {S : Sa}, RepL (G.wx a c dd) Z H xs vs S → T.noexL xs = true → RepL G Z H xs vs S
  | [], _, _, h, _ => h
  | x :: xs, _, S, h, hn => by
    obtain ⟨v, r, S1, S2, rfl, h1, h2, d, s1, s2⟩ := h
    have hn' : (x.noex && T.noexL xs) = true := hn
    rw [Bool.and_eq_true] at hn'
    exact ⟨v, r, S1, S2, rfl, Rep.unwx x h1 hn'.1, RepL.unwx xs h2 hn'.2, d, s1, s2⟩
end
end
section
variable {G : Gd} {lc : List Nat} {Y : Sa} {env : Env} {σ : St} {H : Hp} {F Z : Sa} {a : Addr} {c i : Nat} {dd : Addr}
/-- the slot of the caught exception is laid and locked -/
theorem R.caught (hx : ∀ a c d, ¬ G.ex a c d) (r : R G lc Y env σ H F Z) (hi : i < env.length) {t : T} (q : Rep (G.wx a c dd) Z H t (.ref a) none_) : R (G.wx a c dd) (i :: lc) Y (env.set i (some t)) (σ.set i (some (.ref a))) H F Z := by
  obtain ⟨hl, fm, zf, yf, S, s1, s2, s3, s4⟩ := r
  refine ⟨by simp [hl], fm, zf, yf, fun j b => j ≠ i ∧ S j b, fun j hj b z => ?_, fun j hj b z => ?_, fun j l hjl b z y => s3 j l hjl b z.2 y.2, fun j u e => ?_⟩
  · exact s1 j (fun w => hj (List.mem_cons_of_mem _ w)) b z.2
  · exact s2 j ((List.mem_cons.mp hj).resolve_left z.1) b z.2
  · by_cases h : j = i
    · subst h
      rw [List.getElem?_set_self hi] at e
      cases e
      exact ⟨.ref a, by rw [List.getElem?_set_self (by rw [← hl]; exact hi)], q.mono t fun _ z => z.elim⟩
    · rw [List.getElem?_set_ne (Ne.symm h)] at e
      obtain ⟨v, ev, rp⟩ := s4 j u e
      exact ⟨v, by rw [List.getElem?_set_ne (Ne.symm h)]; exact ev, (Rep.wx hx u rp).mono u fun _ z => ⟨h, z⟩⟩
/-- .. and emptied -/
theorem R.uncaught (r : R (G.wx a c dd) (i :: lc) Y env σ H F Z) (hi : i ∉ lc) (hn : noexE (env.set i none) = true) : R G lc Y (env.set i none) (σ.set i none) H F Z := by
  obtain ⟨hl, fm, zf, yf, S, s1, s2, s3, s4⟩ := r
  refine ⟨by simp [hl], fm, zf, yf, fun j b => j ≠ i ∧ S j b, fun j hj b z => ?_, fun j hj b z => ?_, fun j l hjl b z y => s3 j l hjl b z.2 y.2, fun j u e => ?_⟩
  · exact s1 j (fun w => (List.mem_cons.mp w).elim z.1 hj) b z.2
  · exact s2 j (List.mem_cons_of_mem _ hj) b z.2
  · have hu : u.noex = true := by
      unfold noexE at hn
      rw [List.all_eq_true] at hn
      exact hn _ (List.mem_of_getElem? e)
    by_cases h : j = i
    · subst h
      by_cases hj : j < env.length
      · rw [List.getElem?_set_self hj] at e; cases e
      · rw [List.getElem?_eq_none (by simp; omega)] at e; cases e
    · rw [List.getElem?_set_ne (Ne.symm h)] at e
      obtain ⟨v, ev, rp⟩ := s4 j u e
      exact ⟨v, by rw [List.getElem?_set_ne (Ne.symm h)]; exact ev, (Rep.unwx u rp hu).mono u fun _ z => ⟨h, z⟩⟩
end
section
variable {B : Bs} {X : Cx} {x n : Str} {c' i : Nat} {cb cs : TI.C} {body suite : List Stmt} {b₀ : Stmt} {np pos pos' : Pos}
theorem s_try (hs : X.stack = X.env :: X.outer) (hf : X.env.frame = some X.env.locals) (hN : X.N.Nodup) (hi : X.N[i]? = some n) (hln : X.env.kindOf n = some .local) (hc : Names X x (.ref (B.G.ca c'))) (tk : Takes X B.W) (hx : ∀ a c d, ¬ B.G.ex a c d) (hcs : B.cs = B.K.xf)
    (hm : ∀ c b, B.K.xm c c' = some b → PySem.W.exmOne X.K (.ref (B.G.ca c)) (.ref (B.G.ca c')) = some b)
    (hb : ∀ (W : WX) (pn : List (Addr × Obj)) (xe : Value → Shared → Prop), Takes (X.tr pn xe) W → PassesOwn (model X.prog X.w) X.A X.env xe → PSs (X.tr pn xe) body (tBl { B with W := W } cb))
    (hsu : ∀ (a : Addr) (oe : Obj) (c : Nat) (dd : Addr) (pn : List (Addr × Obj)), B.K.xm c c' = some true → Zc (.ref (B.G.ca c)) (some dd) oe → (∃ vs, oe.data = .fields vs) → PSs (X.suite a ((a, oe) :: pn)) (b₀ :: suite) (tBl (B.wx a c dd) cs)) :
    PS X (.Try body [.ExceptHandler (some (.Name x np)) (some n) (b₀ :: suite) pos'] [] [] pos) (tS B (.tryS cb (.hdl c' (some i) cs))) := by
  refine (ps_try_as (tb := fun W => tBl { B with W := W } cb) (ts := fun a cls d D σ H => ∃ (c : Nat) (dd : Addr), B.K.xm c c' = some true ∧ cls = .ref (B.G.ca c) ∧ d = some dd ∧ tBl (B.wx a c dd) cs D σ H) hs hf hN hi hln hc tk hb fun a oe cls d pn hz hd => ⟨fun pins s σ H D I ⟨c, dd, e0, e1, e2, h⟩ => ?_⟩).tim fun D σ H ⟨lc, pn, Y, env, F, Z, r, h⟩ => ⟨lc, pn, Y, env, F, Z, r, ?_⟩
  · subst e1 e2
    exact (hsu a oe c dd pn e0 hz hd).run pins s σ H D I h
  · have h1 : SQ B lc pn Y env σ F Z H (match (ev cb).bl (B.k lc pn) env with | .err c xs e => (ev (.hdl c' (some i) cs)).hd (B.k lc pn) c xs e | o => o) D := h
    show SQ { B with W := wAs X.K (.ref (B.G.ca c')) i _ B.W D } lc pn Y env σ F Z H ((ev cb).bl (B.k lc pn) env) D
    cases eo : (ev cb).bl (B.k lc pn) env with
    | stuck => rw [eo] at h1; exact h1
    | nx e => rw [eo] at h1; exact fun σ' H' F' Z' q => h1 σ' H' F' Z' ⟨q.a, q.ks⟩
    | bk e => rw [eo] at h1; exact fun σ' H' F' Z' q => h1 σ' H' F' Z' ⟨q.a, q.ks⟩
    | ct e => rw [eo] at h1; exact fun σ' H' F' Z' q => h1 σ' H' F' Z' ⟨q.a, q.ks⟩
    | rt t e => rw [eo] at h1; exact fun v σ' H' F' Z' S q rp => h1 v σ' H' F' Z' S ⟨q.a, q.ks⟩ rp
    | err c xs e =>
      rw [eo] at h1
      intro cls d σ' H' F' Z' q0 ex
      have q : AftS B lc pn Y env σ F Z H e σ' F' Z' H' none_ := ⟨q0.a, q0.ks⟩
      have h2 : SQ B lc pn Y env σ F Z H (match B.K.xm c c' with
        | some true => if i < e.length ∧ (B.k lc pn).open_ i = true ∧ (B.k lc pn).pn.contains i = false ∧ xs ≠ [] then endH i ((ev cs).bl ((B.k lc pn).lock i) (e.set i (some (.nd (.exn c (B.K.xf c)) true xs)))) else .stuck
        | some false => .err c xs e
        | none => .stuck) D := h1
      cases em : B.K.xm c c' with
      | none => rw [em] at h2; exact h2.elim
      | some b =>
        rw [em] at h2
        obtain ⟨rfl, vs, rep, hlen, hd⟩ := ex
        refine ⟨b, hm c b em, fun hb1 a hna => ?_, fun hb0 => ?_⟩
        · subst hb1
          dsimp only at h2
          split at h2
          · rename_i hc4
            obtain ⟨c1, c2, c3, c4⟩ := hc4
            rcases hd with ⟨z, _⟩ | ⟨dd, rfl, fs, hdd, hlook⟩
            · exact absurd z c4
            · have c2' : i ∉ lc := by
                have : (!(lc.contains i)) = true := c2
                simpa using this
              have c3' : i ∉ pn := by
                have : pn.contains i = false := c3
                simpa using this
              have hlv : (B.K.xf c).length = vs.length := by rw [← hcs, ← hlen, RepL.len xs rep]
              have hrep : Rep (B.G.wx a c dd) Z' H' (.nd (.exn c (B.K.xf c)) true xs) (.ref a) none_ := by
                refine ⟨a, vs, none_, rfl, ⟨hlv, dd, fs, ⟨rfl, rfl, rfl⟩, hdd, fun f => by rw [hlook f, hcs]⟩, trivial, RepL.wx hx xs rep, ?_⟩
                unfold ndF
                rw [if_pos rfl]
                exact fun _ z => z
              have r1 := R.caught (a := a) (c := c) (dd := dd) hx q.a.r c1 hrep
              have h3 := SQ.rebase h2 q
              refine ⟨c, dd, em, rfl, rfl, i :: lc, pn, Y, e.set i (some (.nd (.exn c (B.K.xf c)) true xs)), F', Z', r1, ?_⟩
              have hk : ((B.wx a c dd).k (i :: lc) pn) = (B.k lc pn).lock i := rfl
              rw [hk]
              have back : ∀ {e2 : Env} {σ2 : St} {H2 : Hp} {F2 Z2 S2 : Sa}, AftS (B.wx a c dd) (i :: lc) pn Y (e.set i (some (.nd (.exn c (B.K.xf c)) true xs))) (σ'.set i (some (.ref a))) F' Z' H' e2 σ2 F2 Z2 H2 S2 → noexE (e2.set i none) = true → AftS B lc pn Y e σ' F' Z' H' (e2.set i none) (σ2.set i none) F2 Z2 H2 S2 := by
                intro e2 σ2 H2 F2 Z2 S2 w hn
                have ne : ∀ j, j ∈ lc ∨ j ∈ pn → j ≠ i := fun j hj z => by
                  rcases hj with hj | hj
                  · exact c2' (z ▸ hj)
                  · exact c3' (z ▸ hj)
                refine ⟨⟨w.a.r.uncaught c2' hn, w.a.sm, w.a.sd, w.a.p, ⟨?_, fun j hj => ?_⟩⟩, fun j hj => ?_⟩
                · have := w.a.lk.1
                  simp at this ⊢
                  exact this
                · have n1 := ne j (.inl hj)
                  rw [List.getElem?_set_ne (Ne.symm n1), w.a.lk.2 j (List.mem_cons_of_mem _ hj), List.getElem?_set_ne (Ne.symm n1)]
                · have n1 := ne j hj
                  rw [List.getElem?_set_ne (Ne.symm n1), w.ks j (hj.imp (List.mem_cons_of_mem _) id), List.getElem?_set_ne (Ne.symm n1)]
              show SQ (B.wx a c dd) (i :: lc) pn Y _ _ F' Z' H' ((ev cs).bl ((B.k lc pn).lock i) (e.set i (some (.nd (.exn c (B.K.xf c)) true xs)))) _
              cases es : (ev cs).bl ((B.k lc pn).lock i) (e.set i (some (.nd (.exn c (B.K.xf c)) true xs))) with
              | stuck => rw [es] at h3; exact h3
              | bk e2 => rw [es] at h3; exact h3.elim
              | ct e2 => rw [es] at h3; exact h3.elim
              | err c2 xs2 e2 => rw [es] at h3; exact h3.elim
              | nx e2 =>
                rw [es] at h3
                have h4 : SQ B lc pn Y e σ' F' Z' H' (if noexE (e2.set i none) = true then .nx (e2.set i none) else .stuck) D := h3
                split at h4
                · rename_i hn
                  exact fun σ2 H2 F2 Z2 w => h4 _ H2 F2 Z2 (back w hn)
                · exact h4.elim
              | rt t e2 =>
                rw [es] at h3
                have h4 : SQ B lc pn Y e σ' F' Z' H' (if noexE (e2.set i none) = true ∧ t.noex = true then .rt t (e2.set i none) else .stuck) D := h3
                split at h4
                · rename_i hn
                  exact fun v σ2 H2 F2 Z2 S2 w rp => h4 v _ H2 F2 Z2 S2 (back w hn.1) (Rep.unwx t rp hn.2)
                · exact h4.elim
          · exact h2.elim
        · subst hb0
          dsimp only at h2
          exact h2 (.ref (B.G.ca c)) d σ' H' F' Z' q ⟨rfl, vs, rep, hlen, hd⟩
end
end TI
end
section
set_option maxHeartbeats 400000
/-! TX3: what an except suite may say. -/
namespace TI
open PySem L2
section
variable {G : Gd} {Z : Sa} {H : Hp}
/-- fields, by names -/
theorem RepL.field : ∀ {ns : List Str} {xs : List T} {vs : List V} {S : Sa} {f : Str} {x : T}, RepL G Z H xs vs S → (ns.zip xs).lookup f = some x → ∃ v, (ns.zip vs).lookup f = some v ∧ Rep G Z H x v S
  | [], _, _, _, _, _, _, e => by cases e
  | _ :: _, [], _, _, _, _, _, e => by cases e
  | n :: ns, y :: xs, vs, S, f, x, h, e => by
    obtain ⟨v, r, S1, S2, rfl, h1, h2, d, s1, s2⟩ := h
    have e' : List.lookup f ((n, y) :: ns.zip xs) = some x := e
    show ∃ w, List.lookup f ((n, v) :: ns.zip r) = some w ∧ _
    rw [List.lookup_cons] at e' ⊢
    cases q : f == n with
    | true =>
      rw [q] at e'
      cases e'
      exact ⟨v, rfl, h1.mono _ s1⟩
    | false =>
      rw [q] at e'
      obtain ⟨w, e2, r2⟩ := RepL.field h2 e'
      exact ⟨w, e2, r2.mono _ s2⟩
end
section
variable {B : Bs} {X : Cx} {n : Str} {c i : Nat} {a dd : Addr} {oe : Obj} {pn : List (Addr × Obj)} {f : Str} {p pos : Pos}
theorem s_xf (T : XfC X.K (B.G.ca c)) (hno : PySem.W.findIn X.K (.ref (B.G.ca c)) f = some none) (hz : Zc (.ref (B.G.ca c)) (some dd) oe) (hf : ∃ vs, oe.data = .fields vs)
    (hN : X.N[i]? = some n) (hv : Vis X.env.scope n) (hd : (n == ("__debug__" : Str)) = false) (hcd : (n == ("__classdict__" : Str)) = false) :
    PE (X.suite a ((a, oe) :: pn)) (.Attribute (.Name n p) f pos) (tR (B.wx a c dd) (.xf i f)) := by
  refine (pe_xf T hno hz hf (pe_var (X := X.suite a ((a, oe) :: pn)) hN hv hd hcd)).tim fun σ H Q ⟨lc, pn', Y, env, F, Z, r, h⟩ => ?_
  have h1 : OQ (B.wx a c dd) lc Y env σ F Z H (VR1 (B.G.wx a c dd) σ) (match env[i]? with
    | some (some (.nd (.exn _ ns) _ xs)) => (match (ns.zip xs).lookup f with
      | some x => if x.free = true then .ok (.tmp x) env else .stuck
      | none => .stuck)
    | _ => .stuck) Q := h
  cases e : env[i]? with
  | none => rw [e] at h1; exact h1.elim
  | some o =>
    cases o with
    | none => rw [e] at h1; exact h1.elim
    | some t =>
      rw [e] at h1
      cases t with
      | nd k g xs =>
        cases k with
        | exn c0 ns =>
          dsimp only at h1
          obtain ⟨S, s1, s2, s3, s4⟩ := r.sl
          obtain ⟨v, ev, q⟩ := s4 i _ e
          obtain ⟨a0, vs, S0, rfl, hn, _, hl, hF⟩ := q
          obtain ⟨_, dd0, fs, ⟨rfl, rfl, rfl⟩, hdd, hlook⟩ := hn
          cases el : (ns.zip xs).lookup f with
          | none => rw [el] at h1; exact h1.elim
          | some x =>
            rw [el] at h1
            dsimp only at h1
            split at h1
            · rename_i hfr
              obtain ⟨w, ew, rw'⟩ := hl.field el
              refine ⟨.ref a0, ev, rfl, rfl, dd0, fs, w, rfl, hdd, by rw [hlook f]; exact ew, ?_⟩
              exact h1 w H F Z none_ (Aft.refl r) (rw'.bare x hfr)
            · exact h1.elim
        | _ => exact h1.elim
      | _ => exact h1.elim
end
end TI
end
section
set_option maxHeartbeats 400000
/-! TC1: the program's text into the small code. Plain Lean. -/
namespace TI
open PySem
abbrev Sc := List (Str × NameKind)
/-- what a global name stands for: a function (its number, its parameters), an int or a text -/
inductive GE where
  | fn (i np : Nat)
  | key (k : Key)
  /-- an own error's class: its number, how many fields -/
  | exc (c np : Nat)
  /-- a field's name that except suites may ask for -/
  | fld
/-- the slots' names, the global names -/
structure CE where
  N : List Str
  tb : List (Str × GE)
abbrev bad : C := .tst 0
def visB (sc : Sc) (x : Str) : Bool := match sc.lookup x with
  | some .local => true
  | some .cell => true
  | some .free => true
  | _ => false
def locB (sc : Sc) (x : Str) : Bool := match sc.lookup x with
  | some .local => true
  | some .cell => true
  | _ => false
def glB (sc : Sc) (x : Str) : Bool := match sc.lookup x with
  | some .globalImplicit => true
  | _ => false
def nmOk (x : Str) : Bool := !(x == ("__debug__" : Str)) && !(x == ("__classdict__" : Str)) && !decide (x = ("__name__" : Str))
def idx (N : List Str) (x : Str) : Option Nat := N.findIdx? fun y => decide (y = x)
def bop : Operator → Option BO
  | .Add => some .add
  | .Sub => some .sub
  | .Mult => some .mul
  | .FloorDiv => some .fdiv
  | .Mod => some .mod
  | .Pow => some .pow
  | _ => none
def cop : CmpOp → CP
  | .Eq => .eq
  | .NotEq => .ne
  | .Lt => .lt
  | .LtE => .le
  | .Gt => .gt
  | .GtE => .ge
  | .Is => .isN
  | .IsNot => .notN
  | .In => .inn
  | .NotIn => .nin
def starB : Expr → Bool
  | .Starred _ _ => true
  | _ => false
def noStar (es : List Expr) : Bool := es.all fun e => !starB e
def compB : Expr → Bool
  | .ListComp _ _ _ _ => true
  | .SetComp _ _ _ _ => true
  | .DictComp _ _ _ _ _ => true
  | _ => false
def setB : Expr → Bool
  | .Set _ _ _ => true
  | _ => false
def tupB : Expr → Bool
  | .Tuple _ _ _ => true
  | _ => false
def listB : Expr → Bool
  | .List _ _ => true
  | _ => false
def sliceB : Expr → Bool
  | .Slice _ _ _ _ => true
  | _ => false
/-- no marks behind in: the right side is no display of a set -/
def baseB : Expr → Bool
  | .Call (.Name _ _) [] [] _ => false
  | _ => true
/-- a test of it is its value's truth -/
def plainB : Expr → Bool
  | .UnaryOp .Not _ _ => false
  | .BoolOp _ _ _ => false
  | .IfExp _ _ _ _ => false
  | .Compare _ _ _ _ => false
  | _ => true
def biOf (x : Str) (n : Nat) : Option Bi :=
  if x = ("len" : Str) ∧ n = 1 then some .len
  else if x = ("list" : Str) ∧ n = 1 then some .list
  else if x = ("tuple" : Str) ∧ n = 1 then some .tuple
  else if x = ("min" : Str) ∧ n = 2 then some .min2
  else if x = ("max" : Str) ∧ n = 2 then some .max2
  else if x = ("all" : Str) ∧ n = 1 then some .all
  else if x = ("any" : Str) ∧ n = 1 then some .any
  else if x = ("sum" : Str) ∧ n = 1 then some .sum
  else if x = ("int" : Str) ∧ n = 1 then some .int
  else none
/-- len(set(a)) -/
def setArg (sc : Sc) (x : Str) : List Expr → Option Expr
  | [.Call (.Name y _) [a] [] _] => if x = ("len" : Str) ∧ y = ("set" : Str) ∧ glB sc y = true ∧ starB a = false then some a else none
  | _ => none
def bltNames : List Str := ["len", "list", "tuple", "min", "max", "all", "any", "sum", "int", "isinstance", "range", "enumerate", "zip", "bool", "str", "set", "dict"]
/-- built-in classes by their names -/
def clOf (x : Str) : Option Cl :=
  if x = ("int" : Str) then some .int
  else if x = ("bool" : Str) then some .bool
  else if x = ("str" : Str) then some .str
  else if x = ("tuple" : Str) then some .tuple
  else if x = ("list" : Str) then some .list
  else if x = ("dict" : Str) then some .dict
  else none
def clsOf (sc : Sc) : List Expr → Option (List Cl)
  | [] => some []
  | .Name x _ :: r => if glB sc x = true then (match clOf x, clsOf sc r with
    | some c, some cs => some (c :: cs)
    | _, _ => none) else none
  | _ => none
/-- a block's own names, with their slots -/
def ownOf (N : List Str) (sc : Sc) : List (Str × Nat) := sc.filterMap fun y => match y.2 with
  | .local => (idx N y.1).map fun i => (y.1, i)
  | .cell => (idx N y.1).map fun i => (y.1, i)
  | _ => none
/-- the block may be run where sc stands -/
def blkB (N : List Str) (sc : Sc) (scope : Scope) : Bool :=
  decide (scope.kind = .function) && (scope.names.all fun y => decide (scope.names.lookup y.1 = some y.2)) &&
    (scope.names.all fun y => match y.2 with
      | .free => (match sc.lookup y.1 with | some .cell => true | some .free => true | _ => false)
      | .local => decide (y.1 ∈ (ownOf N scope.names).map (·.1)) || decide (y.1 ∉ N)
      | .cell => decide (y.1 ∈ (ownOf N scope.names).map (·.1)) || decide (y.1 ∉ N)
      | _ => true)
mutual
def cE (Γ : CE) : Nat → Sc → Expr → C
  | 0, _, _ => bad
  | n + 1, sc, e => match e with
    | .Constant c _ _ => (match c with
      | .int i => .int i
      | .bool b => .bl b
      | .str s => .str s
      | .none => .non
      | _ => bad)
    | .Name x _ => if nmOk x = true then (if visB sc x = true then (match idx Γ.N x with
        | some i => .var i
        | none => bad) else if glB sc x = true then (match Γ.tb.lookup x with
        | some (.key k) => .glb x k
        | _ => bad) else bad) else bad
    | .Tuple es _ _ => if noStar es = true then .tup (cEs Γ n sc es) else bad
    | .List es _ => if noStar es = true then .lst (cEs Γ n sc es) else bad
    | .BinOp a op b _ => (match bop op with
      | some o => .bin o (cE Γ n sc a) (cE Γ n sc b)
      | none => bad)
    | .UnaryOp op a _ => (match op with
      | .Not => .notv (cE Γ n sc a)
      | .USub => .neg (cE Γ n sc a)
      | _ => bad)
    | .BoolOp op vs _ => (match vs with
      | x :: y :: r => cBo Γ n sc op x (y :: r)
      | _ => bad)
    | .Compare a ops cs _ => (match ops, cs with
      | [o], [b] => if setB b = true then bad else .cmp (cop o) (cE Γ n sc a) (cE Γ n sc b)
      | [o, o'], [b, c] => if setB c = true then bad else .chain (cop o) (cop o') (cE Γ n sc a) (cE Γ n sc b) (cE Γ n sc c)
      | _, _ => bad)
    | .IfExp t a b _ => .ife (cE Γ n sc t) (cE Γ n sc a) (cE Γ n sc b)
    | .Subscript a i _ => (match i with
      | .Slice lo hi st _ => (match st with
        | none => .sl (cE Γ n sc a) (cO Γ n sc lo) (cO Γ n sc hi)
        | some s => (match lo, hi with
          | none, none => .sls (cE Γ n sc a) (cE Γ n sc s)
          | _, _ => bad))
      | i => .ix (cE Γ n sc a) (cE Γ n sc i))
    | .JoinedStr vs _ => (match vs with
      | [] => bad
      | vs => (match cF Γ n sc vs with
        | some c => .fstr c
        | none => bad))
    | .ListComp elt gs scope _ => (match gs with
      | [⟨tg, it, ifs, k⟩] => if k = 0 ∧ blkB Γ.N sc scope = true ∧ setB it = false then (match ifs with
          | [] => .lc ((ownOf Γ.N scope.names).map (·.2)) (cT Γ n scope.names tg) (cI Γ n sc tg it) .nil (cE Γ n scope.names elt)
          | [t] => .lc ((ownOf Γ.N scope.names).map (·.2)) (cT Γ n scope.names tg) (cI Γ n sc tg it) (cE Γ n scope.names t) (cE Γ n scope.names elt)
          | _ => bad) else bad
      | _ => bad)
    | .Call f as ks pos => (match ks with
      | [] => (match f with
        | .Name x _ => if glB sc x = true ∧ nmOk x = true ∧ noStar as = true ∧ as ≠ [] then (match Γ.tb.lookup x with
            | some (.fn i np) => if as.length = np then .call i (cEs Γ n sc as) else bad
            | some _ => bad
            | none => (match setArg sc x as with
             | some a => .bi .setlen (cEs Γ n sc [a])
             | none => (match biOf x as.length with
              | some b => .bi b (cEs Γ n sc as)
              | none => if x = ("isinstance" : Str) then (match as with
                  | [a, .Name t _] => (match clsOf sc [.Name t ⟨0, 0, 0, 0⟩] with
                    | some [c] => .isi (cE Γ n sc a) [c]
                    | _ => bad)
                  | [a, .Tuple ts _ _] => (match clsOf sc ts with
                    | some (c :: cs) => if ts.length ≤ 100 then .isi (cE Γ n sc a) (c :: cs) else bad
                    | _ => bad)
                  | _ => bad) else bad))) else bad
        | .Attribute o m ap => if baseB o = true ∧ (ap.endLine == pos.line) = true ∧ noStar as = true then (match as with
            | [a] => if m = ("join" : Str) then .mt .join (cE Γ n sc o) (.cons (cE Γ n sc a) .nil)
              else if m = ("split" : Str) then .mt .split (cE Γ n sc o) (.cons (cE Γ n sc a) .nil)
              else if m = ("index" : Str) then .mt .index (cE Γ n sc o) (.cons (cE Γ n sc a) .nil)
              else if m = ("append" : Str) then .mm .append (cE Γ n sc o) (.cons (cE Γ n sc a) .nil)
              else if m = ("extend" : Str) then .mm .extend (cE Γ n sc o) (.cons (cE Γ n sc a) .nil)
              else if m = ("pop" : Str) then .mm .pop1 (cE Γ n sc o) (.cons (cE Γ n sc a) .nil)
              else bad
            | _ => bad) else bad
        | _ => bad)
      | _ => bad)
    | _ => bad
def cEs (Γ : CE) : Nat → Sc → List Expr → C
  | 0, _, _ => bad
  | n + 1, sc, es => match es with
    | [] => .nil
    | e :: r => .cons (cE Γ n sc e) (cEs Γ n sc r)
/-- and, or of several -/
def cBo (Γ : CE) : Nat → Sc → BoolOp → Expr → List Expr → C
  | 0, _, _, _, _ => bad
  | n + 1, sc, op, x, vs => match vs with
    | [] => cE Γ n sc x
    | y :: r => (match op with
      | .And => .andv (cE Γ n sc x) (cBo Γ n sc .And y r)
      | .Or => .orv (cE Γ n sc x) (cBo Γ n sc .Or y r))
def cO (Γ : CE) : Nat → Sc → Option Expr → C
  | 0, _, _ => bad
  | n + 1, sc, o => match o with
    | none => .nil
    | some e => .cons (cE Γ n sc e) .nil
/-- parts of an f-string -/
def cF (Γ : CE) : Nat → Sc → List Expr → Option C
  | 0, _, _ => none
  | n + 1, sc, vs => match vs with
    | [] => some .nil
    | v :: r => (match cF Γ n sc r with
      | none => none
      | some c => (match v with
        | .Constant (.str s) _ _ => some (.cons (.str s) c)
        | .FormattedValue e k f _ => if k = -1 then (match f with
          | none => some (.cons (cE Γ n sc e) c)
          | some _ => none) else none
        | _ => none))
/-- a target -/
def cT (Γ : CE) : Nat → Sc → Expr → C
  | 0, _, _ => bad
  | n + 1, sc, e => match e with
    | .Name x _ => if locB sc x = true then (match idx Γ.N x with
      | some i => .tv i
      | none => bad) else bad
    | .Tuple es _ _ => if noStar es = true ∧ lenC (cTs Γ n sc es) = es.length then .tt (cTs Γ n sc es) else bad
    | .Subscript o i _ => if sliceB i = true then bad else .ts (cE Γ n sc o) (cE Γ n sc i)
    | _ => bad
def cTs (Γ : CE) : Nat → Sc → List Expr → C
  | 0, _, _ => bad
  | n + 1, sc, es => match es with
    | [] => .nil
    | e :: r => .cons (cT Γ n sc e) (cTs Γ n sc r)
/-- what a loop walks over; its target too -/
def cI (Γ : CE) : Nat → Sc → Expr → Expr → C
  | 0, _, _, _ => bad
  | n + 1, sc, tg, e => match e with
    | .Call (.Name x _) as [] _ => if glB sc x = true ∧ noStar as = true ∧ (x = ("range" : Str) ∨ x = ("enumerate" : Str) ∨ x = ("zip" : Str)) then (match as with
        | [a] => if x = ("range" : Str) then .itR1 (cE Γ n sc a) else if x = ("enumerate" : Str) ∧ tupB tg = true then .itE (cE Γ n sc a) else bad
        | [a, b] => if x = ("range" : Str) then .itR2 (cE Γ n sc a) (cE Γ n sc b) else if x = ("zip" : Str) ∧ tupB tg = true then .itZ false (cEs Γ n sc [a, b]) else bad
        | _ => bad) else cE Γ n sc e
    | e => cE Γ n sc e
end
/-- two, three names set at once -/
def parB (sc : Sc) (ts vs : List Expr) : Bool := (ts.length == 2 || ts.length == 3) && vs.length == ts.length && noStar vs && !(vs.all (foldedForSure 8)) && !(vs.all (constantsAlone 8)) &&
  (ts.all fun t => match t with
    | .Name x p => decide (sc.lookup x = some .local) && p.line == ((ts.head?.map (·.pos.line)).getD 0)
    | _ => false) && decide ((ts.filterMap fun t => match t with | .Name x _ => some x | _ => none).Nodup)
/-- .. no: the tuple is laid -/
def noparB (sc : Sc) (ts vs : List Expr) : Bool := !(ts.length == 2 || ts.length == 3) || vs.length != ts.length || ts.any fun t => match t with
  | .Name x _ => decide (sc.lookup x ≠ some .local)
  | _ => true
mutual
/-- an except suite's expressions: nm is the caught exception, slot i -/
def cHE (Γ : CE) (nm : Str) (i : Nat) : Nat → Expr → C
  | 0, _ => bad
  | m + 1, e => match e with
    | .Constant c _ _ => (match c with
      | .int i => .int i
      | .bool b => .bl b
      | .str s => .str s
      | .none => .non
      | _ => bad)
    | .Attribute (.Name x _) f _ => if x = nm then (match Γ.tb.lookup f with
      | some .fld => .xf i f
      | _ => bad) else bad
    | .Tuple es _ _ => if noStar es = true then .tup (cHEs Γ nm i m es) else bad
    | _ => bad
def cHEs (Γ : CE) (nm : Str) (i : Nat) : Nat → List Expr → C
  | 0, _ => bad
  | m + 1, es => match es with
    | [] => .nil
    | e :: r => .cons (cHE Γ nm i m e) (cHEs Γ nm i m r)
end
/-- .. its statements -/
def cHS (Γ : CE) (sc : Sc) (nm : Str) (i m : Nat) (st : Stmt) : C := match st with
  | .Assign [.Name x _] e _ => if locB sc x = true ∧ compB e = false then (match idx Γ.N x with
    | some j => .asg (.tv j) (cHE Γ nm i m e)
    | none => bad) else bad
  | _ => bad
def cHSs (Γ : CE) (sc : Sc) (nm : Str) (i m : Nat) : List Stmt → C
  | [] => .nil
  | s :: r => .cons (cHS Γ sc nm i m s) (cHSs Γ sc nm i m r)
mutual
def cS (Γ : CE) : Nat → Sc → Stmt → C
  | 0, _, _ => bad
  | n + 1, sc, st => match st with
    | .Expr e _ => (match e with
      | .Constant (.str _) _ _ => .pass
      | e => if compB e = true then bad else .expr (cE Γ n sc e))
    | .Return v _ => (match v with
      | none => .ret0
      | some e => .ret (cE Γ n sc e))
    | .If t a b _ => .ifS (cE Γ n sc t) (cSs Γ n sc a) (cSs Γ n sc b)
    | .For tg it body els _ => (match els with
      | [] => if setB it = true then bad else .forS (cT Γ n sc tg) (cI Γ n sc tg it) (cSs Γ n sc body)
      | _ => bad)
    | .Pass _ => .pass
    | .Break _ => .brk
    | .Assign ts e pos => (match ts with
      | [.Name x px] => if locB sc x = true then (match idx Γ.N x with
          | some i => .asg (.tv i) (cE Γ n sc e)
          | none => bad) else bad
      | [.Tuple es _ _] => (match e with
        | .Tuple vs _ _ => if parB sc es vs = true then (match es with
          | [.Name x _, .Name y _] => (match idx Γ.N x, idx Γ.N y with
            | some i, some j => .par (.cons (.tv i) (.cons (.tv j) .nil)) (cEs Γ n sc vs)
            | _, _ => bad)
          | [.Name x _, .Name y _, .Name z _] => (match idx Γ.N x, idx Γ.N y, idx Γ.N z with
            | some i, some j, some l => .par (.cons (.tv i) (.cons (.tv j) (.cons (.tv l) .nil))) (cEs Γ n sc vs)
            | _, _, _ => bad)
          | _ => bad) else if noparB sc es vs = true ∧ noStar es = true ∧ lenC (cTs Γ n sc es) = es.length then .asg (.tt (cTs Γ n sc es)) (cE Γ n sc e) else bad
        | e => if noStar es = true ∧ lenC (cTs Γ n sc es) = es.length then .asg (.tt (cTs Γ n sc es)) (cE Γ n sc e) else bad)
      | [.Subscript o i p] => if sliceB i = true ∨ compB e = true then bad else .asg (.ts (cE Γ n sc o) (cE Γ n sc i)) (cE Γ n sc e)
      | _ => bad)
    | .Raise e fr _ => (match e, fr with
      | some (.Call (.Name x _) as [] _), none => if glB sc x = true ∧ nmOk x = true ∧ noStar as = true ∧ as ≠ [] then (match Γ.tb.lookup x with
        | some (.exc c np) => if as.length = np then .rai c (cEs Γ n sc as) else bad
        | _ => bad) else bad
      | _, _ => bad)
    | .Try body hs els fin _ => (match hs, els, fin with
      | [.ExceptHandler (some (.Name x _)) (some nm) (b :: su) _], [], [] => if glB sc x = true ∧ nmOk x = true ∧ nmOk nm = true ∧ sc.lookup nm = some .local then (match Γ.tb.lookup x, idx Γ.N nm with
        | some (.exc c _), some i => .tryS (cSs Γ n sc body) (.hdl c (some i) (cHSs Γ sc nm i n (b :: su)))
        | _, _ => bad) else bad
      | _, _, _ => bad)
    | _ => bad
def cSs (Γ : CE) : Nat → Sc → List Stmt → C
  | 0, _, _ => bad
  | n + 1, sc, sts => match sts with
    | [] => .nil
    | s :: r => .cons (cS Γ n sc s) (cSs Γ n sc r)
end
end TI
end
section
set_option maxHeartbeats 400000
/-! TC2: the text's code is sound: contexts. -/
namespace TI
open PySem L2
/-- own errors, of any context -/
structure Exs (B : Bs) (X : Cx) (tb : List (Str × GE)) : Prop where
  c : ∀ x c np, tb.lookup x = some (.exc c np) → X.mg x = some (.ref (B.G.ca c)) ∧ (np ≠ 0 → ∃ (fI : Addr) (fd : FuncData) (ps : List Str), ExcC B X c fI fd ps)
  no : ∀ a c d, ¬ B.G.ex a c d
  cs : B.cs = B.K.xf
  xm : ∀ c c' b, B.K.xm c c' = some b → PySem.W.exmOne X.K (.ref (B.G.ca c)) (.ref (B.G.ca c')) = some b
  fl : ∀ f, tb.lookup f = some .fld → ∀ c c', B.K.xm c c' = some true → XfC X.K (B.G.ca c) ∧ PySem.W.findIn X.K (.ref (B.G.ca c)) f = some none
structure Ct0 (B : Bs) (X : Cx) (Γ : CE) (sc : Sc) (k : Nat) : Prop where
  G : B.G.K = X.K
  nd : X.N.Nodup
  N : X.N = Γ.N
  calm : X.calm = true
  room : Room k X.A
  tk : Takes X B.W
  vis : ∀ x, visB sc x = true → Vis X.env.scope x
  loc : ∀ x, locB sc x = true → Loc X.env.scope x ∧ (X.fn x = true ∨ X.env.scope.names.lookup x = some .local)
  glo : ∀ x, glB sc x = true → Gl X x
  clf : ∀ x, (sc.lookup x = some .cell ∨ sc.lookup x = some .free) → X.env.scope.names.lookup x = some .cell ∨ X.env.scope.names.lookup x = some .free
  mgn : ∀ x, x ∈ bltNames → X.mg x = none
  key : ∀ x q, Γ.tb.lookup x = some (.key q) → ∃ u, X.mg x = some u ∧ RelV (kV q) u
  room2 : Room 2 X.A
  exs : Exs B X Γ.tb
  fns : ∀ x i np, Γ.tb.lookup x = some (.fn i np) → ∃ (fa : Addr) (fd : FuncData) (ps : List Str), X.mg x = some (.ref fa) ∧ PySem.W.keepIn X.K (.ref fa) = true ∧ Binds X.K fd ps [] ∧ FnOk X.prog X.w X.K X.mg X.base (L2.CX X.prog X.w) k fa fd ps (spOf B.G B.cs (B.K.cl i))
section
variable {B : Bs} {X : Cx} {Γ : CE} {sc : Sc} {k : Nat}
theorem idx_at {N : List Str} {x : Str} {i : Nat} (h : idx N x = some i) : N[i]? = some x := by
  unfold idx at h
  rw [List.findIdx?_eq_some_iff_getElem] at h
  obtain ⟨hi, e, _⟩ := h
  rw [List.getElem?_eq_getElem hi]
  exact congrArg some (of_decide_eq_true e)
theorem map_lookup {g : Str → NameKind → NameKind} : ∀ {ns : Sc} {x : Str}, (ns.map fun y => (y.1, g y.1 y.2)).lookup x = (ns.lookup x).map (g x)
  | [], _ => rfl
  | (n, q) :: r, x => by
    rw [List.map_cons, List.lookup_cons, List.lookup_cons]
    cases e : x == n with
    | true =>
      have : x = n := by simpa using e
      subst this
      rfl
    | false => exact map_lookup
/-- a block's names are relabelled alone from free to cell -/
def relK (env : PySem.Env) (n : Str) (q : NameKind) : NameKind := if (q == NameKind.free && env.scope.kind == ScopeKind.function && env.kindOf n == some NameKind.cell) = true then NameKind.cell else q
theorem rel_names (scope : Scope) (env : PySem.Env) : (relabel scope env).names = scope.names.map fun y => (y.1, relK env y.1 y.2) := by
  show (scope.names.map fun (n, k) => if (k == NameKind.free && env.scope.kind == ScopeKind.function && env.kindOf n == some NameKind.cell) then (n, NameKind.cell) else (n, k)) = _
  refine List.map_congr_left fun y _ => ?_
  obtain ⟨n, q⟩ := y
  unfold relK
  dsimp only
  split <;> rfl
theorem rel_lookup (scope : Scope) (env : PySem.Env) (x : Str) : (relabel scope env).names.lookup x = (scope.names.lookup x).map (relK env x) := by
  rw [rel_names]; exact map_lookup
theorem relK_ne {env : PySem.Env} {x : Str} {q : NameKind} (h : q ≠ .free) : relK env x q = q := by
  unfold relK
  cases q <;> first | exact absurd rfl h | rfl
/-- a comprehension's context -/
theorem Ct0.blk (ct : Ct0 B X Γ sc k) {scope : Scope} (hb : blkB Γ.N sc scope = true) (s : Shared) (H : Hp) (C : Addr) (cl : List (Str × Addr)) (fp : List Addr) : Ct0 B.calm (X.blk s H scope (compEnvC scope cl C X.env) fp) Γ scope.names k where
  G := ct.G
  nd := ct.nd
  N := ct.N
  calm := ct.calm
  room := ct.room
  tk := fun u s' ⟨_, _, _, _, _, _, _, _, _, _, _, _, _, _, _, _, w⟩ => w.elim
  vis := fun x h => by
    unfold visB at h
    show (relabel scope X.env).names.lookup x = _ ∨ (relabel scope X.env).names.lookup x = _ ∨ (relabel scope X.env).names.lookup x = _
    rw [rel_lookup]
    cases e : scope.names.lookup x with
    | none => rw [e] at h; cases h
    | some q =>
      rw [e] at h
      cases q with
      | «local» => exact .inl (by rw [Option.map_some, relK_ne (by decide)])
      | cell => exact .inr (.inl (by rw [Option.map_some, relK_ne (by decide)]))
      | free =>
        rw [Option.map_some]
        unfold relK
        split
        · exact .inr (.inl rfl)
        · exact .inr (.inr rfl)
      | _ => cases h
  loc := fun x h => by
    unfold locB at h
    have hl : (relabel scope X.env).names.lookup x = (scope.names.lookup x).map (relK X.env x) := rel_lookup scope X.env x
    cases e : scope.names.lookup x with
    | none => rw [e] at h; cases h
    | some q =>
      rw [e] at h hl
      cases q with
      | «local» =>
        rw [Option.map_some, relK_ne (by decide)] at hl
        exact ⟨.inl hl, .inr hl⟩
      | cell =>
        rw [Option.map_some, relK_ne (by decide)] at hl
        exact ⟨.inr hl, .inl (by show (scope.names.lookup x == some .cell) = true; rw [e]; rfl)⟩
      | _ => cases h
  glo := fun x h => by
    unfold glB at h
    show (relabel scope X.env).names.lookup x = _
    rw [rel_lookup]
    cases e : scope.names.lookup x with
    | none => rw [e] at h; cases h
    | some q =>
      rw [e] at h
      cases q with
      | globalImplicit => rw [Option.map_some, relK_ne (by decide)]
      | _ => cases h
  clf := fun x h => by
    show (relabel scope X.env).names.lookup x = _ ∨ (relabel scope X.env).names.lookup x = _
    rw [rel_lookup]
    rcases h with h | h
    · rw [h, Option.map_some, relK_ne (by decide)]; exact .inl rfl
    · rw [h, Option.map_some]
      unfold relK
      split
      · exact .inl rfl
      · exact .inr rfl
  mgn := ct.mgn
  key := ct.key
  room2 := ct.room2
  exs := ⟨fun x c np h => ⟨(ct.exs.c x c np h).1, fun hn => by
    obtain ⟨fI, fd, ps, E⟩ := (ct.exs.c x c np h).2 hn
    exact ⟨fI, fd, ps, ⟨E.T, E.iC, E.tI, E.F, E.b, E.no, E.cs, E.few⟩⟩⟩, ct.exs.no, ct.exs.cs, ct.exs.xm, ct.exs.fl⟩
  fns := ct.fns
theorem own_ix {N : List Str} {ns : Sc} {p : Str × Nat} (h : p ∈ ownOf N ns) : N[p.2]? = some p.1 := by
  unfold ownOf at h
  rw [List.mem_filterMap] at h
  obtain ⟨y, _, e⟩ := h
  have go : (idx N y.1).map (fun i => (y.1, i)) = some p → N[p.2]? = some p.1 := by
    intro e
    cases q : idx N y.1 with
    | none => rw [q] at e; cases e
    | some i => rw [q] at e; cases e; exact idx_at q
  cases q : y.2 <;> rw [q] at e <;> first | exact go e | cases e
theorem Ct0.blkOk (ct : Ct0 B X Γ sc k) {scope : Scope} (hb : blkB Γ.N sc scope = true) : BlkOk X.N X.env.scope scope (ownOf Γ.N scope.names) := by
  unfold blkB at hb
  simp only [Bool.and_eq_true, List.all_eq_true, decide_eq_true_eq] at hb
  obtain ⟨⟨h1, h2⟩, h4⟩ := hb
  refine ⟨h1, h2, fun p hp => by rw [ct.N]; exact own_ix hp, fun y hy e => ?_, fun y hy e => ?_⟩
  · have q := h4 y hy
    simp only [e] at q
    refine ct.clf y.1 ?_
    split at q <;> first | exact .inl (by assumption) | exact .inr (by assumption) | cases q
  · have q := h4 y hy
    rw [ct.N]
    rcases e with e | e <;> (simp only [e, Bool.or_eq_true, decide_eq_true_eq] at q; exact q)
/-! ### sides -/
theorem star_cons {e : Expr} {es : List Expr} {env : PySem.Env} (h : starB e = false) : starEach (e :: es) env = (false, eval e env) :: starEach es env := by
  cases e <;> first | rfl | cases h
theorem star_plain {pos : Pos} {env : PySem.Env} : ∀ {es : List Expr}, noStar es = true → (backTo pos (starEach es env)).any (·.1) = false
  | [], _ => rfl
  | e :: es, h => by
    have h' : (!starB e && noStar es) = true := h
    rw [Bool.and_eq_true] at h'
    rw [star_cons (by simpa using h'.1)]
    show ((false, _) :: backTo pos (starEach es env)).any (·.1) = false
    rw [List.any_cons, star_plain h'.2]; rfl
theorem base_eq {o : Expr} {m : Str} {env : PySem.Env} (h : baseB o = true) : attributeBase o m env (eval o env) = eval o env := by
  unfold attributeBase
  split
  · cases h
  · rfl
theorem fold_eq {e : Expr} {env : PySem.Env} (h : setB e = false) (x : Value) : foldedSetIterable e env x = pure x := by
  cases e <;> first | rfl | cases h
theorem marks_eq {o : CmpOp} {e : Expr} (h : setB e = false) : behindInMarks o e = false := by
  cases e <;> first | rfl | cases h
theorem plain_true {e : Expr} {env : PySem.Env} (h : plainB e = true) (w : Sem Value) : isTrue e env w = (do let v ← w; standAt e.pos; holding [v] (truthy v)) := by
  cases e with
  | UnaryOp op a p => cases op <;> first | rfl | cases h
  | _ => first | rfl | cases h
end
end TI
end
section
set_option maxHeartbeats 400000
/-! TC3: the text's code is sound: expressions. -/
namespace TI
open PySem L2
structure Sn (B : Bs) (X : Cx) (e : Expr) (c : C) : Prop where
  r : PE X e (tR B c)
  b : PT X e (tB B c)
  m : PE X e (tM B c)
  t : (ev c).t = (ev c).b
  i : (ev c).i = walkR (ev c).r
section
variable {B : Bs} {X : Cx} {Γ : CE} {sc : Sc} {k : Nat}
theorem Sn.of {e : Expr} {c : C} (hG : B.G.K = X.K) (h : PE X e (tR B c)) (hp : plainB e = true) (hb : (ev c).b = truR (ev c).r) (hm : (ev c).m = keepR (ev c).r) (ht : (ev c).t = (ev c).b) (hi : (ev c).i = walkR (ev c).r) : Sn B X e c :=
  ⟨h, s_truth hG hb h fun w => plain_true hp w, m_keep hm h, ht, hi⟩
theorem pe_false {e : Expr} {t : TE} (h : ∀ σ H Q, t σ H Q → False) : PE X e t := ⟨fun _ _ σ H Q _ w => (h σ H Q w).elim⟩
theorem Sn.bad {e : Expr} : Sn B X e bad :=
  ⟨⟨fun _ _ σ H Q _ ⟨_, _, _, _, _, _, _, w⟩ => (show False from w).elim⟩, ⟨fun _ _ σ H Q _ ⟨_, _, _, _, _, _, _, w⟩ => (show False from w).elim⟩, ⟨fun _ _ σ H Q _ ⟨_, _, _, _, _, _, _, w⟩ => (show False from w).elim⟩, rfl, rfl⟩
/-- several -/
structure SnL (B : Bs) (X : Cx) (es : List Expr) (c : C) : Prop where
  l : PA X es (tL B c)
  v : PA X es (tV B c)
  n : PA X es (tNs B c)
theorem SnL.bad {es : List Expr} : SnL B X es bad :=
  ⟨⟨fun _ _ _ σ H Q _ ⟨_, _, _, _, _, _, _, w⟩ => (show False from w).elim⟩, ⟨fun _ _ _ σ H Q _ ⟨_, _, _, _, _, _, _, w⟩ => (show False from w).elim⟩, ⟨fun _ _ _ σ H Q _ ⟨_, _, _, _, _, _, _, w⟩ => (show False from w).elim⟩⟩
theorem pg_bad {e : Expr} : PG X e (tA B bad) := ⟨fun _ _ _ _ _ _ _ _ _ ⟨_, _, _, _, _, _, _, _, _, _, w⟩ => (show False from w).elim⟩
theorem pgs_bad {es : List Expr} : PGs X es (tAl B bad) := ⟨fun _ _ _ _ _ _ _ _ _ ⟨_, _, _, _, _, _, _, _, _, _, w⟩ => (show False from w).elim⟩
theorem pi_bad {tg e : Expr} : PI X tg e (tI B bad) := ⟨fun _ _ _ _ _ _ ⟨_, _, _, _, _, _, _, w⟩ => (show False from w).elim⟩
theorem po_bad {e : Option Expr} : PO X e (tO B bad) := ⟨fun _ _ _ _ _ _ ⟨_, _, _, _, _, _, _, w⟩ => (show False from w).elim⟩
theorem nm_ok {x : Str} (h : nmOk x = true) : (x == ("__debug__" : Str)) = false ∧ (x == ("__classdict__" : Str)) = false ∧ x ≠ "__name__" := by
  unfold nmOk at h
  rw [Bool.and_eq_true, Bool.and_eq_true] at h
  obtain ⟨⟨h1, h2⟩, h3⟩ := h
  exact ⟨by simpa using h1, by simpa using h2, by simpa using h3⟩
theorem bop_ok (hG : B.G.K = X.K) {o : Operator} {b : BO} (h : bop o = some b) : OpR X (binaryOp o) (rT2 B (binT b)) := by
  cases o <;> cases h <;> first | exact o_add hG | exact o_sub | exact o_mul hG | exact o_fdiv | exact o_mod | exact o_pow
theorem cop_ok (hG : B.G.K = X.K) (hr : Room k X.A) (o : CmpOp) : OpR X (compareOp o) (rT2 B fun t u => (cmpT (cop o) t u).map .bl) := by
  cases o
  · exact o_eq hG hr
  · exact o_ne hG hr
  · exact o_lt
  · exact o_le
  · exact o_gt
  · exact o_ge
  · exact o_isN
  · exact o_notN
  · exact o_inn hG hr
  · exact o_nin hG hr
/-- a slice is no plain index -/
theorem ix_plain {e : Expr} (h : sliceB e = false) : PlainIx e := by
  intro o i
  cases e <;> first | rfl | cases h
theorem blt_mem {x : Str} {n : Nat} {b : Bi} (h : biOf x n = some b) : x ∈ bltNames := by
  unfold biOf at h
  repeat' (split at h)
  all_goals first | cases h; done | skip
  all_goals (rename_i hx; rw [hx.1]; decide)
theorem bi_call (ct : Ct0 B X Γ sc k) {x : Str} {n : Nat} {b : Bi} (h : biOf x n = some b) (hg : Gl X x) (hok : nmOk x = true) {e : Expr} {es : List Expr} {c : C} {p pos : Pos} (ha : PA X (e :: es) (tL B c)) (he : starB e = false) (hes : noStar es = true) : PE X (.Call (.Name x p) (e :: es) [] pos) (tR B (.bi b c)) := by
  obtain ⟨h1, h2, h3⟩ := nm_ok hok
  have hm := ct.mgn x (blt_mem h)
  unfold biOf at h
  split at h
  · rename_i hx; cases h; obtain ⟨rfl, _⟩ := hx; exact s_biB (c_len ct.G) hg hm rfl ha h3 h1 (star_cons he) (star_plain hes)
  split at h
  · rename_i hx; cases h; obtain ⟨rfl, _⟩ := hx; exact s_biT (c_list ct.G) hg hm rfl ha h3 h1 (star_cons he) (star_plain hes)
  split at h
  · rename_i hx; cases h; obtain ⟨rfl, _⟩ := hx; exact s_biT (c_tuple ct.G) hg hm rfl ha h3 h1 (star_cons he) (star_plain hes)
  split at h
  · rename_i hx; cases h; obtain ⟨rfl, _⟩ := hx; exact s_biB (c_min2 ct.calm) hg hm rfl ha h3 h1 (star_cons he) (star_plain hes)
  split at h
  · rename_i hx; cases h; obtain ⟨rfl, _⟩ := hx; exact s_biB (c_max2 ct.calm) hg hm rfl ha h3 h1 (star_cons he) (star_plain hes)
  split at h
  · rename_i hx; cases h; obtain ⟨rfl, _⟩ := hx; exact s_biB (c_all ct.calm) hg hm rfl ha h3 h1 (star_cons he) (star_plain hes)
  split at h
  · rename_i hx; cases h; obtain ⟨rfl, _⟩ := hx; exact s_biB (c_any ct.calm) hg hm rfl ha h3 h1 (star_cons he) (star_plain hes)
  split at h
  · rename_i hx; cases h; obtain ⟨rfl, _⟩ := hx; exact s_biB (c_sum ct.calm) hg hm rfl ha h3 h1 (star_cons he) (star_plain hes)
  split at h
  · rename_i hx; cases h; obtain ⟨rfl, _⟩ := hx; exact s_biT c_int hg hm rfl ha h3 h1 (star_cons he) (star_plain hes)
  cases h
/-- names of built-in classes -/
theorem cl_ok (ct : Ct0 B X Γ sc k) {x : Str} {c : Cl} (h : clOf x = some c) (hg : glB sc x = true) : ∃ b : Ty, clY c = some b ∧ Gl X x ∧ X.mg x = none ∧ bootBuiltins x = some (.type b.name) ∧ x ≠ "__name__" ∧ (x == ("__debug__" : Str)) = false := by
  have g := ct.glo x hg
  unfold clOf at h
  split at h
  · rename_i hx; cases h; subst hx; exact ⟨.int, rfl, g, ct.mgn _ (by decide), rfl, by decide, by decide⟩
  split at h
  · rename_i hx; cases h; subst hx; exact ⟨.bool, rfl, g, ct.mgn _ (by decide), rfl, by decide, by decide⟩
  split at h
  · rename_i hx; cases h; subst hx; exact ⟨.str, rfl, g, ct.mgn _ (by decide), rfl, by decide, by decide⟩
  split at h
  · rename_i hx; cases h; subst hx; exact ⟨.tuple, rfl, g, ct.mgn _ (by decide), rfl, by decide, by decide⟩
  split at h
  · rename_i hx; cases h; subst hx; exact ⟨.list, rfl, g, ct.mgn _ (by decide), rfl, by decide, by decide⟩
  split at h
  · rename_i hx; cases h; subst hx; exact ⟨.dict, rfl, g, ct.mgn _ (by decide), rfl, by decide, by decide⟩
  cases h
theorem cls_ok (ct : Ct0 B X Γ sc k) : ∀ {es : List Expr} {cs : List Cl}, clsOf sc es = some cs → ∃ bs : List Ty, cs.map clY = bs.map some ∧ TyNs X es bs ∧ bs.length = es.length
  | [], cs, h => by cases h; exact ⟨[], rfl, .nil, rfl⟩
  | e :: es, cs, h => by
    cases e with
    | Name x p =>
      have h' : (if glB sc x = true then (match clOf x, clsOf sc es with | some c, some cs => some (c :: cs) | _, _ => none) else none) = some cs := h
      split at h'
      · rename_i hg
        cases e1 : clOf x with
        | none => rw [e1] at h'; cases h'
        | some c =>
          cases e2 : clsOf sc es with
          | none => rw [e1, e2] at h'; cases h'
          | some cs' =>
            rw [e1, e2] at h'; cases h'
            obtain ⟨b, b1, b2, b3, b4, b5, b6⟩ := cl_ok ct e1 hg
            obtain ⟨bs, c1, c2, c3⟩ := cls_ok ct e2
            exact ⟨b :: bs, by rw [List.map_cons, List.map_cons, b1, c1], .cons b2 b3 b4 b5 b6 c2, by rw [List.length_cons, List.length_cons, c3]⟩
      · cases h'
    | _ => cases h
end
end TI
end
section
set_option maxHeartbeats 400000
/-! TC4: the text's code is sound: expressions, all. -/
namespace TI
open PySem L2
section
variable {B : Bs} {X : Cx} {Γ : CE} {sc : Sc} {k : Nat}
theorem mm_call {m : Mm} {id : String} {nm : Str} {o e : Expr} {a c : C} {apos pos : Pos} (slot : Slot "list" nm id) (hty : typeOf (.builtin id) = pure (.type "method_descriptor")) (hm : MtM X id (rM B m)) (ho : PE X o (tR B a)) (ha : PA X [e] (tV B (.cons c .nil))) (hb : baseB o = true) (hl : (apos.endLine == pos.line) = true) (he : starB e = false) :
    PE X (.Call (.Attribute o nm apos) [e] [] pos) (tR B (.mm m a (.cons c .nil))) :=
  (pe_bm PySem.F.plainAttrs_list slot hty hm ho ha (base_eq hb) (by rw [star_cons he]; rfl) hl (star_cons he) rfl).tim fun σ H Q h => s_mm0 h
theorem sound_nil : SnL B X [] .nil := ⟨s_nilL, s_nilV, n_nil⟩
theorem sound_cons {e : Expr} {es : List Expr} {a c : C} (h : Sn B X e a) (hs : SnL B X es c) (he : starB e = false) : SnL B X (e :: es) (.cons a c) :=
  ⟨s_consL h.r hs.l (star_cons he), s_consV h.r hs.v (star_cons he), n_cons h.m hs.n (star_cons he)⟩
/-- what is promised at a fuel -/
structure Sd (Γ : CE) (n : Nat) : Prop where
  e : ∀ {B : Bs} {X : Cx} {sc : Sc} {k : Nat} (e : Expr), Ct0 B X Γ sc k → Sn B X e (cE Γ n sc e)
  es : ∀ {B : Bs} {X : Cx} {sc : Sc} {k : Nat} (es : List Expr), Ct0 B X Γ sc k → noStar es = true → SnL B X es (cEs Γ n sc es)
  bo : ∀ {B : Bs} {X : Cx} {sc : Sc} {k : Nat} (op : BoolOp) (x : Expr) (vs : List Expr) (pos : Pos), Ct0 B X Γ sc k → PE X (.BoolOp op (x :: vs) pos) (tR B (cBo Γ n sc op x vs)) ∧ PW X (.BoolOp op (x :: vs) pos) (tB B (cBo Γ n sc op x vs))
  o : ∀ {B : Bs} {X : Cx} {sc : Sc} {k : Nat} (e : Option Expr), Ct0 B X Γ sc k → PO X e (tO B (cO Γ n sc e))
  f : ∀ {B : Bs} {X : Cx} {sc : Sc} {k : Nat} (vs : List Expr) (c : C), Ct0 B X Γ sc k → cF Γ n sc vs = some c → PJ X vs (tFs B c)
  t : ∀ {B : Bs} {X : Cx} {sc : Sc} {k : Nat} (e : Expr), Ct0 B X Γ sc k → PG X e (tA B (cT Γ n sc e))
  ts : ∀ {B : Bs} {X : Cx} {sc : Sc} {k : Nat} (es : List Expr), Ct0 B X Γ sc k → noStar es = true → PGs X es (tAl B (cTs Γ n sc es))
  i : ∀ {B : Bs} {X : Cx} {sc : Sc} {k : Nat} (tg e : Expr), Ct0 B X Γ sc k → PI X tg e (tI B (cI Γ n sc tg e))
theorem pw_bad {e : Expr} : PW X e (tB B bad) := ⟨fun _ _ _ σ H Q _ ⟨_, _, _, _, _, _, _, w⟩ => (show False from w).elim⟩
theorem sound0 : Sd Γ 0 where
  e := fun _ _ => .bad
  es := fun _ _ _ => .bad
  bo := fun _ _ _ _ _ => ⟨Sn.bad.r, pw_bad⟩
  o := fun _ _ => po_bad
  f := fun _ _ _ h => by cases h
  t := fun _ _ => pg_bad
  ts := fun _ _ _ => pgs_bad
  i := fun _ _ _ => pi_bad
theorem assign_cons {e : Expr} {es : List Expr} {env : PySem.Env} (h : starB e = false) : (assignEach (e :: es) env) = (false, assign e env) :: assignEach es env := by
  cases e <;> first | rfl | cases h
theorem assign_len {env : PySem.Env} : ∀ {es : List Expr}, noStar es = true → (assignEach es env).length = es.length ∧ (assignEach es env).findIdx? (·.1) = none
  | [], _ => ⟨rfl, rfl⟩
  | e :: es, h => by
    have h' : (!starB e && noStar es) = true := h
    rw [Bool.and_eq_true] at h'
    rw [assign_cons (by simpa using h'.1)]
    obtain ⟨h1, h2⟩ := assign_len (env := env) h'.2
    exact ⟨by rw [List.length_cons, List.length_cons, h1], by rw [List.findIdx?_cons, h2]; rfl⟩
theorem noStar_cons {e : Expr} {es : List Expr} (h : noStar (e :: es) = true) : starB e = false ∧ noStar es = true := by
  have h' : (!starB e && noStar es) = true := h
  rw [Bool.and_eq_true] at h'
  exact ⟨by simpa using h'.1, h'.2⟩
theorem snd_es {n : Nat} (h : Sd Γ n) {B : Bs} {X : Cx} {sc : Sc} {k : Nat} (es : List Expr) (ct : Ct0 B X Γ sc k) (hs : noStar es = true) : SnL B X es (cEs Γ (n + 1) sc es) := by
  cases es with
  | nil => exact sound_nil
  | cons e es =>
    obtain ⟨h1, h2⟩ := noStar_cons hs
    exact sound_cons (h.e e ct) (h.es es ct h2) h1
theorem snd_bo {n : Nat} (h : Sd Γ n) {B : Bs} {X : Cx} {sc : Sc} {k : Nat} (op : BoolOp) (x : Expr) (vs : List Expr) (pos : Pos) (ct : Ct0 B X Γ sc k) : PE X (.BoolOp op (x :: vs) pos) (tR B (cBo Γ (n + 1) sc op x vs)) ∧ PW X (.BoolOp op (x :: vs) pos) (tB B (cBo Γ (n + 1) sc op x vs)) := by
  cases vs with
  | nil =>
    refine ⟨pe_one (h.e x ct).r, ?_⟩
    cases op with
    | And => exact pw_and1 (h.e x ct).b
    | Or => exact pw_or1 (h.e x ct).b
  | cons y r =>
    cases op with
    | And => exact ⟨s_and (h.e x ct).r (h.bo .And y r pos ct).1, s_andB (h.e x ct).b (h.bo .And y r pos ct).2⟩
    | Or => exact ⟨s_or (h.e x ct).r (h.bo .Or y r pos ct).1, s_orB (h.e x ct).b (h.bo .Or y r pos ct).2⟩
theorem snd_o {n : Nat} (h : Sd Γ n) {B : Bs} {X : Cx} {sc : Sc} {k : Nat} (e : Option Expr) (ct : Ct0 B X Γ sc k) : PO X e (tO B (cO Γ (n + 1) sc e)) := by
  cases e with
  | none => exact s_noPart
  | some e => exact s_part (h.e e ct).r
theorem snd_f {n : Nat} (h : Sd Γ n) {B : Bs} {X : Cx} {sc : Sc} {k : Nat} (vs : List Expr) (c : C) (ct : Ct0 B X Γ sc k) (hc : cF Γ (n + 1) sc vs = some c) : PJ X vs (tFs B c) := by
  cases vs with
  | nil => cases hc; exact .nil
  | cons v r =>
    cases er : cF Γ n sc r with
    | none =>
      have hc' : (match cF Γ n sc r with
        | none => (none : Option C)
        | some c => some c) = none := by rw [er]
      exfalso
      have : cF Γ (n + 1) sc (v :: r) = none := by
        show (match cF Γ n sc r with
          | none => none
          | some c => _) = none
        rw [er]
      rw [this] at hc; cases hc
    | some cr =>
      have ih := h.f r cr ct er
      have none_case : ∀ {v : Expr}, (cF Γ (n + 1) sc (v :: r) = (match cF Γ n sc r with | none => none | some _ => (none : Option C))) → cF Γ (n + 1) sc (v :: r) = some c → False := fun e1 e2 => by
        rw [e1, er] at e2; cases e2
      cases v with
      | Constant q kk p =>
        cases q with
        | str s =>
          have e : (match cF Γ n sc r with | none => none | some c => some (C.cons (.str s) c)) = some c := hc
          rw [er] at e; cases e
          exact .cons s_fconst ih
        | _ => exact (none_case rfl hc).elim
      | FormattedValue e kk f p =>
        cases f with
        | none =>
          have e : (match cF Γ n sc r with | none => none | some c => if kk = -1 then some (C.cons (cE Γ n sc e) c) else none) = some c := hc
          rw [er] at e
          dsimp only at e
          split at e
          · rename_i hk
            subst hk
            cases e
            exact .cons (s_fpart (h.e _ ct).r) ih
          · cases e
        | some f =>
          have e : (match cF Γ n sc r with | none => none | some c => if kk = -1 then (none : Option C) else none) = some c := hc
          rw [er] at e
          dsimp only at e
          split at e <;> cases e
      | _ => exact (none_case rfl hc).elim
theorem snd_t {n : Nat} (h : Sd Γ n) {B : Bs} {X : Cx} {sc : Sc} {k : Nat} (e : Expr) (ct : Ct0 B X Γ sc k) : PG X e (tA B (cT Γ (n + 1) sc e)) := by
  cases e with
  | Name x p =>
    show PG X (.Name x p) (tA B (if locB sc x = true then (match idx Γ.N x with | some i => .tv i | none => bad) else bad))
    split
    · rename_i hl
      cases ei : idx Γ.N x with
      | none => exact pg_bad
      | some i =>
        obtain ⟨h1, h2⟩ := ct.loc x hl
        exact g_name ct.nd (by rw [ct.N]; exact idx_at ei) h1 h2
    · exact pg_bad
  | Tuple es q p =>
    show PG X (.Tuple es q p) (tA B (if noStar es = true ∧ lenC (cTs Γ n sc es) = es.length then .tt (cTs Γ n sc es) else bad))
    split
    · rename_i hs
      obtain ⟨l1, l2⟩ := assign_len (env := X.env) hs.1
      exact g_tt ct.G ct.calm (h.ts es ct hs.1) (by rw [l1, hs.2]) l2
    · exact pg_bad
  | Subscript o i p =>
    show PG X (.Subscript o i p) (tA B (if sliceB i = true then bad else .ts (cE Γ n sc o) (cE Γ n sc i)))
    split
    · exact pg_bad
    · rename_i hsl
      exact g_ts (h.e o ct).r (h.e i ct).r fun v => by cases i <;> first | rfl | exact absurd rfl hsl
  | _ => exact pg_bad
theorem snd_ts {n : Nat} (h : Sd Γ n) {B : Bs} {X : Cx} {sc : Sc} {k : Nat} (es : List Expr) (ct : Ct0 B X Γ sc k) (hs : noStar es = true) : PGs X es (tAl B (cTs Γ (n + 1) sc es)) := by
  cases es with
  | nil => exact g_nil
  | cons e es =>
    obtain ⟨h1, h2⟩ := noStar_cons hs
    exact g_cons (h.t e ct) (h.ts es ct h2) (by rw [assign_cons h1]; rfl)
theorem str_ne {x y : Str} (h : ¬ x = y) : True := trivial
theorem snd_i {n : Nat} (h : Sd Γ n) {B : Bs} {X : Cx} {sc : Sc} {k : Nat} (tg e : Expr) (ct : Ct0 B X Γ sc k) : PI X tg e (tI B (cI Γ (n + 1) sc tg e)) := by
  have one : PI X tg e (tI B (cE Γ n sc e)) := s_one ct.G (h.e e ct).i (h.e e ct).r
  cases e with
  | Call f as ks p =>
    cases f with
    | Name x px =>
      cases ks with
      | cons _ _ => exact one
      | nil =>
        show PI X tg (.Call (.Name x px) as [] p) (tI B (if glB sc x = true ∧ noStar as = true ∧ (x = ("range" : Str) ∨ x = ("enumerate" : Str) ∨ x = ("zip" : Str)) then (match (generalizing := false) as with
          | [a] => if x = ("range" : Str) then .itR1 (cE Γ n sc a) else if x = ("enumerate" : Str) ∧ tupB tg = true then .itE (cE Γ n sc a) else bad
          | [a, b] => if x = ("range" : Str) then .itR2 (cE Γ n sc a) (cE Γ n sc b) else if x = ("zip" : Str) ∧ tupB tg = true then .itZ false (cEs Γ n sc [a, b]) else bad
          | _ => bad) else cE Γ n sc (.Call (.Name x px) as [] p)))
        split
        · rename_i hc
          obtain ⟨hg, hs, hx⟩ := hc
          have g := ct.glo x hg
          cases as with
          | nil => exact pi_bad
          | cons a as =>
            obtain ⟨ha, hs2⟩ := noStar_cons hs
            cases as with
            | nil =>
              dsimp only
              split
              · rename_i hr
                subst hr
                exact s_range1 g (ct.mgn _ (by decide)) (h.e a ct).r (star_cons ha)
              · split
                · rename_i hr
                  obtain ⟨rfl, ht⟩ := hr
                  cases tg with
                  | Tuple es q pt => exact s_enum ct.G g (ct.mgn _ (by decide)) (h.e a ct).r (star_cons ha)
                  | _ => cases ht
                · exact pi_bad
            | cons b as =>
              obtain ⟨hb, hs3⟩ := noStar_cons hs2
              cases as with
              | cons _ _ => exact pi_bad
              | nil =>
                dsimp only
                split
                · rename_i hr
                  subst hr
                  exact s_range2 g (ct.mgn _ (by decide)) (h.e a ct).r (h.e b ct).r (by rw [star_cons ha, star_cons hb]; rfl) (star_cons hb)
                · split
                  · rename_i hr
                    obtain ⟨rfl, ht⟩ := hr
                    cases tg with
                    | Tuple es q pt => exact s_zip ct.G g (ct.mgn _ (by decide)) (h.es [a, b] ct hs).l (star_cons ha) (star_plain hs2)
                    | _ => cases ht
                  · exact pi_bad
        · exact one
    | _ => cases ks <;> exact one
  | _ => exact one
end
end TI
end
section
set_option maxHeartbeats 400000
/-! TC5: the text's code is sound: every expression. -/
namespace TI
open PySem L2
section
variable {B : Bs} {X : Cx} {Γ : CE} {sc : Sc} {k : Nat}
theorem pj_ne {vs : List Expr} {c : C} (h : PJ X vs (tFs B c)) : True := trivial
theorem s_fs {vs : List Expr} {c : C} {pos : Pos} (hne : vs ≠ []) (h : PJ X vs (tFs B c)) : PE X (.JoinedStr vs pos) (tR B (.fstr c)) := by
  cases vs with
  | nil => exact absurd rfl hne
  | cons v1 r =>
    cases r with
    | cons v2 r => exact s_fstr h
    | nil =>
      cases c with
      | cons a cr =>
        have hr : tFs B cr = [] := by
          cases h with
          | cons h1 h2 => generalize tFs B cr = ts at h2; cases h2; rfl
        have h1 : PE X v1 (tFmt (tR B a)) := by cases h with | cons h1 h2 => exact h1
        refine (pe_joined1 h1).tim fun σ H Q ⟨lc, pn, Y, env, F, Z, r, h⟩ => ?_
        have e0 : ∀ z : Str, Str.empty ++ z = z := fun z => by
          cases z with
          | mk a => show Str.mk (#[] ++ a) = _; simp
        have h1 := fs_run (f := fun out e => .ok (.tmp (.str out)) e) (VR := VR1 B.G σ) (Q := Q) (lc := lc) (pn := pn) (P := fun out H1 => Q (.str out) H1) (fun out e H' F' Z' a h => h (.str out) H' F' Z' none_ a rfl) (.cons a cr) Str.empty env F Z H (Aft.refl r) h
        have h2 : tJs (tFmt (tR B a) :: tFs B cr) Str.empty σ H (fun out H1 => Q (.str out) H1) := h1
        rw [hr] at h2
        have h2 : tFmt (tR B a) σ H (fun x H1 => ∃ y : Str, x = .str y ∧ (Str.empty ++ y).length ≤ sizeLine ∧ Q (.str (Str.empty ++ y)) H1) := h2
        unfold tFmt at h2 ⊢
        refine tG.mono h2 fun x H1 h3 => ?_
        rcases h3 with ⟨y, e, hy, z, ez, hz, q⟩ | ⟨i, e, hy, z, ez, hz, q⟩
        · cases ez; rw [e0] at q; exact .inl ⟨y, e, hy, q⟩
        · cases ez; rw [e0] at q; exact .inr ⟨i, e, hy, q⟩
      | nil => cases h
      | asg tg e => cases h
      | aug op tg e => cases h
      | _ => cases h
theorem snd_name {n : Nat} {x : Str} {p : Pos} (ct : Ct0 B X Γ sc k) : Sn B X (.Name x p) (cE Γ (n + 1) sc (.Name x p)) := by
  show Sn B X (.Name x p) (if nmOk x = true then (if visB sc x = true then (match idx Γ.N x with
        | some i => .var i
        | none => bad) else if glB sc x = true then (match Γ.tb.lookup x with
        | some (.key k) => .glb x k
        | _ => bad) else bad) else bad)
  split
  · rename_i hok
    obtain ⟨h1, h2, h3⟩ := nm_ok hok
    split
    · rename_i hv
      cases ei : idx Γ.N x with
      | none => exact .bad
      | some i =>
        have hN : X.N[i]? = some x := by rw [ct.N]; exact idx_at ei
        have hr : PE X (.Name x p) (tR B (.var i)) := s_var hN (ct.vis x hv) h1 h2
        exact ⟨hr, s_truth ct.G rfl hr fun w => rfl, m_var hN (ct.vis x hv) h1 h2, rfl, rfl⟩
    · split
      · rename_i hg
        cases et : Γ.tb.lookup x with
        | none => exact .bad
        | some g =>
          cases g with
          | fn _ _ => exact .bad
          | exc _ _ => exact .bad
          | fld => exact .bad
          | key q =>
            obtain ⟨u, hu, hr⟩ := ct.key x q et
            exact .of ct.G (s_glb (ct.glo x hg) hu hr h1) rfl rfl rfl rfl rfl
      · exact .bad
  · exact .bad
theorem snd_tuple {n : Nat} (h : Sd Γ n) {es : List Expr} {q : Nat} {p : Pos} (ct : Ct0 B X Γ sc k) : Sn B X (.Tuple es q p) (cE Γ (n + 1) sc (.Tuple es q p)) := by
  show Sn B X (.Tuple es q p) (if noStar es = true then .tup (cEs Γ n sc es) else bad)
  split
  · rename_i hs
    have hl := h.es es ct hs
    have hr : PE X (.Tuple es q p) (tR B (.tup (cEs Γ n sc es))) := s_tup hl.v
    exact ⟨hr, s_truth ct.G rfl hr fun w => rfl, m_tup hl.n, rfl, rfl⟩
  · exact .bad
theorem snd_cmp {n : Nat} (h : Sd Γ n) {a : Expr} {ops : List CmpOp} {cs : List Expr} {p : Pos} (ct : Ct0 B X Γ sc k) : Sn B X (.Compare a ops cs p) (cE Γ (n + 1) sc (.Compare a ops cs p)) := by
  cases ops with
  | nil => exact .bad
  | cons o ops =>
    cases ops with
    | nil =>
      cases cs with
      | nil => exact .bad
      | cons b cs =>
        cases cs with
        | cons _ _ => exact .bad
        | nil =>
          show Sn B X (.Compare a [o] [b] p) (if setB b = true then bad else .cmp (cop o) (cE Γ n sc a) (cE Γ n sc b))
          split
          · exact .bad
          · rename_i hs
            have hs' : setB b = false := by simpa using hs
            have ho := cop_ok (B := B) ct.G ct.room o
            have hr := s_cmp (pos := p) ho (h.e a ct).r (h.e b ct).r (marks_eq hs')
            exact ⟨hr, s_cmpB ct.G ho (h.e a ct).r (h.e b ct).r (marks_eq hs'), m_keep rfl hr, rfl, rfl⟩
    | cons o' ops =>
      cases ops with
      | cons _ _ =>
        cases cs with
        | nil => exact .bad
        | cons b cs =>
          cases cs with
          | nil => exact .bad
          | cons c cs => exact .bad
      | nil =>
        cases cs with
        | nil => exact .bad
        | cons b cs =>
          cases cs with
          | nil => exact .bad
          | cons c cs =>
            cases cs with
            | cons _ _ => exact .bad
            | nil =>
              show Sn B X (.Compare a [o, o'] [b, c] p) (if setB c = true then bad else .chain (cop o) (cop o') (cE Γ n sc a) (cE Γ n sc b) (cE Γ n sc c))
              split
              · exact .bad
              · rename_i hs
                have hs' : setB c = false := by simpa using hs
                have ho := cop_ok (B := B) ct.G ct.room o
                have ho' := cop_ok (B := B) ct.G ct.room o'
                have hm : lastMarks [o, o'] [b, c] = false := marks_eq (o := o') hs'
                have hr := s_chain (pos := p) ho ho' (h.e a ct).r (h.e b ct).r (h.e c ct).r hm
                exact ⟨hr, s_chainB ct.G ho ho' (h.e a ct).r (h.e b ct).r (h.e c ct).r hm, m_keep rfl hr, rfl, rfl⟩
theorem snd_lc {n : Nat} (h : Sd Γ n) {elt : Expr} {gs : List Comprehension} {scope : Scope} {p : Pos} (ct : Ct0 B X Γ sc k) : Sn B X (.ListComp elt gs scope p) (cE Γ (n + 1) sc (.ListComp elt gs scope p)) := by
  cases gs with
  | nil => exact .bad
  | cons g gs =>
    cases gs with
    | cons _ _ => obtain ⟨tg, it, ifs, q⟩ := g; exact .bad
    | nil =>
      obtain ⟨tg, it, ifs, q⟩ := g
      show Sn B X (.ListComp elt [⟨tg, it, ifs, q⟩] scope p) (if q = 0 ∧ blkB Γ.N sc scope = true ∧ setB it = false then (match (generalizing := false) ifs with
          | [] => .lc ((ownOf Γ.N scope.names).map (·.2)) (cT Γ n scope.names tg) (cI Γ n sc tg it) .nil (cE Γ n scope.names elt)
          | [t] => .lc ((ownOf Γ.N scope.names).map (·.2)) (cT Γ n scope.names tg) (cI Γ n sc tg it) (cE Γ n scope.names t) (cE Γ n scope.names elt)
          | _ => bad) else bad)
      split
      · rename_i hc
        obtain ⟨rfl, hb, hs⟩ := hc
        have ok := ct.blkOk hb
        have cb := fun (s : Shared) (H : Hp) (C : Addr) (cl : List (Str × Addr)) (fp : List Addr) => ct.blk hb s H C cl fp
        cases ifs with
        | nil =>
          exact .of ct.G (s_lc ct.calm ct.nd (h.i tg it ct) ok (fun s H C cl fp => h.t tg (cb s H C cl fp)) (fun s H C cl fp => ts_nil) (fun s H C cl fp => (h.e elt (cb s H C cl fp)).r) (fold_eq hs)) rfl rfl rfl rfl rfl
        | cons t ifs =>
          cases ifs with
          | cons _ _ => exact .bad
          | nil =>
            exact .of ct.G (s_lc ct.calm ct.nd (h.i tg it ct) ok (fun s H C cl fp => h.t tg (cb s H C cl fp)) (fun s H C cl fp => ts_one (h.e t (cb s H C cl fp)).t (h.e t (cb s H C cl fp)).b) (fun s H C cl fp => (h.e elt (cb s H C cl fp)).r) (fold_eq hs)) rfl rfl rfl rfl rfl
      · exact .bad
theorem snd_sub {n : Nat} (h : Sd Γ n) {a i : Expr} {p : Pos} (ct : Ct0 B X Γ sc k) : Sn B X (.Subscript a i p) (cE Γ (n + 1) sc (.Subscript a i p)) := by
  have plain : sliceB i = false → Sn B X (.Subscript a i p) (.ix (cE Γ n sc a) (cE Γ n sc i)) := fun hs => .of ct.G (s_ix ct.G (h.e a ct).r (h.e i ct).r (ix_plain hs)) rfl rfl rfl rfl rfl
  cases i with
  | Slice lo hi st p2 =>
    cases st with
    | none => exact .of ct.G (s_slc ct.G (h.e a ct).r (h.o lo ct) (h.o hi ct)) rfl rfl rfl rfl rfl
    | some s =>
      cases lo with
      | some _ => exact .bad
      | none =>
        cases hi with
        | some _ => exact .bad
        | none => exact .of ct.G (s_sls (h.e a ct).r (h.e s ct).r) rfl rfl rfl rfl rfl
  | _ => exact plain rfl
theorem setArg_ok {x : Str} {as : List Expr} {a : Expr} (h : setArg sc x as = some a) : ∃ p2 q, x = ("len" : Str) ∧ as = [.Call (.Name "set" p2) [a] [] q] ∧ glB sc "set" = true ∧ starB a = false := by
  unfold setArg at h
  split at h
  · rename_i y p2 a' q
    split at h
    · rename_i hc
      obtain ⟨h1, h2, h3, h4⟩ := hc
      cases h
      subst h2
      exact ⟨p2, q, h1, rfl, h3, h4⟩
    · cases h
  · cases h
theorem snd_call {n : Nat} (h : Sd Γ n) {f : Expr} {as : List Expr} {ks : List Keyword} {p : Pos} (ct : Ct0 B X Γ sc k) : Sn B X (.Call f as ks p) (cE Γ (n + 1) sc (.Call f as ks p)) := by
  cases ks with
  | cons _ _ => exact .bad
  | nil =>
    cases f with
    | Name x px =>
      show Sn B X (.Call (.Name x px) as [] p) (if glB sc x = true ∧ nmOk x = true ∧ noStar as = true ∧ as ≠ [] then (match (generalizing := false) Γ.tb.lookup x with
            | some (.fn i np) => if as.length = np then .call i (cEs Γ n sc as) else bad
            | some _ => bad
            | none => (match (generalizing := false) setArg sc x as with
             | some a => .bi .setlen (cEs Γ n sc [a])
             | none => (match (generalizing := false) biOf x as.length with
              | some b => .bi b (cEs Γ n sc as)
              | none => if x = ("isinstance" : Str) then (match (generalizing := false) as with
                  | [a, .Name t _] => (match (generalizing := false) clsOf sc [.Name t ⟨0, 0, 0, 0⟩] with
                    | some [c] => .isi (cE Γ n sc a) [c]
                    | _ => bad)
                  | [a, .Tuple ts _ _] => (match (generalizing := false) clsOf sc ts with
                    | some (c :: cs) => if ts.length ≤ 100 then .isi (cE Γ n sc a) (c :: cs) else bad
                    | _ => bad)
                  | _ => bad) else bad))) else bad)
      split
      · rename_i hc
        obtain ⟨hg, hok, hs, hne⟩ := hc
        have g := ct.glo x hg
        obtain ⟨n1, n2, n3⟩ := nm_ok hok
        cases as with
        | nil => exact absurd rfl hne
        | cons a0 as =>
          obtain ⟨s1, s2⟩ := noStar_cons hs
          cases et : Γ.tb.lookup x with
          | some ge =>
            cases ge with
            | key _ => exact .bad
            | exc _ _ => exact .bad
            | fld => exact .bad
            | fn i np =>
              dsimp only
              split
              · obtain ⟨fa, fd, ps, f1, f2, f3, f4⟩ := ct.fns x i np et
                exact .of ct.G (s_call ct.tk f4 ct.room g f1 f2 f3 (h.es (a0 :: as) ct hs).l n1 (star_cons s1) (star_plain s2)) rfl rfl rfl rfl rfl
              · exact .bad
          | none =>
            dsimp only
            cases esa : setArg sc x (a0 :: as) with
            | some a =>
              dsimp only
              obtain ⟨p2, q, rfl, ea, hgs, hst⟩ := setArg_ok esa
              rw [ea]
              exact .of ct.G (s_setlen ct.calm g (ct.mgn _ (by decide)) (ct.glo _ hgs) (ct.mgn _ (by decide)) (h.es [a] ct (by show (!starB a && true) = true; rw [hst]; rfl)).l (star_cons hst)) rfl rfl rfl rfl rfl
            | none =>
            dsimp only
            cases eb : biOf x (a0 :: as).length with
            | some b => exact .of ct.G (bi_call ct eb g hok (h.es (a0 :: as) ct hs).l s1 s2) rfl rfl rfl rfl rfl
            | none =>
              dsimp only
              split
              · rename_i hx
                subst hx
                have gm : X.mg "isinstance" = none := ct.mgn _ (by decide)
                cases as with
                | nil => exact .bad
                | cons a1 as =>
                  cases as with
                  | cons _ _ => cases a1 <;> exact .bad
                  | nil =>
                    cases a1 with
                    | Name t pt =>
                      dsimp only
                      cases ec : clsOf sc [.Name t ⟨0, 0, 0, 0⟩] with
                      | none => exact .bad
                      | some cs =>
                        cases cs with
                        | nil => exact .bad
                        | cons c cs =>
                          cases cs with
                          | cons _ _ => exact .bad
                          | nil =>
                            have e' : (if glB sc t = true then (match clOf t, clsOf sc [] with | some c, some cs => some (c :: cs) | _, _ => none) else none) = some [c] := ec
                            split at e'
                            · rename_i ht
                              cases ecl : clOf t with
                              | none => rw [ecl] at e'; cases e'
                              | some c' =>
                                rw [ecl] at e'
                                have : c' = c := by
                                  have e2 : some [c'] = some [c] := e'
                                  cases e2; rfl
                                subst this
                                obtain ⟨b, b1, b2, b3, b4, b5, b6⟩ := cl_ok ct ecl ht
                                exact .of ct.G (s_isi ct.G b1 g gm b2 b3 b4 b5 b6 (h.e a0 ct).r (star_cons s1)) rfl rfl rfl rfl rfl
                            · cases e'
                    | Tuple ts q pt =>
                      dsimp only
                      cases ec : clsOf sc ts with
                      | none => exact .bad
                      | some cs =>
                        cases cs with
                        | nil => exact .bad
                        | cons c cs =>
                          dsimp only
                          split
                          · rename_i hl
                            obtain ⟨bs, c1, c2, c3⟩ := cls_ok ct ec
                            exact .of ct.G (s_isiT ct.G (List.cons_ne_nil _ _) c1 g gm c2 (by rw [c3]; exact hl) (h.e a0 ct).r (star_cons s1)) rfl rfl rfl rfl rfl
                          · exact .bad
                    | _ => exact .bad
              · exact .bad
      · exact .bad
    | Attribute o m ap =>
      show Sn B X (.Call (.Attribute o m ap) as [] p) (if baseB o = true ∧ (ap.endLine == p.line) = true ∧ noStar as = true then (match (generalizing := false) as with
            | [a] => if m = ("join" : Str) then .mt .join (cE Γ n sc o) (.cons (cE Γ n sc a) .nil)
              else if m = ("split" : Str) then .mt .split (cE Γ n sc o) (.cons (cE Γ n sc a) .nil)
              else if m = ("index" : Str) then .mt .index (cE Γ n sc o) (.cons (cE Γ n sc a) .nil)
              else if m = ("append" : Str) then .mm .append (cE Γ n sc o) (.cons (cE Γ n sc a) .nil)
              else if m = ("extend" : Str) then .mm .extend (cE Γ n sc o) (.cons (cE Γ n sc a) .nil)
              else if m = ("pop" : Str) then .mm .pop1 (cE Γ n sc o) (.cons (cE Γ n sc a) .nil)
              else bad
            | _ => bad) else bad)
      split
      · rename_i hc
        obtain ⟨hb, hl, hs⟩ := hc
        cases as with
        | nil => exact .bad
        | cons a as =>
          obtain ⟨s1, s2⟩ := noStar_cons hs
          cases as with
          | cons _ _ => exact .bad
          | nil =>
            dsimp only
            have ho := (h.e o ct).r
            have ha := (h.e a ct).r
            have hv : PA X [a] (tV B (.cons (cE Γ n sc a) .nil)) := s_consV ha s_nilV (star_cons s1)
            split
            · rename_i hm; subst hm; exact .of ct.G (s_join ct.G ho ha (star_cons s1) (base_eq hb) hl) rfl rfl rfl rfl rfl
            split
            · rename_i hm; subst hm; exact .of ct.G (s_split ho ha (star_cons s1) (base_eq hb) hl) rfl rfl rfl rfl rfl
            split
            · rename_i hm; subst hm; exact .of ct.G (s_index ho ha (star_cons s1) (base_eq hb) hl) rfl rfl rfl rfl rfl
            split
            · rename_i hm; subst hm; exact .of ct.G (mm_call PySem.F.slot_list_append PySem.F.type_list_append m_append ho hv hb hl s1) rfl rfl rfl rfl rfl
            split
            · rename_i hm; subst hm; exact .of ct.G (mm_call PySem.F.slot_list_extend PySem.F.type_list_extend m_extend ho hv hb hl s1) rfl rfl rfl rfl rfl
            split
            · rename_i hm; subst hm; exact .of ct.G (mm_call PySem.F.slot_list_pop PySem.F.type_list_pop m_pop1 ho hv hb hl s1) rfl rfl rfl rfl rfl
            exact .bad
      · exact .bad
    | _ => exact .bad
theorem snd_e {n : Nat} (h : Sd Γ n) (e : Expr) (ct : Ct0 B X Γ sc k) : Sn B X e (cE Γ (n + 1) sc e) := by
  cases e with
  | Constant c q p =>
    cases c with
    | int i => exact .of ct.G s_int rfl rfl rfl rfl rfl
    | bool b => exact .of ct.G s_bl rfl rfl rfl rfl rfl
    | str s => exact .of ct.G s_str rfl rfl rfl rfl rfl
    | none => exact .of ct.G s_non rfl rfl rfl rfl rfl
    | _ => exact .bad
  | Name x p => exact snd_name ct
  | Tuple es q p => exact snd_tuple h ct
  | List es p =>
    show Sn B X (.List es p) (if noStar es = true then .lst (cEs Γ n sc es) else bad)
    split
    · rename_i hs
      exact .of ct.G (s_lst (h.es es ct hs).v) rfl rfl rfl rfl rfl
    · exact .bad
  | BinOp a op b p =>
    show Sn B X (.BinOp a op b p) (match (generalizing := false) bop op with | some o => .bin o (cE Γ n sc a) (cE Γ n sc b) | none => bad)
    cases eo : bop op with
    | none => exact .bad
    | some o => exact .of ct.G (s_bin (bop_ok ct.G eo) (h.e a ct).r (h.e b ct).r) rfl rfl rfl rfl rfl
  | UnaryOp op a p =>
    cases op with
    | Not =>
      have hr := s_notv (pos := p) ct.G (h.e a ct).r
      exact ⟨hr, s_notB (h.e a ct).b, m_keep rfl hr, rfl, rfl⟩
    | USub => exact .of ct.G (s_neg (h.e a ct).r) rfl rfl rfl rfl rfl
    | _ => exact .bad
  | BoolOp op vs p =>
    cases vs with
    | nil => exact .bad
    | cons x vs =>
      cases vs with
      | nil => exact .bad
      | cons y r =>
        obtain ⟨h1, h2⟩ := h.bo op x (y :: r) p ct
        show Sn B X (.BoolOp op (x :: y :: r) p) (cBo Γ n sc op x (y :: r))
        cases n with
        | zero => exact .bad
        | succ n =>
          cases op with
          | And => exact ⟨h1, PW.pt h2, m_keep rfl h1, rfl, rfl⟩
          | Or => exact ⟨h1, PW.pt h2, m_keep rfl h1, rfl, rfl⟩
  | Compare a ops cs p => exact snd_cmp h ct
  | IfExp t a b p =>
    have hr := s_ife (pos := p) (h.e t ct).b (h.e a ct).r (h.e b ct).r
    exact ⟨hr, s_ifeB (h.e t ct).b (h.e a ct).b (h.e b ct).b, m_keep rfl hr, rfl, rfl⟩
  | Subscript a i p => exact snd_sub h ct
  | JoinedStr vs p =>
    cases vs with
    | nil => exact .bad
    | cons v r =>
      show Sn B X (.JoinedStr (v :: r) p) (match (generalizing := false) cF Γ n sc (v :: r) with | some c => .fstr c | none => bad)
      cases ec : cF Γ n sc (v :: r) with
      | none => exact .bad
      | some c => exact .of ct.G (s_fs (List.cons_ne_nil _ _) (h.f (v :: r) c ct ec)) rfl rfl rfl rfl rfl
  | ListComp elt gs scope p => exact snd_lc h ct
  | Call f as ks p => exact snd_call h ct
  | _ => exact .bad
theorem sound : ∀ n, Sd Γ n
  | 0 => sound0
  | n + 1 => by
    have h := sound n
    exact ⟨fun e ct => snd_e h e ct, fun es ct hs => snd_es h es ct hs, fun op x vs pos ct => snd_bo h op x vs pos ct, fun e ct => snd_o h e ct, fun vs c ct hc => snd_f h vs c ct hc, fun e ct => snd_t h e ct, fun es ct hs => snd_ts h es ct hs, fun tg e ct => snd_i h tg e ct⟩
end
end TI
end
section
set_option maxHeartbeats 400000
/-! TC6: the text's code is sound: statements. -/
namespace TI
open PySem L2
structure CtS (B : Bs) (X : Cx) (Γ : CE) (sc : Sc) (k : Nat) : Prop where
  c : Ct0 B X Γ sc k
  sc : X.env.scope.names = sc
  kd : X.env.scope.kind = .function
  hp : PassesOwn (model X.prog X.w) X.A X.env X.xe
  stk : X.stack = X.env :: X.outer
  frm : X.env.frame = some X.env.locals
section
variable {B : Bs} {X : Cx} {Γ : CE} {sc : Sc} {k : Nat}
theorem ps_bad {st : Stmt} : PS X st (tS B bad) := ⟨fun _ _ _ _ _ _ ⟨_, _, _, _, _, _, _, w⟩ => (show False from w).elim⟩
theorem pss_bad {st : List Stmt} : PSs X st (tBl B bad) := ⟨fun _ _ _ _ _ _ ⟨_, _, _, _, _, _, _, w⟩ => (show False from w).elim⟩
theorem block_fn {env : PySem.Env} (h : env.scope.kind = .function) : env.blockKind = .function := by
  unfold PySem.Env.blockKind; rw [h]; rfl
theorem swaps_no {e : Expr} {t : Option Expr} {l : Nat} {env : PySem.Env} (h : compB e = false) : swapsWith e t l env = pure false := by
  cases e <;> first | rfl | cases h
theorem swaps_tup {e : Expr} {es : List Expr} {q : Nat} {p : Pos} {l : Nat} {env : PySem.Env} : swapsWithSole [.Tuple es q p] e l env = pure false := by
  cases e <;> rfl
theorem swaps_sub {e o i : Expr} {p : Pos} {l : Nat} {env : PySem.Env} : swapsWithSole [.Subscript o i p] e l env = pure false := by
  cases e <;> rfl
theorem stores_tup {e : Expr} {es : List Expr} {q : Nat} {p : Pos} {env : PySem.Env} (h : tupB e = false) : swappedStores [.Tuple es q p] e env = pure none := by
  cases e <;> first | rfl | cases h
theorem stores_sub {e o i : Expr} {p : Pos} {env : PySem.Env} : swappedStores [.Subscript o i p] e env = pure none := by
  cases e <;> rfl
theorem fmap_lt {α β : Type} {f : α → Option β} : ∀ {ts : List α}, (∃ t ∈ ts, f t = none) → (ts.filterMap f).length < ts.length
  | [], ⟨_, h, _⟩ => nomatch h
  | a :: r, h => by
    have hle : (r.filterMap f).length ≤ r.length := List.length_filterMap_le ..
    cases e : f a with
    | none =>
      rw [List.filterMap_cons, e]
      show (r.filterMap f).length < r.length + 1
      omega
    | some b =>
      rw [List.filterMap_cons, e]
      show (r.filterMap f).length + 1 < r.length + 1
      have : (r.filterMap f).length < r.length := fmap_lt (by
        obtain ⟨t, ht, et⟩ := h
        rcases List.mem_cons.mp ht with q | q
        · rw [q, e] at et; cases et
        · exact ⟨t, q, et⟩)
      omega
theorem stores_nopar {es vs : List Expr} {q q2 : Nat} {p p2 : Pos} {env : PySem.Env} (hsc : env.scope.names = sc) (h : noparB sc es vs = true) : swappedStores [.Tuple es q p] (.Tuple vs q2 p2) env = pure none := by
  unfold noparB at h
  rw [Bool.or_eq_true] at h
  unfold swappedStores
  dsimp only
  rcases h with h | h
  · rw [if_pos (by rw [Bool.or_eq_true]; exact .inl h)]
  · split
    · rfl
    · split
      · rfl
      · rw [if_pos]
        rw [Bool.or_eq_true]
        refine .inl ?_
        rw [bne_iff_ne]
        refine Nat.ne_of_lt (fmap_lt ?_)
        rw [List.any_eq_true] at h
        obtain ⟨t, ht, e⟩ := h
        refine ⟨t, ht, ?_⟩
        cases t with
        | Name x pp =>
          have e' : decide (sc.lookup x ≠ some NameKind.local) = true := e
          rw [decide_eq_true_eq] at e'
          have ek : (env.kindOf x == some NameKind.local) = false := by
            rw [beq_eq_false_iff_ne]
            unfold PySem.Env.kindOf
            rw [hsc]
            exact e'
          dsimp only
          rw [ek]
          rfl
        | _ => rfl
theorem stores_par2 {x y : Str} {px py p p2 : Pos} {a b : Expr} {q q2 : Nat} {env : PySem.Env} (hk : env.blockKind = .function) (hx : env.kindOf x = some .local) (hy : env.kindOf y = some .local) (hl : (py.line == px.line) = true) (hs : noStar [a, b] = true) (hf : [a, b].all (foldedForSure 8) = false) (hc : [a, b].all (constantsAlone 8) = false) (hne : x ≠ y) :
    swappedStores [.Tuple [.Name x px, .Name y py] q p] (.Tuple [a, b] q2 p2) env = pure (some [x, y]) := by
  obtain ⟨s1, s2⟩ := noStar_cons hs
  obtain ⟨s3, _⟩ := noStar_cons s2
  have e1 : (env.kindOf x == some NameKind.local) = true := by rw [hx]; rfl
  have e2 : (env.kindOf y == some NameKind.local) = true := by rw [hy]; rfl
  have e3 : (px.line == px.line) = true := by simp
  have hd : ([x, y].eraseDups).length = 2 := by
    simp [List.eraseDups_cons, Ne.symm hne]
  unfold swappedStores
  dsimp only
  rw [if_neg (by rw [hk]; simp), if_neg (by intro h; cases a <;> cases b <;> first | (cases h; done) | (simp [starB] at s1; done) | (simp [starB] at s3; done))]
  simp only [List.filterMap_cons, List.filterMap_nil, List.head?_cons, Option.map_some, Option.getD_some, Expr.pos, e1, e2, e3, hl, Bool.and_self, if_true]
  rw [if_neg (by rw [hd]; simp), if_neg (by rw [hf]; simp), if_neg (by rw [hc]; simp)]
theorem stores_par3 {x y z : Str} {px py pz p p2 : Pos} {a b c : Expr} {q q2 : Nat} {env : PySem.Env} (hk : env.blockKind = .function) (hx : env.kindOf x = some .local) (hy : env.kindOf y = some .local) (hz : env.kindOf z = some .local) (hl : (py.line == px.line) = true) (hl2 : (pz.line == px.line) = true) (hs : noStar [a, b, c] = true) (hf : [a, b, c].all (foldedForSure 8) = false) (hc : [a, b, c].all (constantsAlone 8) = false) (hne : x ≠ y) (hxz : x ≠ z) (hyz : y ≠ z) :
    swappedStores [.Tuple [.Name x px, .Name y py, .Name z pz] q p] (.Tuple [a, b, c] q2 p2) env = pure (some [x, y, z]) := by
  obtain ⟨s1, s2⟩ := noStar_cons hs
  obtain ⟨s3, s4⟩ := noStar_cons s2
  obtain ⟨s5, _⟩ := noStar_cons s4
  have e1 : (env.kindOf x == some NameKind.local) = true := by rw [hx]; rfl
  have e2 : (env.kindOf y == some NameKind.local) = true := by rw [hy]; rfl
  have e4 : (env.kindOf z == some NameKind.local) = true := by rw [hz]; rfl
  have e3 : (px.line == px.line) = true := by simp
  have hd : ([x, y, z].eraseDups).length = 3 := by
    simp [List.eraseDups_cons, Ne.symm hne, Ne.symm hxz, Ne.symm hyz]
  unfold swappedStores
  dsimp only
  rw [if_neg (by rw [hk]; simp), if_neg (by
    intro h
    simp only [List.any_cons, List.any_nil, Bool.or_eq_true] at h
    rcases h with h | h | h | h
    · cases a <;> first | (cases h; done) | (simp [starB] at s1; done)
    · cases b <;> first | (cases h; done) | (simp [starB] at s3; done)
    · cases c <;> first | (cases h; done) | (simp [starB] at s5; done)
    · cases h)]
  simp only [List.filterMap_cons, List.filterMap_nil, List.head?_cons, Option.map_some, Option.getD_some, Expr.pos, e1, e2, e3, e4, hl, hl2, Bool.and_self, if_true]
  rw [if_neg (by rw [hd]; simp), if_neg (by rw [hf]; simp), if_neg (by rw [hc]; simp)]
theorem par_local {ts vs : List Expr} (h : parB sc ts vs = true) : noStar vs = true ∧ vs.all (foldedForSure 8) = false ∧ vs.all (constantsAlone 8) = false ∧ vs.length = ts.length ∧ (∀ x p, Expr.Name x p ∈ ts → sc.lookup x = some .local ∧ (p.line == ((ts.head?.map (·.pos.line)).getD 0)) = true) ∧ (ts.filterMap fun t => match t with | .Name x _ => some x | _ => none).Nodup := by
  unfold parB at h
  simp only [Bool.and_eq_true, decide_eq_true_eq, Bool.not_eq_true', List.all_eq_true, beq_iff_eq] at h
  obtain ⟨⟨⟨⟨⟨⟨h1, h2⟩, h3⟩, h4⟩, h5⟩, h6⟩, h7⟩ := h
  refine ⟨h3, h4, h5, h2, fun x p hm => ?_, h7⟩
  have := h6 _ hm
  simp only [Bool.and_eq_true, decide_eq_true_eq, beq_iff_eq] at this
  exact ⟨this.1, by simpa using this.2⟩
end
end TI
end
section
set_option maxHeartbeats 400000
/-! TC7: the text's code is sound: every statement. -/
namespace TI
open PySem L2
section
variable {B : Bs} {X : Cx} {Γ : CE} {sc : Sc} {k : Nat}
structure SdS (Γ : CE) (n : Nat) : Prop where
  s : ∀ {B : Bs} {X : Cx} {sc : Sc} {k : Nat} (st : Stmt), CtS B X Γ sc k → PS X st (tS B (cS Γ n sc st))
  ss : ∀ {B : Bs} {X : Cx} {sc : Sc} {k : Nat} (st : List Stmt), CtS B X Γ sc k → PSs X st (tBl B (cSs Γ n sc st))
theorem asg_bad {i : Nat} {st : Stmt} : PS X st (tS B (.asg (.tv i) bad)) := ⟨fun _ _ _ _ _ _ ⟨_, _, _, _, _, _, _, w⟩ => (show False from w).elim⟩
theorem snd_expr {n : Nat} {e : Expr} {p : Pos} (ct : CtS B X Γ sc k) : PS X (.Expr e p) (tS B (if compB e = true then bad else .expr (cE Γ n sc e))) := by
  split
  · exact ps_bad
  · rename_i h
    exact s_expr ((sound n).e e ct.c).r (swaps_no (by simpa using h))
theorem snd_set {n : Nat} {x : Str} {px p : Pos} {e : Expr} (ct : CtS B X Γ sc k) : PS X (.Assign [.Name x px] e p) (tS B (if locB sc x = true then (match (generalizing := false) idx Γ.N x with | some i => .asg (.tv i) (cE Γ n sc e) | none => bad) else bad)) := by
  split
  · rename_i hl
    cases ei : idx Γ.N x with
    | none => exact ps_bad
    | some i =>
      obtain ⟨h1, h2⟩ := ct.c.loc x hl
      have hN : X.N[i]? = some x := by rw [ct.c.N]; exact idx_at ei
      dsimp only
      have plain : swapsWith e (some (.Name x px)) p.line X.env = pure false → PS X (.Assign [.Name x px] e p) (tS B (.asg (.tv i) (cE Γ n sc e))) := fun hs => s_set (j := 0) ct.c.nd hN h1 ((sound n).e e ct.c).r hs h2
      by_cases hc : compB e = false
      · exact plain (swaps_no hc)
      · cases e with
        | ListComp elt gs scope pe =>
          have hsw : swapsWith (.ListComp elt gs scope pe) (some (.Name x px)) p.line X.env = pure (X.env.blockKind == .function && X.env.kindOf x == some .local && px.line == (Expr.ListComp elt gs scope pe).pos.line && !(scope.names.any fun (n, k) => n == x && (k == .local || k == .cell))) := rfl
          cases hb : (X.env.blockKind == .function && X.env.kindOf x == some .local && px.line == (Expr.ListComp elt gs scope pe).pos.line && !(scope.names.any fun (n, k) => n == x && (k == .local || k == .cell))) with
          | false => exact plain (by rw [hsw, hb])
          | true =>
            rw [hb] at hsw
            have hloc : X.env.scope.names.lookup x = some .local := by
              simp only [Bool.and_eq_true] at hb
              have := hb.1.1.2
              simpa [PySem.Env.kindOf] using this
            cases n with
            | zero => exact asg_bad
            | succ n =>
              have h := sound (Γ := Γ) n
              cases gs with
              | nil => exact asg_bad
              | cons g gs =>
                cases gs with
                | cons _ _ => obtain ⟨tg, it, ifs, q⟩ := g; exact asg_bad
                | nil =>
                  obtain ⟨tg, it, ifs, q⟩ := g
                  show PS X _ (tS B (.asg (.tv i) (if q = 0 ∧ blkB Γ.N sc scope = true ∧ setB it = false then (match (generalizing := false) ifs with
                    | [] => .lc ((ownOf Γ.N scope.names).map (·.2)) (cT Γ n scope.names tg) (cI Γ n sc tg it) .nil (cE Γ n scope.names elt)
                    | [t] => .lc ((ownOf Γ.N scope.names).map (·.2)) (cT Γ n scope.names tg) (cI Γ n sc tg it) (cE Γ n scope.names t) (cE Γ n scope.names elt)
                    | _ => bad) else bad)))
                  split
                  · rename_i hcc
                    obtain ⟨rfl, hbb, hs⟩ := hcc
                    have ok := ct.c.blkOk hbb
                    have cb := fun (s : Shared) (H : Hp) (C : Addr) (cl : List (Str × Addr)) (fp : List Addr) => ct.c.blk hbb s H C cl fp
                    cases ifs with
                    | nil => exact s_setLc ct.c.calm ct.c.nd hN hloc hsw (h.i tg it ct.c) ok (fun s H C cl fp => h.t tg (cb s H C cl fp)) (fun s H C cl fp => ts_nil) (fun s H C cl fp => (h.e elt (cb s H C cl fp)).r) (fold_eq hs)
                    | cons t ifs =>
                      cases ifs with
                      | cons _ _ => exact asg_bad
                      | nil => exact s_setLc ct.c.calm ct.c.nd hN hloc hsw (h.i tg it ct.c) ok (fun s H C cl fp => h.t tg (cb s H C cl fp)) (fun s H C cl fp => ts_one (h.e t (cb s H C cl fp)).t (h.e t (cb s H C cl fp)).b) (fun s H C cl fp => (h.e elt (cb s H C cl fp)).r) (fold_eq hs)
                  · exact asg_bad
        | SetComp elt gs scope pe => cases n <;> exact asg_bad
        | DictComp kk vv gs scope pe => cases n <;> exact asg_bad
        | _ => exact absurd rfl hc
  · exact ps_bad
theorem snd_tupasg {n : Nat} {es : List Expr} {q : Nat} {pt p : Pos} {e : Expr} (ct : CtS B X Γ sc k) (hw : swappedStores [.Tuple es q pt] e X.env = pure none) (hs : noStar es = true) (hl : lenC (cTs Γ n sc es) = es.length) : PS X (.Assign [.Tuple es q pt] e p) (tS B (.asg (.tt (cTs Γ n sc es)) (cE Γ n sc e))) := by
  obtain ⟨l1, l2⟩ := assign_len (env := X.env) hs
  have hg := (sound n).ts es ct.c hs
  exact s_asgT ct.c.G ((sound n).e e ct.c).r ((pg_tup ct.c.calm hg (by rw [l1, hl]) l2).or (pg_lst ct.c.calm hg (by rw [l1, hl]) l2)) swaps_tup hw rfl
end
end TI
end
section
set_option maxHeartbeats 400000
/-! TC8: the text's code is sound: every block. -/
namespace TI
open PySem L2
section
variable {B : Bs} {X : Cx} {Γ : CE} {sc : Sc} {k : Nat}
def parC (Γ : CE) (n : Nat) (sc : Sc) (es vs : List Expr) : C := match es with
  | [.Name x _, .Name y _] => (match idx Γ.N x, idx Γ.N y with
    | some i, some j => .par (.cons (.tv i) (.cons (.tv j) .nil)) (cEs Γ n sc vs)
    | _, _ => bad)
  | [.Name x _, .Name y _, .Name z _] => (match idx Γ.N x, idx Γ.N y, idx Γ.N z with
    | some i, some j, some l => .par (.cons (.tv i) (.cons (.tv j) (.cons (.tv l) .nil))) (cEs Γ n sc vs)
    | _, _, _ => bad)
  | _ => bad
theorem idx_ne {N : List Str} {x y : Str} {i j : Nat} (h : idx N x = some i) (h' : idx N y = some j) (hne : x ≠ y) : i ≠ j := fun e => by
  subst e
  have a := idx_at h
  have b := idx_at h'
  rw [a] at b
  exact hne (Option.some.inj b)
theorem snd_par {n : Nat} {es vs : List Expr} {q q2 : Nat} {pt p2 p : Pos} (ct : CtS B X Γ sc k) (hp : parB sc es vs = true) : PS X (.Assign [.Tuple es q pt] (.Tuple vs q2 p2) p) (tS B (parC Γ n sc es vs)) := by
  obtain ⟨hs, hf, hc, hlen, hloc, hnd⟩ := par_local hp
  have hk := block_fn ct.kd
  have kd : ∀ x p, Expr.Name x p ∈ es → X.env.scope.names.lookup x = some .local := fun x p hm => by rw [ct.sc]; exact (hloc x p hm).1
  have ln : ∀ x p, Expr.Name x p ∈ es → (p.line == ((es.head?.map (·.pos.line)).getD 0)) = true := fun x p hm => (hloc x p hm).2
  have at_ : ∀ {x : Str} {i : Nat}, idx Γ.N x = some i → X.N[i]? = some x := fun h => by rw [ct.c.N]; exact idx_at h
  have hv := ((sound n).es vs ct.c hs).v
  cases es with
  | nil => exact ps_bad
  | cons e1 es =>
    cases es with
    | nil => cases e1 <;> exact ps_bad
    | cons e2 es =>
      cases es with
      | nil =>
        cases e1 with
        | Name x px =>
          cases e2 with
          | Name y py =>
            show PS X _ (tS B (match (generalizing := false) idx Γ.N x, idx Γ.N y with
              | some i, some j => .par (.cons (.tv i) (.cons (.tv j) .nil)) (cEs Γ n sc vs)
              | _, _ => bad))
            cases ex : idx Γ.N x with
            | none => exact ps_bad
            | some i =>
              cases ey : idx Γ.N y with
              | none => exact ps_bad
              | some j =>
                have hne : x ≠ y := by
                  have h2 : [x, y].Nodup := hnd
                  simpa using h2
                match vs, hlen with
                | [a, b], _ =>
                  have l2 := ln y py (by simp)
                  exact s_par ct.c.calm ct.c.nd (at_ ex) (at_ ey) (idx_ne ex ey hne) (kd x px (by simp)) (kd y py (by simp)) hv (stores_par2 hk (kd x px (by simp)) (kd y py (by simp)) (by simpa [Expr.pos] using l2) hs hf hc hne) rfl
          | _ => exact ps_bad
        | _ => exact ps_bad
      | cons e3 es =>
        cases es with
        | cons _ _ => exact absurd hp (by unfold parB; simp)
        | nil =>
          cases e1 with
          | Name x px =>
            cases e2 with
            | Name y py =>
              cases e3 with
              | Name z pz =>
                show PS X _ (tS B (match (generalizing := false) idx Γ.N x, idx Γ.N y, idx Γ.N z with
                  | some i, some j, some l => .par (.cons (.tv i) (.cons (.tv j) (.cons (.tv l) .nil))) (cEs Γ n sc vs)
                  | _, _, _ => bad))
                cases ex : idx Γ.N x with
                | none => exact ps_bad
                | some i =>
                  cases ey : idx Γ.N y with
                  | none => exact ps_bad
                  | some j =>
                    cases ez : idx Γ.N z with
                    | none => exact ps_bad
                    | some l =>
                      have h2 : [x, y, z].Nodup := hnd
                      have hne : x ≠ y := by simp at h2; exact h2.1.1
                      have hxz : x ≠ z := by simp at h2; exact h2.1.2
                      have hyz : y ≠ z := by simp at h2; exact h2.2
                      match vs, hlen with
                      | [a, b, c], _ =>
                        have l2 := ln y py (by simp)
                        have l3 := ln z pz (by simp)
                        exact s_par3 ct.c.calm ct.c.nd (at_ ex) (at_ ey) (at_ ez) (idx_ne ex ey hne) (idx_ne ex ez hxz) (idx_ne ey ez hyz) (kd x px (by simp)) (kd y py (by simp)) (kd z pz (by simp)) hv (stores_par3 hk (kd x px (by simp)) (kd y py (by simp)) (kd z pz (by simp)) (by simpa [Expr.pos] using l2) (by simpa [Expr.pos] using l3) hs hf hc hne hxz hyz) rfl
              | _ => exact ps_bad
            | _ => exact ps_bad
          | _ => exact ps_bad
/-! an except suite -/
theorem pe_bad {e : Expr} : PE X e (tR B bad) := ⟨fun _ _ _ _ _ _ ⟨_, _, _, _, _, _, _, w⟩ => (show False from w).elim⟩
theorem pa_bad {es : List Expr} : PA X es (tV B bad) := ⟨fun _ _ _ _ _ _ _ ⟨_, _, _, _, _, _, _, w⟩ => (show False from w).elim⟩
section
variable {a dd : Addr} {oe : Obj} {c i : Nat} {pn : List (Addr × Obj)} {nm : Str}
mutual
theorem snd_he (hfl : ∀ f, Γ.tb.lookup f = some .fld → XfC X.K (B.G.ca c) ∧ PySem.W.findIn X.K (.ref (B.G.ca c)) f = some none) (hz : Zc (.ref (B.G.ca c)) (some dd) oe) (hf : ∃ vs, oe.data = .fields vs) (hN : X.N[i]? = some nm) (hv : Vis X.env.scope nm) (hd : (nm == ("__debug__" : Str)) = false) (hcd : (nm == ("__classdict__" : Str)) = false) :
    ∀ (m : Nat) (e : Expr), PE (X.suite a ((a, oe) :: pn)) e (tR (B.wx a c dd) (cHE Γ nm i m e))
  | 0, _ => pe_bad
  | m + 1, e => by
    cases e with
    | Constant k q p =>
      cases k with
      | int i => exact s_int
      | bool b => exact s_bl
      | str s => exact s_str
      | none => exact s_non
      | _ => exact pe_bad
    | Attribute o f p =>
      cases o with
      | Name x px =>
        show PE _ _ (tR (B.wx a c dd) (if x = nm then (match (generalizing := false) Γ.tb.lookup f with
          | some .fld => .xf i f
          | _ => bad) else bad))
        split
        · rename_i hx
          subst hx
          cases ef : Γ.tb.lookup f with
          | none => exact pe_bad
          | some g =>
            cases g with
            | fld => exact s_xf (hfl f ef).1 (hfl f ef).2 hz hf hN hv hd hcd
            | _ => exact pe_bad
        · exact pe_bad
      | _ => exact pe_bad
    | Tuple es q p =>
      show PE _ _ (tR (B.wx a c dd) (if noStar es = true then .tup (cHEs Γ nm i m es) else bad))
      split
      · rename_i hs
        exact s_tup (snd_hes hfl hz hf hN hv hd hcd m es hs)
      · exact pe_bad
    | _ => exact pe_bad
theorem snd_hes (hfl : ∀ f, Γ.tb.lookup f = some .fld → XfC X.K (B.G.ca c) ∧ PySem.W.findIn X.K (.ref (B.G.ca c)) f = some none) (hz : Zc (.ref (B.G.ca c)) (some dd) oe) (hf : ∃ vs, oe.data = .fields vs) (hN : X.N[i]? = some nm) (hv : Vis X.env.scope nm) (hd : (nm == ("__debug__" : Str)) = false) (hcd : (nm == ("__classdict__" : Str)) = false) :
    ∀ (m : Nat) (es : List Expr), noStar es = true → PA (X.suite a ((a, oe) :: pn)) es (tV (B.wx a c dd) (cHEs Γ nm i m es))
  | 0, _, _ => pa_bad
  | m + 1, [], _ => s_nilV
  | m + 1, e :: r, hs => by
    obtain ⟨h1, h2⟩ := noStar_cons hs
    exact s_consV (snd_he hfl hz hf hN hv hd hcd m e) (snd_hes hfl hz hf hN hv hd hcd m r h2) (star_cons h1)
end
theorem snd_hs (hfl : ∀ f, Γ.tb.lookup f = some .fld → XfC X.K (B.G.ca c) ∧ PySem.W.findIn X.K (.ref (B.G.ca c)) f = some none) (hz : Zc (.ref (B.G.ca c)) (some dd) oe) (hf : ∃ vs, oe.data = .fields vs) (hN : X.N[i]? = some nm) (hv : Vis X.env.scope nm) (hd : (nm == ("__debug__" : Str)) = false) (hcd : (nm == ("__classdict__" : Str)) = false) (ct : Ct0 B X Γ sc k) (m : Nat) :
    ∀ sts : List Stmt, PSs (X.suite a ((a, oe) :: pn)) sts (tBl (B.wx a c dd) (cHSs Γ sc nm i m sts))
  | [] => s_nilS
  | st :: r => by
    refine s_consS ?_ (snd_hs hfl hz hf hN hv hd hcd ct m r)
    cases st with
    | Assign ts e p =>
      cases ts with
      | nil => exact ps_bad
      | cons t ts =>
        cases ts with
        | cons _ _ => cases t <;> exact ps_bad
        | nil =>
          cases t with
          | Name x px =>
            show PS _ _ (tS (B.wx a c dd) (if locB sc x = true ∧ compB e = false then (match (generalizing := false) idx Γ.N x with
              | some j => .asg (.tv j) (cHE Γ nm i m e)
              | none => bad) else bad))
            split
            · rename_i hc
              cases ej : idx Γ.N x with
              | none => exact ps_bad
              | some j =>
                obtain ⟨l1, l2⟩ := ct.loc x hc.1
                have hNj : X.N[j]? = some x := by rw [ct.N]; exact idx_at ej
                exact s_set (X := X.suite a ((a, oe) :: pn)) (j := 0) ct.nd hNj l1 (snd_he hfl hz hf hN hv hd hcd m e) (swaps_no hc.2) l2
            · exact ps_bad
          | _ => exact ps_bad
    | _ => exact ps_bad
end
theorem snd_raise {n : Nat} {e fr : Option Expr} {p : Pos} (ct : CtS B X Γ sc k) : PS X (.Raise e fr p) (tS B (cS Γ (n + 1) sc (.Raise e fr p))) := by
  cases e with
  | none => exact ps_bad
  | some e =>
    cases e with
    | Call f as ks pc =>
      cases f with
      | Name x px =>
        cases ks with
        | cons _ _ => exact ps_bad
        | nil =>
          cases fr with
          | some _ => exact ps_bad
          | none =>
            show PS X _ (tS B (if glB sc x = true ∧ nmOk x = true ∧ noStar as = true ∧ as ≠ [] then (match (generalizing := false) Γ.tb.lookup x with
              | some (.exc c np) => if as.length = np then .rai c (cEs Γ n sc as) else bad
              | _ => bad) else bad))
            split
            · rename_i hc
              obtain ⟨hg, hok, hs, hne⟩ := hc
              obtain ⟨n1, n2, n3⟩ := nm_ok hok
              cases as with
              | nil => exact absurd rfl hne
              | cons a0 as =>
                obtain ⟨s1, s2⟩ := noStar_cons hs
                cases et : Γ.tb.lookup x with
                | none => exact ps_bad
                | some g =>
                  cases g with
                  | exc c np =>
                    dsimp only
                    split
                    · rename_i hl
                      obtain ⟨m1, m2⟩ := ct.c.exs.c x c np et
                      obtain ⟨fI, fd, ps, E⟩ := m2 (by rw [← hl]; simp)
                      exact s_rai ct.c.calm ct.c.tk E ct.c.room2 (ct.c.glo x hg) m1 ((sound n).es (a0 :: as) ct.c hs).v n1 (star_cons s1) (star_plain s2)
                    · exact ps_bad
                  | _ => exact ps_bad
            · exact ps_bad
      | _ => cases ks <;> cases fr <;> exact ps_bad
    | _ => cases fr <;> exact ps_bad
theorem snd_try {n : Nat} (h : SdS Γ n) {body : List Stmt} {hs : List ExceptHandler} {els fin : List Stmt} {p : Pos} (ct : CtS B X Γ sc k) : PS X (.Try body hs els fin p) (tS B (cS Γ (n + 1) sc (.Try body hs els fin p))) := by
  cases hs with
  | nil => exact ps_bad
  | cons h0 hs =>
    obtain ⟨ty, nmo, su, ph⟩ := h0
    cases ty with
    | none => exact ps_bad
    | some ty =>
      cases ty with
      | Name x px =>
        cases nmo with
        | none => exact ps_bad
        | some nm =>
          cases su with
          | nil => exact ps_bad
          | cons b su =>
            cases hs with
            | cons _ _ => exact ps_bad
            | nil =>
              cases els with
              | cons _ _ => exact ps_bad
              | nil =>
                cases fin with
                | cons _ _ => exact ps_bad
                | nil =>
                  show PS X _ (tS B (if glB sc x = true ∧ nmOk x = true ∧ nmOk nm = true ∧ sc.lookup nm = some .local then (match (generalizing := false) Γ.tb.lookup x, idx Γ.N nm with
                    | some (.exc c _), some i => .tryS (cSs Γ n sc body) (.hdl c (some i) (cHSs Γ sc nm i n (b :: su)))
                    | _, _ => bad) else bad))
                  split
                  · rename_i hc
                    obtain ⟨hg, hok, hok2, hln⟩ := hc
                    obtain ⟨n1, n2, n3⟩ := nm_ok hok
                    obtain ⟨k1, k2, k3⟩ := nm_ok hok2
                    cases et : Γ.tb.lookup x with
                    | none => exact ps_bad
                    | some g =>
                      cases ei : idx Γ.N nm with
                      | none => cases g <;> exact ps_bad
                      | some i =>
                        cases g with
                        | exc c np =>
                          dsimp only
                          have hN : X.N[i]? = some nm := by rw [ct.c.N]; exact idx_at ei
                          have hkl : X.env.kindOf nm = some .local := by
                            unfold PySem.Env.kindOf
                            rw [ct.sc]
                            exact hln
                          have hv : Vis X.env.scope nm := .inl hkl
                          refine s_try ct.stk ct.frm ct.c.nd hN hkl ⟨ct.c.glo x hg, n1, .inl (ct.c.exs.c x c np et).1⟩ ct.c.tk ct.c.exs.no ct.c.exs.cs (fun c0 b0 hb0 => ct.c.exs.xm c0 c b0 hb0) (fun W pn xe tk hp => h.ss body ⟨⟨ct.c.G, ct.c.nd, ct.c.N, ct.c.calm, ct.c.room, tk, ct.c.vis, ct.c.loc, ct.c.glo, ct.c.clf, ct.c.mgn, ct.c.key, ct.c.room2, ?_, ct.c.fns⟩, ct.sc, ct.kd, hp, ct.stk, ct.frm⟩) fun a oe c0 dd pn hm hz hf => ?_
                          · exact ⟨fun x c np hh => ⟨(ct.c.exs.c x c np hh).1, fun hn => by
                              obtain ⟨fI, fd, ps, E⟩ := (ct.c.exs.c x c np hh).2 hn
                              exact ⟨fI, fd, ps, ⟨E.T, E.iC, E.tI, E.F, E.b, E.no, E.cs, E.few⟩⟩⟩, ct.c.exs.no, ct.c.exs.cs, ct.c.exs.xm, ct.c.exs.fl⟩
                          · exact snd_hs (fun f ef => ct.c.exs.fl f ef c0 c hm) hz hf hN hv k1 k2 ct.c n (b :: su)
                        | _ => exact ps_bad
                  · exact ps_bad
      | _ => exact ps_bad
theorem snd_s {n : Nat} (h : SdS Γ n) (st : Stmt) (ct : CtS B X Γ sc k) : PS X st (tS B (cS Γ (n + 1) sc st)) := by
  cases st with
  | Expr e p =>
    cases e with
    | Constant c q pe =>
      cases c with
      | str s => exact s_doc ps_doc
      | _ => exact snd_expr (n := n) ct
    | _ => exact snd_expr (n := n) ct
  | Return v p =>
    cases v with
    | none => exact s_retN
    | some e => exact s_ret ((sound n).e e ct.c).m
  | If t a b p => exact s_if ((sound n).e t ct.c).b (h.ss a ct) (h.ss b ct)
  | For tg it body els p =>
    cases els with
    | cons _ _ => exact ps_bad
    | nil =>
      show PS X (.For tg it body [] p) (tS B (if setB it = true then bad else .forS (cT Γ n sc tg) (cI Γ n sc tg it) (cSs Γ n sc body)))
      split
      · exact ps_bad
      · rename_i hs
        exact s_for ct.hp ct.c.calm ((sound n).i tg it ct.c) ((sound n).t tg ct.c) (h.ss body ct) (fold_eq (by simpa using hs))
  | Pass p => exact s_pass
  | Break p => exact s_brk
  | Assign ts e p =>
    cases ts with
    | nil => exact ps_bad
    | cons t ts =>
      cases ts with
      | cons _ _ => cases t <;> exact ps_bad
      | nil =>
        cases t with
        | Name x px => exact snd_set ct
        | Tuple es q pt =>
          have gen : tupB e = false → PS X (.Assign [.Tuple es q pt] e p) (tS B (if noStar es = true ∧ lenC (cTs Γ n sc es) = es.length then .asg (.tt (cTs Γ n sc es)) (cE Γ n sc e) else bad)) := fun ht => by
            split
            · rename_i hc
              exact snd_tupasg ct (stores_tup ht) hc.1 hc.2
            · exact ps_bad
          cases e with
          | Tuple vs q2 p2 =>
            show PS X _ (tS B (if parB sc es vs = true then parC Γ n sc es vs else if noparB sc es vs = true ∧ noStar es = true ∧ lenC (cTs Γ n sc es) = es.length then .asg (.tt (cTs Γ n sc es)) (cE Γ n sc (.Tuple vs q2 p2)) else bad))
            split
            · rename_i hp
              exact snd_par ct hp
            · split
              · rename_i hc
                exact snd_tupasg ct (stores_nopar (by rw [ct.sc]) hc.1) hc.2.1 hc.2.2
              · exact ps_bad
          | _ => exact gen rfl
        | Subscript o i pt =>
          show PS X (.Assign [.Subscript o i pt] e p) (tS B (if sliceB i = true ∨ compB e = true then bad else .asg (.ts (cE Γ n sc o) (cE Γ n sc i)) (cE Γ n sc e)))
          split
          · exact ps_bad
          · rename_i hc
            have hsl : sliceB i = false := by cases q : sliceB i with | false => rfl | true => exact absurd (.inl q) hc
            exact s_asgS ((sound n).e e ct.c).r (g_ts ((sound n).e o ct.c).r ((sound n).e i ct.c).r fun v => by cases i <;> first | rfl | cases hsl) swaps_sub stores_sub rfl
        | _ => exact ps_bad
  | Raise e fr p => exact snd_raise ct
  | Try b hs els fin p => exact snd_try h ct
  | _ => exact ps_bad
theorem soundS : ∀ n, SdS Γ n
  | 0 => ⟨fun _ _ => ps_bad, fun _ _ => pss_bad⟩
  | n + 1 => by
    have h := soundS n
    refine ⟨fun st ct => snd_s h st ct, fun st ct => ?_⟩
    cases st with
    | nil => exact s_nilS
    | cons s r => exact s_consS (h.s s ct) (h.ss r ct)
end
end TI
end
section
set_option maxHeartbeats 400000
/-! TX4: own errors: what the written part says, as checks. -/
namespace TI
open PySem L2
/-- an own error's class: its name, its base's name, its fields; its __init__ (if it has fields) -/
structure ExD where
  name : Str
  base : Str
  fields : List Str
  ps : List Str
  params : Arguments
  body : List Stmt
  scope : Scope
/-- the i-th statement of a class -/
def clsStmt (s : Stmt) (i : Nat) : Stmt := match s with
  | .ClassDef _ _ _ b _ _ _ _ _ _ _ => b.getD i (.Pass ⟨0, 0, 0, 0⟩)
  | _ => .Pass ⟨0, 0, 0, 0⟩
def oexB (K : PySem.W.Frag) (C : Addr) : Bool := (match K.lookup C with
  | some o => (match o.cls, o.data, o.slots.toList with
    | .type "type", .cls cd, [_, _, _, _, some (.builtin n), _] => (match cd.mro with
      | .ref C' :: bm => C' == C && n == "ValueError.__new__" && !cd.hasDel && cd.hasDict && PySem.HandSPX.refsVE bm
      | _ => false)
    | _, _, _ => false)
  | none => false) && decide (PySem.W.findIn K (.ref C) "__setattr__" = some (some (.builtin "object.__setattr__"))) && decide (PySem.W.subIn K (.ref C) (.type "BaseException") = some true) && decide (PySem.W.typeIn K (.ref C) = some (.type "type")) && PySem.W.keepIn K (.ref C)
theorem oexB_ok {K : PySem.W.Frag} {C : Addr} (h : oexB K C = true) : OexC K C := by
  unfold oexB at h
  simp only [Bool.and_eq_true, decide_eq_true_eq] at h
  obtain ⟨⟨⟨⟨h1, h2⟩, h3⟩, h4⟩, h5⟩ := h
  refine ⟨?_, h2, h3, h4, h5⟩
  cases hl : K.lookup C with
  | none => rw [hl] at h1; cases h1
  | some o =>
    rw [hl] at h1
    obtain ⟨ocls, od, odata, osl⟩ := o
    dsimp only at h1
    split at h1
    · rename_i l cd k0 k1 k2 k3 nn k5 hs
      obtain ⟨nm, bs, mro, ns, qn, hdct, sn, sub, ab, col, del⟩ := cd
      dsimp only at h1
      cases mro with
      | nil => cases h1
      | cons m bm =>
        cases m with
        | ref C' =>
          dsimp only at h1
          simp only [Bool.and_eq_true, beq_iff_eq, Bool.not_eq_true'] at h1
          obtain ⟨⟨⟨⟨rfl, rfl⟩, rfl⟩, rfl⟩, hb⟩ := h1
          have hsl : osl = #[k0, k1, k2, k3, some (.builtin "ValueError.__new__"), k5] := by
            obtain ⟨l⟩ := osl
            simp only at hs
            rw [hs]
          subst hsl
          exact ⟨nm, qn, ns, bs, bm, sn, sub, ab, col, od, k0, k1, k2, k3, k5, rfl, hb⟩
        | _ => cases h1
    · cases h1
def bseB (K : PySem.W.Frag) (C : Addr) : Bool := decide (PySem.W.specialIn K (.ref C) "__getattribute__" = some (some (.builtin "type.__getattribute__"))) && PySem.W.readsIn K C (.type "type") && (match PySem.W.findCls K (.ref C) (.type "type") "__init__" with
  | some (.val (.builtin x)) => x == "ValueError.__init__"
  | _ => false)
theorem bseB_ok {K : PySem.W.Frag} {C : Addr} (h : bseB K C = true) : BaseC K C := by
  unfold bseB at h
  simp only [Bool.and_eq_true, decide_eq_true_eq] at h
  obtain ⟨⟨h1, h2⟩, h3⟩ := h
  refine ⟨h1, h2, ?_⟩
  cases e : PySem.W.findCls K (.ref C) (.type "type") "__init__" with
  | none => rw [e] at h3; cases h3
  | some r =>
    rw [e] at h3
    cases r with
    | get _ _ _ _ => cases h3
    | val v =>
      cases v with
      | builtin x => simp at h3; rw [h3]
      | _ => cases h3
/-- the class's own __init__ -/
def initAd (K : PySem.W.Frag) (x : Str) : Addr := He.fAd K (x, some "__init__")
/-- one class -/
def exOne (K : PySem.W.Frag) (fl : List Str) (d : ExD) : Bool := decide (PySem.W.nsIn K mainGlobals d.name = some (some (.ref (He.ga K d.name)))) && (fl.all fun f => decide (PySem.W.findIn K (.ref (He.ga K d.name)) f = some none)) && xfB K (He.ga K d.name) &&
  (if d.fields = [] then true else oexB K (He.ga K d.name) && decide (PySem.W.findIn K (.ref (He.ga K d.name)) "__init__" = some (some (.ref (initAd K d.name)))) && decide (PySem.W.typeIn K (.ref (initAd K d.name)) = some (.type "function")) && bseB K (He.ga K d.base) && decide (PySem.W.nsIn K mainGlobals d.base = some (some (.ref (He.ga K d.base)))) && (d.fields.all fun f => decide (PySem.W.findIn K (.ref (He.ga K d.name)) f = some none)))
/-- who is caught as whom -/
def exM (K : PySem.W.Frag) (es : List ExD) (mx : List (List Bool)) : Bool := (List.range mx.length).all fun c => (List.range ((mx[c]?).getD []).length).all fun c' => match es[c]?, es[c']?, (mx[c]?).bind (·[c']?) with
  | some d, some d', some b => decide (PySem.W.exmOne K (.ref (He.ga K d.name)) (.ref (He.ga K d'.name)) = some b)
  | _, _, _ => false
def exAll (es : List ExD) (mx : List (List Bool)) (fl : List Str) (K : PySem.W.Frag) : Bool := es.all (exOne K fl) && exM K es mx
end TI
end
section
set_option maxHeartbeats 400000
/-! TD1: all defs, level by level. -/
namespace TI
open PySem L2
/-- a def of the text: its name, parts, slots' names, parameters -/
structure Def where
  name : Str
  params : Arguments
  body : List Stmt
  scope : Scope
  N : List Str
  ps : List Str
def Def.fn (tb : List (Str × GE)) (n : Nat) (d : Def) : Fn := ⟨d.ps.length, d.N.length, cSs ⟨d.N, tb⟩ n d.scope.names d.body⟩
def prg (es : List ExD) (mx : List (List Bool)) (ds : List Def) (tb : List (Str × GE)) (n : Nat) : Prg := { fns := ds.map (Def.fn tb n), xf := es.map (·.fields), xm := mx }
/-- what is known of an error's class over a base -/
def ExcAtK (P : Program) (w : World) (K : PySem.W.Frag) (mg : Str → Option Value) (base : Heap) (C : Addr) (fs : List Str) : Prop := ∃ (fI : Addr) (fd : FuncData) (ps : List Str), OexC K C ∧ PySem.W.findIn K (.ref C) "__init__" = some (some (.ref fI)) ∧ PySem.W.typeIn K (.ref fI) = some (.type "function") ∧ FnOk P w K mg base (L2.CX P w) 1 fI fd ps (spI K C fs) ∧ Binds K fd ps [] ∧ ∀ f ∈ fs, PySem.W.findIn K (.ref C) f = some none
/-- the def stands where its name says -/
structure DefAt (K : PySem.W.Frag) (mg : Str → Option Value) (d : Def) (f : Addr) (fd : FuncData) : Prop where
  F : FunD K d.name d.name d.params d.body d.scope [] [] f fd
  g : mg d.name = some (.ref f)
  S : FnScope d.N d.ps d.scope
  b : Binds K fd d.ps []
theorem levels {P : Program} {w : World} {K : PySem.W.Frag} {mg : Str → Option Value} {base : Heap} {G : Gd} (hG : G.K = K) (hno : ∀ a c d, ¬ G.ex a c d) {es : List ExD} {mx : List (List Bool)} {cs : Nat → List Str} (hcs : cs = fun c => ((es.map (·.fields))[c]?).getD []) (few : ∀ c, (cs c).length ≤ 1000) {ds : List Def} {tb : List (Str × GE)} {n fuel : Nat} {fa : Nat → Addr} {fd : Nat → FuncData}
    (hfs : ∀ i d, ds[i]? = some d → DefAt K mg d (fa i) (fd i)) (htb : ∀ x i np, tb.lookup x = some (.fn i np) → ∃ d, ds[i]? = some d ∧ d.name = x) (hkey : ∀ x q, tb.lookup x = some (.key q) → ∃ u, mg x = some u ∧ RelV (kV q) u) (hblt : ∀ x, x ∈ bltNames → mg x = none)
    (hE : ∀ x c np, tb.lookup x = some (.exc c np) → mg x = some (.ref (G.ca c)) ∧ (np ≠ 0 → ExcAtK P w K mg base (G.ca c) (cs c))) (hxm : ∀ (c c' : Nat) (b : Bool), ((mx[c]?).bind fun l => l[c']?) = some b → PySem.W.exmOne K (.ref (G.ca c)) (.ref (G.ca c')) = some b)
    (hfl : ∀ f, tb.lookup f = some .fld → ∀ (c c' : Nat), ((mx[c]?).bind fun l => l[c']?) = some true → XfC K (G.ca c) ∧ PySem.W.findIn K (.ref (G.ca c)) f = some none) :
    ∀ k i d, ds[i]? = some d → FnOk P w K mg base (L2.CX P w) (k + 2) (fa i) (fd i) d.ps (spOf G cs (callT (prg es mx ds tb n) fuel k i))
  | 0, i, d, hd => ⟨fun vs H Q E ⟨_, _, _, _, _, _, h⟩ => (show False from h).elim, fun A outer s H args us vs Q E _ _ _ _ ⟨_, _, _, _, _, _, h⟩ => (show False from h).elim⟩
  | k + 1, i, d, hd => by
    obtain ⟨Fd, g, S, b⟩ := hfs i d hd
    obtain ⟨⟨oc, od, dV, kV', doc, pm, an, cdv, ct, osl, efd, lk, hcd, _, _⟩, kp⟩ := Fd
    have ih := levels (P := P) (w := w) (base := base) (n := n) (fuel := fuel) hG hno hcs few hfs htb hkey hblt hE hxm hfl k
    have ec : callT (prg es mx ds tb n) fuel (k + 1) i = runFn (ekOf (prg es mx ds tb n) fuel (callT (prg es mx ds tb n) fuel k)) (d.fn tb n) := by
      funext args
      show (match (ds.map (Def.fn tb n))[i]? with | some d => runFn (ekOf (prg es mx ds tb n) fuel (callT (prg es mx ds tb n) fuel k)) d args | none => .stuck) = _
      rw [List.getElem?_map, hd]
      rfl
    rw [ec, efd]
    rw [efd] at lk
    refine fn_body lk hcd S fun A outer s H E hr => ?_
    refine (soundS n).ss (sc := d.scope.names) (k := k + 2) (Γ := ⟨d.N, tb⟩) d.body ⟨⟨hG, S.nd, rfl, rfl, hr, L2.takes_of rfl rfl rfl rfl, fun x h => ?_, fun x h => ?_, fun x h => ?_, fun x h => h, hblt, hkey, hr.mono (by omega), ?ex, fun x j np e => ?_⟩, rfl, S.kind, L2.passes_of rfl, rfl, rfl⟩
    case ex =>
      refine ⟨fun x c np e => ⟨(hE x c np e).1, fun hn => ?_⟩, hno, by rw [hcs]; rfl, hxm, hfl⟩
      obtain ⟨fI, fd, ps, h1, h2, h3, h4, h5, h6⟩ := (hE x c np e).2 hn
      exact ⟨fI, fd, ps, ⟨h1, h2, h3, h4, h5, h6, by rw [hcs]; rfl, few c⟩⟩
    · unfold visB at h
      show d.scope.names.lookup x = _ ∨ d.scope.names.lookup x = _ ∨ d.scope.names.lookup x = _
      split at h <;> first | exact .inl (by assumption) | exact .inr (.inl (by assumption)) | exact .inr (.inr (by assumption)) | cases h
    · unfold locB at h
      refine ⟨?_, .inl rfl⟩
      show d.scope.names.lookup x = _ ∨ d.scope.names.lookup x = _
      split at h <;> first | exact .inl (by assumption) | exact .inr (by assumption) | cases h
    · unfold glB at h
      show d.scope.names.lookup x = _
      split at h <;> first | assumption | cases h
    · obtain ⟨d', hd', rfl⟩ := htb x j np e
      obtain ⟨Fd', g', S', b'⟩ := hfs j d' hd'
      exact ⟨fa j, fd j, d'.ps, g', Fd'.kp, b', ih j d' hd'⟩
end TI
end
section
set_option maxHeartbeats 400000
/-! TD2: the law's end. -/
namespace TI
open PySem L2
theorem ints_repL {G : Gd} {Z : Sa} {H : Hp} : ∀ ns : List Int, RepL G Z H (ns.map T.int) (ns.map V.int) none_
  | [] => rfl
  | n :: ns => ⟨.int n, _, none_, none_, rfl, rfl, ints_repL ns, fun _ z => z.elim, fun _ z => z, fun _ z => z⟩
theorem law_end {G : Gd} {K : PySem.W.Frag} (hG : G.K = K) {cs : Nat → List Str} {cl : List T → CO} {H : Hp} {a : Addr} {ns : List Int} (hO : Only H) (hS : SqL K H a (ns.map V.int)) {fin : List T} (h : cl [.nd .scr false (ns.map T.int)] = .ok (.bl true) fin) :
    spOf G cs cl [.ref a] H (fun v _ => v = .bl true) fun _ _ _ => False := by
  have hn : SqF G.K H a (ns.map V.int) := by
    rw [hG]
    rcases hS with hS | hS
    · rcases hS with hS | ⟨o, hS⟩
      · rcases hO a with z | ⟨o, xs, z⟩
        · rw [z] at hS; cases hS
        · rw [z] at hS; cases hS
      · exact .inl ⟨o, hS⟩
    · exact .inr hS
  refine ⟨none_, none_, [.nd .scr false (ns.map T.int)], ⟨.ref a, [], none_, none_, rfl, ⟨a, ns.map V.int, none_, rfl, hn, trivial, ints_repL ns, ?_⟩, rfl, fun _ z => z.elim, fun _ z => z, fun _ z => z⟩, fun _ z => z.elim, fun _ z => z.elim, ?_⟩
  · unfold ndF
    rw [if_pos imm_s]
    exact fun _ z => z
  · rw [h]
    exact fun v H' Z' S' Sf dn rep => rep
end TI
end
section
set_option maxHeartbeats 400000
/-! TD3: from the head's facts to the law's promise. -/
namespace TI
open PySem L2
def Def.dd (d : Def) : He.DefD := ⟨(d.name, none), d.name, d.name, d.params, d.body, d.scope, [], []⟩
def keyFa (x : Str) : Key → He.Fa
  | .inl i => .int x i
  | .inr s => .str x s
def gloFa (ds : List Def) : List He.Fa := ds.map fun d => .glo d.name
def bltFa : List He.Fa := bltNames.map .free
def tbFa (tb : List (Str × GE)) : List He.Fa := tb.filterMap fun p => match p.2 with
  | .key q => some (keyFa p.1 q)
  | _ => none
def faOf (ds : List Def) (tb : List (Str × GE)) : List He.Fa := gloFa ds ++ (bltFa ++ tbFa tb)
def ExD.dd (d : ExD) : He.DefD := ⟨(d.name, some "__init__"), "__init__", d.name ++ ".__init__", d.params, d.body, d.scope, [], []⟩
def fnOf' (es : List ExD) (ds : List Def) : List He.DefD := ds.map Def.dd ++ (es.filter fun d => decide (d.fields ≠ [])).map ExD.dd
theorem mem_lookup {tb : List (Str × GE)} {x : Str} {g : GE} (h : tb.lookup x = some g) : (x, g) ∈ tb := by
  induction tb with
  | nil => cases h
  | cons p r ih =>
    obtain ⟨y, q⟩ := p
    rw [List.lookup_cons] at h
    cases e : x == y with
    | true =>
      rw [e] at h
      have : x = y := by simpa using e
      subst this
      cases h
      exact List.mem_cons_self
    | false => rw [e] at h; exact List.mem_cons_of_mem _ (ih h)
theorem fact_mem {fa : List He.Fa} {fn : List He.DefD} {K : PySem.W.Frag} (c : He.SaysD fa fn K) {f : He.Fa} (h : f ∈ fa) : f.ok K = true := by
  obtain ⟨i, hi, e⟩ := List.getElem_of_mem h
  exact c.fact i (by rw [List.getElem?_eq_getElem hi, e])
/-- what the text alone shows of a def: its scope, its binding -/
structure DefOk (d : Def) : Prop where
  S : FnScope d.N d.ps d.scope
  b : ∀ (kV doc pm : Value) (an : Option Addr) (cdv ct : Value) (us : List Value), us.length = d.ps.length → bindArgs (PySem.W.fnOf d.name d.name d.params d.body d.scope .none kV doc pm an cdv ct) ⟨us, []⟩ = pure (d.ps.zip us)
/-- what the text alone shows of an error's class -/
structure ExOk (d : ExD) : Prop where
  S : FnScope d.ps d.ps d.scope
  hB : InitB d.body d.base d.fields d.ps
  hgb : d.scope.names.lookup d.base = some .globalImplicit
  hdb : (d.base == ("__debug__" : Str)) = false
  hps : ∀ q ∈ d.ps, (q == ("__debug__" : Str)) = false ∧ (q == ("__classdict__" : Str)) = false
  hff : d.fields.Nodup
  b : ∀ (kV doc pm : Value) (an : Option Addr) (cdv ct : Value) (us : List Value), us.length = d.ps.length → bindArgs (PySem.W.fnOf "__init__" (d.name ++ ".__init__") d.params d.body d.scope .none kV doc pm an cdv ct) ⟨us, []⟩ = pure (d.ps.zip us)
def caOf (K : PySem.W.Frag) (es : List ExD) (c : Nat) : Addr := match es[c]? with
  | some d => He.ga K d.name
  | none => 0
/-- the names of fields in the table -/
def flOf (tb : List (Str × GE)) : List Str := tb.filterMap fun p => match p.2 with
  | .fld => some p.1
  | _ => none
theorem law_fn {P : Program} {w : World} {K : PySem.W.Frag} {mg : Str → Option Value} {h : Heap} {ds : List Def} {es : List ExD} {mx : List (List Bool)} {tb : List (Str × GE)} {n fuel : Nat} (KX : K.In h) (G : h.Ns mainGlobals mg) (c : He.SaysD (faOf ds tb) (fnOf' es ds) K) (ce : exAll es mx (flOf tb) K = true)
    (hok : ∀ d ∈ ds, DefOk d) (hex : ∀ d ∈ es, d.fields ≠ [] → ExOk d) (few : ∀ d ∈ es, d.fields.length ≤ 1000) (hmx : mx.length ≤ es.length) (htb : ∀ x i np, tb.lookup x = some (.fn i np) → ∃ d, ds[i]? = some d ∧ d.name = x) (htbE : ∀ x c np, tb.lookup x = some (.exc c np) → ∃ d, es[c]? = some d ∧ d.name = x ∧ (np ≠ 0 → d.fields ≠ [])) {i : Nat} {d : Def} (hd : ds[i]? = some d) {f : Addr} (hf : mg d.name = some (.ref f)) (k : Nat) :
    ∃ fd : FuncData, (∀ (s : Shared) (us : List Value), us.length = d.ps.length → BindsTo s fd ⟨us, []⟩ (d.ps.zip us)) ∧ ∀ base : Heap, FnOk P w K mg base (L2.CX P w) (k + 2) f fd d.ps (spOf ⟨K, caOf K es, fun _ _ _ => False⟩ (fun c => ((es.map (·.fields))[c]?).getD []) (callT (prg es mx ds tb n) fuel k i)) := by
  have hmem : ∀ {j : Nat} {d' : Def}, ds[j]? = some d' → d' ∈ ds := fun e => List.mem_of_getElem? e
  obtain ⟨ce1, ce2⟩ := Bool.and_eq_true_iff.mp ce
  rw [List.all_eq_true] at ce1
  have hex1 : ∀ (j : Nat) (d' : Def), ds[j]? = some d' → ∃ fd, DefAt K mg d' (He.ga K d'.name) fd := by
    intro j d' e
    obtain ⟨fd, F⟩ := c.def_ j (d := d'.dd) (by
      show (ds.map Def.dd ++ _)[j]? = _
      have hj : j < (ds.map Def.dd).length := by rw [List.length_map]; exact (List.getElem?_eq_some_iff.mp e).1
      rw [List.getElem?_append_left hj, List.getElem?_map, e]; rfl)
    have g := He.glo_ok KX G (fact_mem c (f := .glo d'.name) (List.mem_append_left _ (List.mem_map.mpr ⟨d', hmem e, rfl⟩)))
    exact ⟨fd, F, g, (hok d' (hmem e)).S, FunD.bindsN (kws := []) F (hok d' (hmem e)).b⟩
  have hfun : ∃ fdf : Nat → FuncData, ∀ j d', ds[j]? = some d' → DefAt K mg d' (He.ga K d'.name) (fdf j) := by
    refine Classical.axiomOfChoice (r := fun j fd => ∀ d', ds[j]? = some d' → DefAt K mg d' (He.ga K d'.name) fd) fun j => ?_
    cases e : ds[j]? with
    | none => exact ⟨Classical.choice ⟨(Classical.choose (hex1 i d hd))⟩, fun d' q => by cases q⟩
    | some d0 =>
      obtain ⟨fd, h⟩ := hex1 j d0 e
      exact ⟨fd, fun d' q => by cases q; exact h⟩
  obtain ⟨fdf, hfd⟩ := hfun
  have A := hfd i d hd
  have ef : f = He.ga K d.name := by
    have := hf.symm.trans A.g
    cases this; rfl
  refine ⟨fdf i, fun s us hl => FunD.bindsA (kws := []) A.F (hok d (hmem hd)).b s us hl, fun base => ?_⟩
  rw [ef]
  let fa' : Nat → Addr := fun j => match ds[j]? with
    | some d' => He.ga K d'.name
    | none => 0
  have hfa : ∀ {j : Nat} {d' : Def}, ds[j]? = some d' → fa' j = He.ga K d'.name := fun {j d'} e => by
    show (match ds[j]? with | some (d' : Def) => He.ga K d'.name | none => 0) = _
    rw [e]
  have hca : ∀ {j : Nat} {d' : ExD}, es[j]? = some d' → caOf K es j = He.ga K d'.name := fun {j d'} e => by
    unfold caOf
    rw [e]
  have one : ∀ {d' : ExD}, d' ∈ es → exOne K (flOf tb) d' = true := fun h => ce1 _ h
  have glo : ∀ {x : Str}, decide (PySem.W.nsIn K mainGlobals x = some (some (.ref (He.ga K x)))) = true → mg x = some (.ref (He.ga K x)) := fun {x} h => He.glo_ok KX G (show (He.Fa.glo x).ok K = true from h)
  have L := levels (P := P) (w := w) (base := base) (es := es) (mx := mx) (cs := fun c => ((es.map (·.fields))[c]?).getD []) (n := n) (fuel := fuel) (G := ⟨K, caOf K es, fun _ _ _ => False⟩) rfl (fun _ _ _ z => z) rfl (fun c => ?_) (fa := fa') (fd := fdf) (fun j d' e => by rw [hfa e]; exact hfd j d' e) htb (fun x q e => ?_) (fun x hx => He.free_ok KX G (fact_mem c (List.mem_append_right _ (List.mem_append_left _ (List.mem_map.mpr ⟨x, hx, rfl⟩))))) (fun x c0 np e => ?_) (fun c0 c1 b e => ?_) (fun f0 e c0 c1 em => ?_) k i d hd
  · rw [hfa hd] at L
    exact L
  · show (((es.map (·.fields))[c]?).getD []).length ≤ 1000
    rw [List.getElem?_map]
    cases e : es[c]? with
    | none => simp
    | some d0 => exact few d0 (List.mem_of_getElem? e)
  · have m : keyFa x q ∈ faOf ds tb := List.mem_append_right _ (List.mem_append_right _ (List.mem_filterMap.mpr ⟨(x, .key q), mem_lookup e, rfl⟩))
    have o := fact_mem c m
    cases q with
    | inl i =>
      obtain ⟨t, ht⟩ := He.int_ok KX G o
      exact ⟨_, ht, t, rfl⟩
    | inr s =>
      obtain ⟨t, ht⟩ := He.str_ok KX G o
      exact ⟨_, ht, t, rfl⟩
  · obtain ⟨d0, e0, rfl, hne⟩ := htbE x c0 np e
    have m0 := List.mem_of_getElem? e0
    have o := one m0
    unfold exOne at o
    simp only [Bool.and_eq_true] at o
    obtain ⟨⟨⟨o1, o2⟩, o3⟩, o4⟩ := o
    show mg d0.name = some (.ref (caOf K es c0)) ∧ _
    rw [hca e0]
    refine ⟨glo o1, fun hn => ?_⟩
    rw [if_neg (hne hn)] at o4
    simp only [Bool.and_eq_true] at o4
    obtain ⟨⟨⟨⟨⟨p1, p2⟩, p3⟩, p4⟩, p5⟩, p6⟩ := o4
    have hd0 : d0.dd ∈ fnOf' es ds := List.mem_append_right _ (List.mem_map.mpr ⟨d0, List.mem_filter.mpr ⟨m0, by simpa using hne hn⟩, rfl⟩)
    obtain ⟨j, hj, ej⟩ := List.getElem_of_mem hd0
    obtain ⟨fd, F⟩ := c.def_ j (d := d0.dd) (by rw [List.getElem?_eq_getElem hj, ej])
    have X := hex d0 m0 (hne hn)
    have p6' : ∀ f ∈ d0.fields, PySem.W.findIn K (.ref (He.ga K d0.name)) f = some none := fun f hf => of_decide_eq_true ((List.all_eq_true.mp p6) f hf)
    have ecs : (((es.map (·.fields))[c0]?).getD []) = d0.fields := by rw [List.getElem?_map, e0]; rfl
    show ExcAtK P w K mg base (caOf K es c0) (((es.map (·.fields))[c0]?).getD [])
    rw [ecs, hca e0]
    exact ⟨initAd K d0.name, fd, d0.ps, oexB_ok p1, of_decide_eq_true p2, of_decide_eq_true p3, init_ok (k := 0) F X.S X.hB (bseB_ok p4) (glo p5) X.hgb X.hdb X.hps X.hff, FunD.bindsN (kws := []) F X.b, p6'⟩
  · show PySem.W.exmOne K (.ref (caOf K es c0)) (.ref (caOf K es c1)) = some b
    cases er : mx[c0]? with
    | none => rw [er] at e; cases e
    | some row =>
      rw [er] at e
      have e' : row[c1]? = some b := e
      have h0 := (List.getElem?_eq_some_iff.mp er).1
      have h1 := (List.getElem?_eq_some_iff.mp e').1
      unfold exM at ce2
      rw [List.all_eq_true] at ce2
      have q := ce2 c0 (List.mem_range.mpr h0)
      rw [List.all_eq_true] at q
      have q1 := q c1 (List.mem_range.mpr (by rw [er]; exact h1))
      rw [er] at q1
      simp only [Option.bind_some, e'] at q1
      cases ed : es[c0]? with
      | none => rw [ed] at q1; cases q1
      | some d0 =>
        cases ed1 : es[c1]? with
        | none => rw [ed, ed1] at q1; cases q1
        | some d1 =>
          rw [ed, ed1] at q1
          rw [hca ed, hca ed1]
          exact of_decide_eq_true q1
  · show XfC K (caOf K es c0) ∧ PySem.W.findIn K (.ref (caOf K es c0)) f0 = some none
    have hc0 : c0 < es.length := by
      cases er : mx[c0]? with
      | none => rw [er] at em; cases em
      | some row => exact Nat.lt_of_lt_of_le (List.getElem?_eq_some_iff.mp er).1 hmx
    have e0 : es[c0]? = some es[c0] := List.getElem?_eq_getElem hc0
    have o := one (List.mem_of_getElem? e0)
    unfold exOne at o
    simp only [Bool.and_eq_true] at o
    obtain ⟨⟨⟨o1, o2⟩, o3⟩, o4⟩ := o
    rw [hca e0]
    exact ⟨xfB_ok o3, of_decide_eq_true ((List.all_eq_true.mp o2) f0 (List.mem_filterMap.mpr ⟨(f0, .fld), mem_lookup e, rfl⟩))⟩
end TI
end
section
set_option maxHeartbeats 400000
/-! TD4: the walk of a law whose exceptions are told at its world. -/
namespace TI
open PySem L2
theorem walk_w {l : PySem.W.OpenLaw} {n k : Nat} {q : Program} {loose : List Str} {XP : (Str → Option Value) → Heap → Prop} {YP : World → Heap → Prop} {d : PySem.DefRec} {x : Str} (hn : l.most = some n) (hn2 : n ≤ sizeLine) (hdf : d.params.defaults = []) (hr : Room k callerA)
    (F : ∀ (w : World) (mg : Str → Option Value) (fa : Addr) (h : Heap), YP w h → h.Ns mainGlobals mg → mg d.name = some (.ref fa) → ∃ (K : PySem.W.Frag) (fd : FuncData) (sp : Sp), K.In h ∧ (∀ (s : Shared) (u : Value), BindsTo s fd ⟨[u], []⟩ [(x, u)]) ∧
      (∀ (H : Hp) (a : Addr) (ns : List Int), ns.length ≤ n → Only H → SqL K H a (ns.map V.int) → sp [.ref a] H (fun v _ => v = .bl true) fun _ _ _ => False) ∧ ∀ base : Heap, FnOk l.prog w K mg base (L2.CX l.prog w) k fa fd [x] sp) :
    PySem.W.WalkO q loose XP YP l.row.toRowW d [] (fun f vs => PySem.call f vs) := by
  refine Att.attach_call hn hdf fun w s₀ s₁ mg mb fa o pm cd doc a vs ns G Y ho hd hcd hmg hobj hints hlen hg => ?_
  obtain ⟨K, fd, sp, KX, hb, hsp, hF⟩ := F w mg fa _ Y G.T.g hmg
  refine law_call KX G.T.g G.T.b G.T.builtins G.T.nolimit hg hobj hints (Nat.le_trans hlen hn2) hr (fun base _ _ => hF base) hb (fun H hO hS => hsp H a ns hlen hO hS) fun H e s' hc => ?_
  obtain ⟨_, _, _, _, _, _, _, _, _, _, _, _, z⟩ := hc
  exact z
/-! the head's hook: the facts, and a check of the written part -/
def fgC (n : Nat) (g : Addr → Option Obj) : PySem.W.Frag := He.frG g (cStatics :: He.asD g n)
def ckD (n : Nat) (fa : List He.Fa) (fn : List He.DefD) (ck : PySem.W.Frag → Bool) (g : Addr → Option Obj) : He.AlD × Bool := (He.obsD fa fn (fgC n g), ck (fgC n g))
def hookC (n : Nat) (fa : List He.Fa) (fn : List He.DefD) (ck : PySem.W.Frag → Bool) : PySem.W.Hook where
  α := He.AlD × Bool
  obs := fun s => ckD n fa fn ck s.heap.get?
  val := fun _ => (He.valD fn, true)
  says := fun _ h => ∃ K : PySem.W.Frag, K.In h ∧ He.SaysD fa fn K ∧ ck K = true
  of := fun _ _ e => ⟨_, He.frG_in, congrArg Prod.fst e, congrArg Prod.snd e⟩
  keeps := fun _ _ _ ⟨K, hK, c⟩ k => ⟨K, PySem.W.Frag.In.keeps hK k, c⟩
theorem ckD_eq {n : Nat} {fa : List He.Fa} {fn : List He.DefD} {ck : PySem.W.Frag → Bool} {g : Addr → Option Obj} {s : Shared} (h : ∀ a, g a = s.heap.get? a) : ckD n fa fn ck g = (hookC n fa fn ck).obs s := by
  have e : g = s.heap.get? := funext h
  rw [e] <;> rfl
/-- .. from the head's facts and the plain law -/
theorem law_walk {l : PySem.W.OpenLaw} {n k fuel nn i : Nat} {q : Program} {loose : List Str} {XP : (Str → Option Value) → Heap → Prop} {d : PySem.DefRec} {x : Str} {ds : List Def} {es : List ExD} {mx : List (List Bool)} {tb : List (Str × GE)} {m : Nat} {D : Def} (hn : l.most = some n) (hn2 : n ≤ sizeLine) (hdf : d.params.defaults = []) (hr : Room (k + 2) callerA)
    (hok : ∀ d ∈ ds, DefOk d) (hex : ∀ d ∈ es, d.fields ≠ [] → ExOk d) (few : ∀ d ∈ es, d.fields.length ≤ 1000) (hmx : mx.length ≤ es.length) (htb : ∀ x i np, tb.lookup x = some (.fn i np) → ∃ d, ds[i]? = some d ∧ d.name = x) (htbE : ∀ x c np, tb.lookup x = some (.exc c np) → ∃ d, es[c]? = some d ∧ d.name = x ∧ (np ≠ 0 → d.fields ≠ []))
    (hD : ds[i]? = some D) (hps : D.ps = [x]) (hdn : d.name = D.name)
    (hlaw : ∀ ns : List Int, ns.length ≤ n → ∃ fin, callT (prg es mx ds tb nn) fuel k i [.nd .scr false (ns.map .int)] = .ok (.bl true) fin) :
    PySem.W.WalkO q loose XP (hookC m (faOf ds tb) (fnOf' es ds) (exAll es mx (flOf tb))).says l.row.toRowW d [] (fun f vs => PySem.call f vs) := by
  refine walk_w (x := x) (k := k + 2) hn hn2 hdf hr fun w mg fa h Y G hmg => ?_
  obtain ⟨K, KX, c, ce⟩ := Y
  obtain ⟨fd, b, F⟩ := law_fn (P := l.prog) (w := w) (n := nn) (fuel := fuel) KX G c ce hok hex few hmx htb htbE hD (by rw [← hdn]; exact hmg) k
  rw [hps] at b F
  refine ⟨K, fd, _, KX, fun s u => b s [u] rfl, fun H a ns hl hO hS => ?_, F⟩
  obtain ⟨fin, e⟩ := hlaw ns hl
  exact law_end rfl hO hS e
end TI
end
section
set_option maxHeartbeats 400000
/-! TM0: the code run by simp (printed by mktm0.py). Plain Lean. -/
namespace TI.M
open PySem
theorem bind_ok {α β : Type} {a : α} {e : Env} {f : α → Env → Out β} : (Out.ok a e).bind f = f a e := rfl
theorem bind_err {α β : Type} {c : Nat} {xs : List T} {e : Env} {f : α → Env → Out β} : (Out.err c xs e).bind f = .err c xs e := rfl
theorem run_ok {α : Type} {a : α} {e : Env} {f : α → Env → SO} : (Out.ok a e).run f = f a e := rfl
theorem run_err {α : Type} {c : Nat} {xs : List T} {e : Env} {f : α → Env → SO} : (Out.err c xs e : Out α).run f = .err c xs e := rfl
theorem next_nx {e : Env} {f : Env → SO} : (SO.nx e).next f = f e := rfl
theorem next_rt {t : T} {e : Env} {f : Env → SO} : (SO.rt t e).next f = SO.rt t e := rfl
theorem next_bk {e : Env} {f : Env → SO} : (SO.bk e).next f = SO.bk e := rfl
theorem next_ct {e : Env} {f : Env → SO} : (SO.ct e).next f = SO.ct e := rfl
theorem next_err {c : Nat} {xs : List T} {e : Env} {f : Env → SO} : (SO.err c xs e).next f = SO.err c xs e := rfl
/-- what is not looked into -/
structure Tg {α : Sort u} (f : α) : Type where
def bindD {α β : Type} (o : Out α) (f : α → Env → Out β) (_ : Tg f) : Out β := o.bind f
def runD {α : Type} (o : Out α) (f : α → Env → SO) (_ : Tg f) : SO := o.run f
def nextD (o : SO) (f : Env → SO) (_ : Tg f) : SO := o.next f
@[simp] theorem bindD_ok {α β : Type} {a : α} {e : Env} {f : α → Env → Out β} {t : Tg f} : bindD (Out.ok a e) f t = f a e := rfl
@[simp] theorem bindD_err {α β : Type} {c : Nat} {xs : List T} {e : Env} {f : α → Env → Out β} {t : Tg f} : bindD (Out.err c xs e) f t = .err c xs e := rfl
@[simp] theorem runD_ok {α : Type} {a : α} {e : Env} {f : α → Env → SO} {t : Tg f} : runD (Out.ok a e) f t = f a e := rfl
@[simp] theorem runD_err {α : Type} {c : Nat} {xs : List T} {e : Env} {f : α → Env → SO} {t : Tg f} : runD (Out.err c xs e : Out α) f t = .err c xs e := rfl
@[simp] theorem nextD_nx {e : Env} {f : Env → SO} {t : Tg f} : nextD (SO.nx e) f t = f e := rfl
@[simp] theorem nextD_rt {x : T} {e : Env} {f : Env → SO} {t : Tg f} : nextD (SO.rt x e) f t = SO.rt x e := rfl
@[simp] theorem nextD_bk {e : Env} {f : Env → SO} {t : Tg f} : nextD (SO.bk e) f t = SO.bk e := rfl
@[simp] theorem nextD_ct {e : Env} {f : Env → SO} {t : Tg f} : nextD (SO.ct e) f t = SO.ct e := rfl
@[simp] theorem nextD_err {c : Nat} {xs : List T} {e : Env} {f : Env → SO} {t : Tg f} : nextD (SO.err c xs e) f t = SO.err c xs e := rfl
/-! ### pieces by their parts -/
def rdO (i : Nat) (o : Option (Option T)) (env : Env) : Out RV := match o with
  | some (some t) => if t.free then .ok (.tmp t) env else .ok (.plc i []) env
  | _ => .stuck
@[simp] theorem rdO_s {i : Nat} {t : T} {env : Env} : rdO i (some (some t)) env = if t.free = true then .ok (.tmp t) env else .ok (.plc i []) env := rfl
def mvO (K : Ek) (i : Nat) (o : Option (Option T)) (env : Env) : Out T := match o with
  | some (some t) => if t.free then .ok t env else if K.open_ i = true ∧ K.pn.contains i = false ∧ t.whole = true then .ok t (env.set i none) else valR K (.plc i []) env
  | _ => .stuck
@[simp] theorem mvO_s {K : Ek} {i : Nat} {t : T} {env : Env} : mvO K i (some (some t)) env = if t.free = true then .ok t env else if K.open_ i = true ∧ K.pn.contains i = false ∧ t.whole = true then .ok t (env.set i none) else valR K (.plc i []) env := rfl
def lookO (o : Option (Option T)) (p : List Nat) : Option T := match o with
  | some (some t) => t.get p
  | _ => none
@[simp] theorem look_t {e : Env} {t : T} : lookR e (.tmp t) = some t := rfl
@[simp] theorem look_p {e : Env} {r : Nat} {p : List Nat} : lookR e (.plc r p) = lookO e[r]? p := rfl
@[simp] theorem lookO_s {t : T} {p : List Nat} : lookO (some (some t)) p = t.get p := rfl
@[simp] theorem get_nil {t : T} : t.get [] = some t := by cases t <;> rfl
def liftR (o : Option T) (e : Env) : Out RV := match o with
  | some z => .ok (.tmp z) e
  | none => .stuck
@[simp] theorem liftR_s {z : T} {e : Env} : liftR (some z) e = .ok (.tmp z) e := rfl
@[simp] theorem lift_s {α : Type} {z : α} {e : Env} : lift (some z) e = .ok z e := rfl
def op2 (f : T → T → Option T) (x y : Option T) (e : Env) : Out RV := match x, y with
  | some t, some u => liftR (f t u) e
  | _, _ => .stuck
@[simp] theorem op2_s {f : T → T → Option T} {t u : T} {e : Env} : op2 f (some t) (some u) e = liftR (f t u) e := rfl
theorem op2_eq {f : T → T → Option T} {x y : RV} {e : Env} : (match lookR e x, lookR e y with
  | some t, some u => (lift (f t u) e).bind fun z e => Out.ok (.tmp z) e
  | _, _ => .stuck) = op2 f (lookR e x) (lookR e y) e := by
  unfold op2
  cases lookR e x <;> cases lookR e y <;> first | rfl | skip
  rename_i t u
  show (lift (f t u) e).bind _ = liftR (f t u) e
  cases f t u <;> rfl
@[simp ↓] theorem withP_t {α : Type} {K : Ek} {e : Env} {t : T} {f : Ek → Out α} : K.withP e (.tmp t) f = f K := rfl
@[simp ↓] theorem withP_s {α : Type} {K : Ek} {e : Env} {i : Nat} {f : Ek → Out α} : K.withP e (.plc i []) f = f K := rfl
def wpO {α : Type} (o : Option T) (K : Ek) (i : Nat) (f : Ek → Out α) (_ : Tg f) : Out α := match o with
  | some _ => f (K.lock i)
  | none => .stuck
@[simp] theorem wpO_s {α : Type} {t : T} {K : Ek} {i : Nat} {f : Ek → Out α} {g : Tg f} : wpO (some t) K i f g = f (K.lock i) := rfl
@[simp ↓] theorem withP_d {α : Type} {K : Ek} {e : Env} {i j : Nat} {p : List Nat} {f : Ek → Out α} : K.withP e (.plc i (j :: p)) f = wpO (lookO e[i]? (j :: p)) K i f ⟨⟩ := by
  show (match lookR e (.plc i (j :: p)) with | some _ => f (K.lock i) | none => .stuck) = _
  rw [look_p]
  cases lookO e[i]? (j :: p) <;> rfl
def valP (K : Ek) (r : Nat) (p : List Nat) (env : Env) (t : T) (o : Option T) : Out T := match o with
  | some x => if K.open_ r && x.whole then .ok x.frz (env.set r (some (T.set x.frz t p))) else .stuck
  | none => .stuck
def valO (K : Ek) (r : Nat) (p : List Nat) (env : Env) (o : Option (Option T)) : Out T := match o with
  | some (some t) => valP K r p env t (t.get p)
  | _ => .stuck
@[simp] theorem valR_t {K : Ek} {t : T} {env : Env} : valR K (.tmp t) env = .ok t env := rfl
@[simp] theorem valR_p {K : Ek} {r : Nat} {p : List Nat} {env : Env} : valR K (.plc r p) env = valO K r p env env[r]? := rfl
@[simp] theorem valO_s {K : Ek} {r : Nat} {p : List Nat} {env : Env} {t : T} : valO K r p env (some (some t)) = valP K r p env t (t.get p) := rfl
@[simp] theorem valP_s {K : Ek} {r : Nat} {p : List Nat} {env : Env} {t x : T} : valP K r p env t (some x) = if (K.open_ r && x.whole) = true then .ok x.frz (env.set r (some (T.set x.frz t p))) else .stuck := rfl
def updF (r : Nat) (p : List Nat) (env : Env) (t : T) (o : Option (T × T)) : Out T := match o with
  | some (v, x') => .ok v (env.set r (some (T.set x' t p)))
  | none => .stuck
def updP (K : Ek) (r : Nat) (p : List Nat) (f : T → Option (T × T)) (env : Env) (t : T) (o : Option T) : Out T := match o with
  | some x => if K.open_ r then updF r p env t (f x) else .stuck
  | none => .stuck
def updO (K : Ek) (r : Nat) (p : List Nat) (f : T → Option (T × T)) (env : Env) (o : Option (Option T)) : Out T := match o with
  | some (some t) => updP K r p f env t (t.get p)
  | _ => .stuck
def updT (o : Option (T × T)) (env : Env) : Out T := match o with
  | some (v, _) => .ok v env
  | none => .stuck
@[simp] theorem upd_t {K : Ek} {t : T} {f : T → Option (T × T)} {env : Env} : upd K (.tmp t) f env = updT (f t) env := rfl
@[simp] theorem updT_s {v x : T} {env : Env} : updT (some (v, x)) env = .ok v env := rfl
@[simp] theorem upd_p {K : Ek} {r : Nat} {p : List Nat} {f : T → Option (T × T)} {env : Env} : upd K (.plc r p) f env = updO K r p f env env[r]? := rfl
@[simp] theorem updO_s {K : Ek} {r : Nat} {p : List Nat} {f : T → Option (T × T)} {env : Env} {t : T} : updO K r p f env (some (some t)) = updP K r p f env t (t.get p) := rfl
@[simp] theorem updP_s {K : Ek} {r : Nat} {p : List Nat} {f : T → Option (T × T)} {env : Env} {t x : T} : updP K r p f env t (some x) = if K.open_ r = true then updF r p env t (f x) else .stuck := rfl
@[simp] theorem updF_s {r : Nat} {p : List Nat} {env : Env} {t v x : T} : updF r p env t (some (v, x)) = .ok v (env.set r (some (T.set x t p))) := rfl
@[simp] theorem set_nil {u t : T} : T.set u t [] = u := by cases t <;> rfl
@[simp] theorem bind1_eq {K : Ek} {i : Nat} {v : T} {env : Env} : bind1 K i v env = if i < env.length ∧ K.open_ i = true ∧ K.pn.contains i = false then .ok () (env.set i (some v)) else .stuck := rfl
@[simp] theorem open_eq {K : Ek} {r : Nat} : K.open_ r = !K.lc.contains r := rfl
/-! taking, putting back -/
def tkT (t : T) (o : Option (List T × List (Option T) × Env)) : Option (List T × List (Option T) × Env) := match o with
  | some (ts, us, e) => some (t :: ts, none :: us, e)
  | none => none
def tkX (x t : T) (o : Option (List T × List (Option T) × Env)) : Option (List T × List (Option T) × Env) := match o with
  | some (ts, us, e) => some (x :: ts, some t :: us, e)
  | none => none
def tkP (K : Ek) (i : Nat) (r : List RV) (env : Env) (t : T) (o : Option T) : Option (List T × List (Option T) × Env) := match o with
  | some x => if K.open_ i && x.whole then tkX x t (takeA K r (env.set i none)) else none
  | none => none
def tkO (K : Ek) (i : Nat) (p : List Nat) (r : List RV) (env : Env) (o : Option (Option T)) : Option (List T × List (Option T) × Env) := match o with
  | some (some t) => tkP K i r env t (t.get p)
  | _ => none
@[simp] theorem take_nil {K : Ek} {env : Env} : takeA K [] env = some ([], [], env) := rfl
@[simp] theorem take_t {K : Ek} {t : T} {r : List RV} {env : Env} : takeA K (.tmp t :: r) env = tkT t (takeA K r env) := rfl
@[simp] theorem take_p {K : Ek} {i : Nat} {p : List Nat} {r : List RV} {env : Env} : takeA K (.plc i p :: r) env = tkO K i p r env env[i]? := rfl
@[simp] theorem tkO_s {K : Ek} {i : Nat} {p : List Nat} {r : List RV} {env : Env} {t : T} : tkO K i p r env (some (some t)) = tkP K i r env t (t.get p) := rfl
@[simp] theorem tkP_s {K : Ek} {i : Nat} {r : List RV} {env : Env} {t x : T} : tkP K i r env t (some x) = if (K.open_ i && x.whole) = true then tkX x t (takeA K r (env.set i none)) else none := rfl
@[simp] theorem tkT_s {t : T} {ts : List T} {us : List (Option T)} {e : Env} : tkT t (some (ts, us, e)) = some (t :: ts, none :: us, e) := rfl
@[simp] theorem tkX_s {x t : T} {ts : List T} {us : List (Option T)} {e : Env} : tkX x t (some (ts, us, e)) = some (x :: ts, some t :: us, e) := rfl
def callE (rvs : List RV) (us : List (Option T)) (e : Env) (o : CO) : Out RV := match o with
  | .ok t fin => .ok (.tmp t) (putA rvs fin us e)
  | .err c xs fin => .err c xs (putA rvs fin us e)
  | .stuck => .stuck
def callO (f : List T → CO) (rvs : List RV) (o : Option (List T × List (Option T) × Env)) : Out RV := match o with
  | some (ts, us, e) => callE rvs us e (f ts)
  | none => .stuck
@[simp] theorem callA_eq {K : Ek} {f : List T → CO} {rvs : List RV} {env : Env} : callA K f rvs env = callO f rvs (takeA K rvs env) := rfl
@[simp] theorem callO_s {f : List T → CO} {rvs : List RV} {ts : List T} {us : List (Option T)} {e : Env} : callO f rvs (some (ts, us, e)) = callE rvs us e (f ts) := rfl
@[simp] theorem callE_ok {rvs : List RV} {us : List (Option T)} {e : Env} {t : T} {fin : List T} : callE rvs us e (.ok t fin) = .ok (.tmp t) (putA rvs fin us e) := rfl
@[simp] theorem callE_err {rvs : List RV} {us : List (Option T)} {e : Env} {c : Nat} {xs fin : List T} : callE rvs us e (.err c xs fin) = .err c xs (putA rvs fin us e) := rfl
@[simp] theorem putA_nil {ts : List T} {us : List (Option T)} {env : Env} : putA [] ts us env = env := by unfold putA; rfl
@[simp] theorem putA_t {t u : T} {r : List RV} {ts : List T} {us : List (Option T)} {env : Env} : putA (.tmp t :: r) (u :: ts) (none :: us) env = putA r ts us env := rfl
@[simp] theorem putA_p {i : Nat} {p : List Nat} {t u : T} {r : List RV} {ts : List T} {us : List (Option T)} {env : Env} : putA (.plc i p :: r) (t :: ts) (some u :: us) env = putA r ts us (env.set i (some (T.set t u p))) := rfl
@[simp] theorem lookAll_nil {e : Env} : lookAll e [] = some [] := rfl
def laO (o : Option T) (p : Option (List T)) : Option (List T) := match o, p with
  | some t, some ts => some (t :: ts)
  | _, _ => none
@[simp] theorem lookAll_cons {e : Env} {x : RV} {r : List RV} : lookAll e (x :: r) = laO (lookR e x) (lookAll e r) := by
  show (match lookR e x, lookAll e r with | some t, some ts => some (t :: ts) | _, _ => none) = _
  unfold laO
  cases lookR e x <;> cases lookAll e r <;> rfl
@[simp] theorem laO_s {t : T} {ts : List T} : laO (some t) (some ts) = some (t :: ts) := rfl
@[simp] theorem lockR_t {K : Ek} {t : T} : K.lockR (.tmp t) = K := rfl
@[simp] theorem lockR_p {K : Ek} {r : Nat} {p : List Nat} : K.lockR (.plc r p) = K.lock r := rfl
@[simp] theorem lockRs_nil {K : Ek} : K.lockRs [] = K := rfl
@[simp] theorem lockRs_cons {K : Ek} {x : RV} {r : List RV} : K.lockRs (x :: r) = (K.lockR x).lockRs r := rfl
/-! what surrounds -/
def KK (P : Prg) (fuel k : Nat) (lc pn : List Nat) : Ek := { ekOf P fuel (callT P fuel k) with lc := lc, pn := pn }
@[simp] theorem KK_lc {P : Prg} {fuel k : Nat} {lc pn : List Nat} : (KK P fuel k lc pn).lc = lc := rfl
@[simp] theorem KK_pn {P : Prg} {fuel k : Nat} {lc pn : List Nat} : (KK P fuel k lc pn).pn = pn := rfl
@[simp] theorem KK_fuel {P : Prg} {fuel k : Nat} {lc pn : List Nat} : (KK P fuel k lc pn).fuel = fuel := rfl
@[simp] theorem KK_lock {P : Prg} {fuel k r : Nat} {lc pn : List Nat} : (KK P fuel k lc pn).lock r = KK P fuel k (r :: lc) pn := rfl
/-- all but some -/
def pinL (own : List Nat) (n : Nat) : List Nat := (List.range n).filter fun i => !own.contains i
@[simp] theorem KK_pinO {P : Prg} {fuel k n : Nat} {lc pn own : List Nat} : (KK P fuel k lc pn).pinO own n = KK P fuel k lc (pinL own n) := rfl
@[simp] theorem pinL_has {own : List Nat} {n i : Nat} : (pinL own n).contains i = (decide (i < n) && !own.contains i) := by
  show ((List.range n).filter fun i => !own.contains i).contains i = _
  rw [Bool.eq_iff_iff]
  simp
@[simp] theorem mem_pinL {own : List Nat} {n i : Nat} : i ∈ pinL own n ↔ i < n ∧ i ∉ own := by simp [pinL]
@[simp] theorem KK_cl {P : Prg} {fuel k : Nat} {lc pn : List Nat} : (KK P fuel k lc pn).cl = callT P fuel k := rfl
/-! ### readings -/
section
variable (K : Ek) (env : Env) (a b c i es r tg e t x y lo hi st it tst elt body tgs : C)
@[simp] theorem r_var (j : Nat) : (ev (.var j)).r K env = rdO j env[j]? env := rfl
@[simp] theorem m_var (j : Nat) : (ev (.var j)).m K env = mvO K j env[j]? env := rfl
@[simp] theorem r_glb (x v) : (ev (.glb x v)).r K env = .ok (.tmp (Key.t v)) env := rfl
@[simp] theorem r_int (j : Int) : (ev (.int j)).r K env = .ok (.tmp (.int j)) env := rfl
@[simp] theorem r_str (s) : (ev (.str s)).r K env = .ok (.tmp (.str s)) env := rfl
@[simp] theorem r_bl (s) : (ev (.bl s)).r K env = .ok (.tmp (.bl s)) env := rfl
@[simp] theorem r_non : (ev .non).r K env = .ok (.tmp .non) env := rfl
def tupO (xs : List T) (e : Env) : Out RV := if xs.length ≤ lim then .ok (.tmp (.nd .tup (!T.freeL xs) xs)) e else .stuck
@[simp] theorem tupO_eq {xs : List T} {e : Env} : tupO xs e = if xs.length ≤ lim then .ok (.tmp (.nd .tup (!T.freeL xs) xs)) e else .stuck := rfl
@[simp] theorem r_tup : (ev (.tup es)).r K env = bindD ((ev es).v K env) (fun xs e => tupO xs e) ⟨⟩ := rfl
def tupM (xs : List T) (e : Env) : Out T := if xs.length ≤ lim then .ok (.nd .tup (!T.freeL xs) xs) e else .stuck
@[simp] theorem tupM_eq {xs : List T} {e : Env} : tupM xs e = if xs.length ≤ lim then .ok (.nd .tup (!T.freeL xs) xs) e else .stuck := rfl
@[simp] theorem m_tup : (ev (.tup es)).m K env = bindD ((ev es).n K env) (fun xs e => tupM xs e) ⟨⟩ := rfl
def lstO (xs : List T) (e : Env) : Out RV := if xs.length ≤ lim ∧ T.wholeL xs = true then .ok (.tmp (.lst true (T.frzL xs))) e else .stuck
@[simp] theorem lstO_eq {xs : List T} {e : Env} : lstO xs e = if xs.length ≤ lim ∧ T.wholeL xs = true then .ok (.tmp (.lst true (T.frzL xs))) e else .stuck := rfl
@[simp] theorem r_lst : (ev (.lst es)).r K env = bindD ((ev es).v K env) (fun xs e => lstO xs e) ⟨⟩ := rfl
@[simp] theorem r_bin (op) : (ev (.bin op a b)).r K env = bindD ((ev a).r K env) (fun x e => bindD (K.withP e x fun K => (ev b).r K e) (fun y e => op2 (binT op) (lookR e x) (lookR e y) e) ⟨⟩) ⟨⟩ := by
  show Out.bind _ _ = Out.bind _ _
  congr 1
  funext x e
  congr 1
  funext y e
  exact op2_eq
@[simp] theorem r_cmp (op) : (ev (.cmp op a b)).r K env = bindD ((ev a).r K env) (fun x e => bindD (K.withP e x fun K => (ev b).r K e) (fun y e => op2 (fun t u => (cmpT op t u).map .bl) (lookR e x) (lookR e y) e) ⟨⟩) ⟨⟩ := by
  show Out.bind _ _ = Out.bind _ _
  congr 1
  funext x e
  congr 1
  funext y e
  exact op2_eq
def negO (x : RV) (e : Env) : Out RV := match x with
  | .tmp (.int i) => .ok (.tmp (.int (-i))) e
  | _ => .stuck
@[simp] theorem negO_s {j : Int} {e : Env} : negO (.tmp (.int j)) e = .ok (.tmp (.int (-j))) e := rfl
@[simp] theorem r_neg : (ev (.neg a)).r K env = bindD ((ev a).r K env) (fun x e => negO x e) ⟨⟩ := rfl
def truO (o : Option T) (e : Env) : Out Bool := match o with
  | some t => lift (truT t) e
  | none => .stuck
@[simp] theorem truO_s {t : T} {e : Env} : truO (some t) e = lift (truT t) e := rfl
@[simp] theorem truR_eq (f) : truR f K env = bindD (f K env) (fun x e => truO (lookR e x) e) ⟨⟩ := rfl
@[simp] theorem r_not : (ev (.notv a)).r K env = bindD (truR (ev a).r K env) (fun b e => .ok (.tmp (.bl (!b))) e) ⟨⟩ := rfl
@[simp] theorem b_not : (ev (.notv a)).b K env = bindD ((ev a).b K env) (fun b e => .ok (!b) e) ⟨⟩ := rfl
def andO (x : RV) (e : Env) (f : Out RV) (_ : Tg f) : Out RV := match x with
  | .tmp (.bl c) => if c = true then f else .ok (.tmp (.bl false)) e
  | _ => .stuck
@[simp] theorem andO_s {c : Bool} {e : Env} {f : Out RV} {g : Tg f} : andO (.tmp (.bl c)) e f g = if c = true then f else .ok (.tmp (.bl false)) e := rfl
@[simp] theorem r_and : (ev (.andv a b)).r K env = bindD ((ev a).r K env) (fun x e => andO x e ((ev b).r K e) ⟨⟩) ⟨⟩ := rfl
@[simp] theorem b_and : (ev (.andv a b)).b K env = bindD ((ev a).b K env) (fun c e => if c = true then (ev b).b K e else .ok false e) ⟨⟩ := rfl
def orO (x : RV) (e : Env) (f : Out RV) (_ : Tg f) : Out RV := match x with
  | .tmp (.bl c) => if c = true then .ok (.tmp (.bl true)) e else f
  | _ => .stuck
@[simp] theorem orO_s {c : Bool} {e : Env} {f : Out RV} {g : Tg f} : orO (.tmp (.bl c)) e f g = if c = true then .ok (.tmp (.bl true)) e else f := rfl
@[simp] theorem r_or : (ev (.orv a b)).r K env = bindD ((ev a).r K env) (fun x e => orO x e ((ev b).r K e) ⟨⟩) ⟨⟩ := rfl
@[simp] theorem b_or : (ev (.orv a b)).b K env = bindD ((ev a).b K env) (fun c e => if c = true then .ok true e else (ev b).b K e) ⟨⟩ := rfl
def chF (o2 : CP) (u : T) (w : RV) (e : Env) : Out RV := match w with
  | .tmp v => (lift (cmpT o2 u v) e).bind fun z e => .ok (.tmp (.bl z)) e
  | _ => .stuck
@[simp] theorem chF_s {o2 : CP} {u v : T} {e : Env} : chF o2 u (.tmp v) e = bindD (lift (cmpT o2 u v) e) (fun z e => .ok (.tmp (.bl z)) e) ⟨⟩ := rfl
def chO (o1 o2 : CP) (K : Ek) (c : C) (x y : RV) (e : Env) : Out RV := match x, y with
  | .tmp t, .tmp u => if u.free = false then .stuck else (lift (cmpT o1 t u) e).bind fun z e => if z = true then ((ev c).r K e).bind fun w e => chF o2 u w e else .ok (.tmp (.bl false)) e
  | _, _ => .stuck
@[simp] theorem chO_s {o1 o2 : CP} {t u : T} {e : Env} : chO o1 o2 K c (.tmp t) (.tmp u) e = if u.free = false then .stuck else bindD (lift (cmpT o1 t u) e) (fun z e => if z = true then bindD ((ev c).r K e) (fun w e => chF o2 u w e) ⟨⟩ else .ok (.tmp (.bl false)) e) ⟨⟩ := rfl
@[simp] theorem r_chain (o1 o2) : (ev (.chain o1 o2 a b c)).r K env = bindD ((ev a).r K env) (fun x e => bindD (K.withP e x fun K => (ev b).r K e) (fun y e => chO o1 o2 K c x y e) ⟨⟩) ⟨⟩ := rfl
@[simp] theorem r_ife : (ev (.ife t a b)).r K env = bindD ((ev t).b K env) (fun c e => if c = true then (ev a).r K e else (ev b).r K e) ⟨⟩ := rfl
@[simp] theorem b_ife : (ev (.ife t a b)).b K env = bindD ((ev t).b K env) (fun c e => if c = true then (ev a).b K e else (ev b).b K e) ⟨⟩ := rfl
def ixO (x : RV) (o : Option T) (y : RV) (e : Env) : Out RV := match o, y with
  | some t, .tmp u => lift (ixR x t u) e
  | _, _ => .stuck
@[simp] theorem ixO_s {x : RV} {t u : T} {e : Env} : ixO x (some t) (.tmp u) e = lift (ixR x t u) e := rfl
theorem bind_id {α : Type} {o : Out α} : (o.bind fun z e => .ok z e) = o := by cases o <;> rfl
@[simp] theorem r_ix : (ev (.ix a i)).r K env = bindD ((ev a).r K env) (fun x e => bindD (K.withP e x fun K => (ev i).r K e) (fun y e => ixO x (lookR e x) y e) ⟨⟩) ⟨⟩ := by
  show Out.bind _ _ = Out.bind _ _
  congr 1
  funext x e
  congr 1
  funext y e
  unfold ixO
  cases lookR e x <;> cases y <;> first | rfl | exact bind_id
def slO (o : Option T) (lh : Option Int × Option Int) (e : Env) : Out RV := match o with
  | some t => liftR (slT lh.1 lh.2 t) e
  | none => .stuck
@[simp] theorem slO_s {t : T} {lo hi : Option Int} {e : Env} : slO (some t) (lo, hi) e = liftR (slT lo hi t) e := rfl
theorem lift_r {o : Option T} {e : Env} : ((lift o e).bind fun z e => .ok (.tmp z) e) = liftR o e := by cases o <;> rfl
@[simp] theorem r_sl : (ev (.sl a lo hi)).r K env = bindD ((ev a).r K env) (fun x e => bindD (K.withP e x fun K => bindD ((ev lo).o K e) (fun l e => bindD ((ev hi).o K e) (fun h e => .ok (l, h) e) ⟨⟩) ⟨⟩) (fun lh e => slO (lookR e x) lh e) ⟨⟩) ⟨⟩ := by
  show Out.bind _ _ = Out.bind _ _
  congr 1
  funext x e
  congr 1
  funext y e
  unfold slO
  cases lookR e x <;> first | rfl | exact lift_r
def slsO (o : Option T) (y : RV) (e : Env) : Out RV := match o, y with
  | some t, .tmp (.int s) => liftR (slsT s t) e
  | _, _ => .stuck
@[simp] theorem slsO_s {t : T} {s : Int} {e : Env} : slsO (some t) (.tmp (.int s)) e = liftR (slsT s t) e := rfl
@[simp] theorem r_sls : (ev (.sls a st)).r K env = bindD ((ev a).r K env) (fun x e => bindD (K.withP e x fun K => (ev st).r K e) (fun y e => slsO (lookR e x) y e) ⟨⟩) ⟨⟩ := by
  show Out.bind _ _ = Out.bind _ _
  congr 1
  funext x e
  congr 1
  funext y e
  unfold slsO
  cases lookR e x with
  | none => cases y <;> rfl
  | some t =>
    cases y with
    | plc _ _ => rfl
    | tmp u => cases u <;> first | rfl | exact lift_r
@[simp] theorem r_call (f : Nat) : (ev (.call f es)).r K env = bindD ((ev es).l K env) (fun rvs e => callA K (K.cl f) rvs e) ⟨⟩ := rfl
def biO (q : Bi) (o : Option (List T)) (e : Env) : Out RV := match o with
  | some ts => liftR (biT q ts) e
  | none => .stuck
@[simp] theorem biO_s {q : Bi} {ts : List T} {e : Env} : biO q (some ts) e = liftR (biT q ts) e := rfl
@[simp] theorem r_bi (q : Bi) : (ev (.bi q es)).r K env = bindD ((ev es).l K env) (fun rvs e => biO q (lookAll e rvs) e) ⟨⟩ := by
  show Out.bind _ _ = Out.bind _ _
  congr 1
  funext x e
  unfold biO
  cases lookAll e x <;> first | rfl | exact lift_r
def isO (cs : List Cl) (o : Option T) (e : Env) : Out RV := match o with
  | some t => liftR ((anyO (cs.map fun c => clT c t)).map .bl) e
  | none => .stuck
@[simp] theorem isO_s {cs : List Cl} {t : T} {e : Env} : isO cs (some t) e = liftR ((anyO (cs.map fun c => clT c t)).map .bl) e := rfl
@[simp] theorem r_isi (cs : List Cl) : (ev (.isi a cs)).r K env = bindD ((ev a).r K env) (fun x e => isO cs (lookR e x) e) ⟨⟩ := by
  show Out.bind _ _ = Out.bind _ _
  congr 1
  funext x e
  unfold isO
  cases lookR e x with
  | none => rfl
  | some t =>
    show (lift (anyO (cs.map fun c => clT c t)) e).bind _ = liftR _ e
    cases anyO (cs.map fun c => clT c t) <;> rfl
def mtO (m : Mt) (o : Option T) (p : Option (List T)) (e : Env) : Out RV := match o, p with
  | some t, some ts => liftR (mtT m t ts) e
  | _, _ => .stuck
@[simp] theorem mtO_s {m : Mt} {t : T} {ts : List T} {e : Env} : mtO m (some t) (some ts) e = liftR (mtT m t ts) e := rfl
@[simp] theorem r_mt (m : Mt) : (ev (.mt m a es)).r K env = bindD ((ev a).r K env) (fun x e => if mtOk m x e = true then bindD (K.withP e x fun K => (ev es).l K e) (fun rvs e => mtO m (lookR e x) (lookAll e rvs) e) ⟨⟩ else .stuck) ⟨⟩ := by
  show Out.bind _ _ = Out.bind _ _
  congr 1
  funext x e
  congr 1
  show Out.bind _ _ = Out.bind _ _
  congr 1
  funext y e
  unfold mtO
  cases lookR e x <;> cases lookAll e y <;> first | rfl | exact lift_r
@[simp] theorem mtOk_join {s : Str} {e : Env} : mtOk .join (.tmp (.str s)) e = true := rfl
@[simp] theorem mtOk_split {s : Str} {e : Env} : mtOk .split (.tmp (.str s)) e = true := rfl
def mmE (K : Ek) (m : Mm) (x : RV) (ts : List T) (e : Env) : Out RV := if T.wholeL ts = true then (upd K x (fun t => mmT m t ts) e).bind fun z e => .ok (.tmp z) e else .stuck
@[simp] theorem mmE_eq {m : Mm} {x : RV} {ts : List T} {e : Env} : mmE K m x ts e = if T.wholeL ts = true then bindD (upd K x (fun t => mmT m t ts) e) (fun z e => .ok (.tmp z) e) ⟨⟩ else .stuck := rfl
@[simp] theorem r_mm (m : Mm) : (ev (.mm m a es)).r K env = bindD ((ev a).r K env) (fun x e => if isLst (lookR e x) = true then bindD (K.withP e x fun K => (ev es).v K e) (fun ts e => mmE K m x ts e) ⟨⟩ else .stuck) ⟨⟩ := rfl
@[simp] theorem isLst_s {f : Bool} {xs : List T} : isLst (some (.nd .lst f xs)) = true := rfl
/-- a comprehension's turns, then its end -/
def lcE (own : List Nat) (e : Env) (o : Out (List T)) : Out RV := match o with
  | .ok acc e2 => .ok (.tmp (.lst true acc)) (backE own e e2)
  | _ => .stuck
@[simp] theorem lcE_s {own : List Nat} {e e2 : Env} {acc : List T} : lcE own e (.ok acc e2) = .ok (.tmp (.lst true acc)) (backE own e e2) := rfl
def lcB (K : Ek) (elt : C) (acc : List T) (e : Env) : Out (List T) := ((ev elt).r K e).bind fun rv e => (valR K rv e).bind fun v e => if acc.length < lim ∧ v.whole = true then .ok (acc ++ [v.frz]) e else .stuck
def lcG (own : List Nat) (K : Ek) (tg tst elt : C) (its : List T) (e : Env) : Out RV := if ownOk K own e = true then lcE own e (compL own ((ev tg).a (K.pinO own e.length)) ((ev tst).t K) (lcB K elt) its [] (wipeE own e)) else .stuck
def lcI (own : List Nat) (K : Ek) (tg tst elt : C) (rvs : List RV) (o : Option (List T)) (e : Env) : Out RV := match o with
  | some its => lcG own (K.lockRs rvs) tg tst elt its e
  | none => .stuck
def lcL (own : List Nat) (K : Ek) (tg tst elt : C) (rvs : List RV) (k : IK) (o : Option (List T)) (e : Env) : Out RV := match o with
  | some ts => lcI own K tg tst elt rvs (itemsK k ts) e
  | none => .stuck
@[simp] theorem lcL_s {own : List Nat} {rvs : List RV} {k : IK} {ts : List T} {e : Env} : lcL own K tg tst elt rvs k (some ts) e = lcI own K tg tst elt rvs (itemsK k ts) e := rfl
@[simp] theorem lcI_s {own : List Nat} {rvs : List RV} {ts : List T} {e : Env} : lcI own K tg tst elt rvs (some ts) e = lcG own (K.lockRs rvs) tg tst elt ts e := rfl
@[simp] theorem r_lc (own : List Nat) : (ev (.lc own tg it tst elt)).r K env = bindD ((ev it).i K env) (fun q e => lcL own K tg tst elt q.1 q.2 (lookAll e q.1) e) ⟨⟩ := rfl
@[simp] theorem r_fstr : (ev (.fstr es)).r K env = bindD ((ev es).f K ⟨#[]⟩ env) (fun s e => .ok (.tmp (.str s)) e) ⟨⟩ := rfl
@[simp] theorem f_nil (s : Str) : (ev .nil).f K s env = .ok s env := rfl
def fsO (K : Ek) (r : C) (acc : Str) (o : Option Str) (e : Env) : Out Str := match o with
  | some s => if (acc ++ s).length ≤ lim then (ev r).f K (acc ++ s) e else .stuck
  | none => .stuck
@[simp] theorem fsO_s {acc s : Str} {e : Env} : fsO K r acc (some s) e = if (acc ++ s).length ≤ lim then (ev r).f K (acc ++ s) e else .stuck := rfl
@[simp] theorem f_cons (s : Str) : (ev (.cons a r)).f K s env = bindD ((ev a).r K env) (fun x e => fsO K r s (fmtR x) e) ⟨⟩ := rfl
@[simp] theorem fmt_str {s : Str} : fmtR (.tmp (.str s)) = if s.length ≤ lim then some s else none := rfl
@[simp] theorem fmt_int {j : Int} : fmtR (.tmp (.int j)) = if j.natAbs < 2 ^ 1900 then some (Str.ofString (toString j)) else none := rfl
def r1O (x : RV) (e : Env) : Out (List RV × IK) := match x with
  | .tmp (.int n) => if -1000000 < n ∧ n < 1000000 then .ok ([], .range 0 n.toNat) e else .stuck
  | _ => .stuck
@[simp] theorem r1O_s {n : Int} {e : Env} : r1O (.tmp (.int n)) e = if -1000000 < n ∧ n < 1000000 then .ok ([], .range 0 n.toNat) e else .stuck := rfl
@[simp] theorem i_r1 : (ev (.itR1 a)).i K env = bindD ((ev a).r K env) (fun x e => r1O x e) ⟨⟩ := rfl
def r2P (m : Int) (y : RV) (e : Env) : Out (List RV × IK) := match y with
  | .tmp (.int n) => if -1000000 < m ∧ m < 1000000 ∧ -1000000 < n ∧ n < 1000000 then .ok ([], .range m (n - m).toNat) e else .stuck
  | _ => .stuck
def r2O (K : Ek) (b : C) (x : RV) (e : Env) : Out (List RV × IK) := match x with
  | .tmp (.int m) => ((ev b).r K e).bind fun y e => r2P m y e
  | _ => .stuck
@[simp] theorem r2P_s {m n : Int} {e : Env} : r2P m (.tmp (.int n)) e = if -1000000 < m ∧ m < 1000000 ∧ -1000000 < n ∧ n < 1000000 then .ok ([], .range m (n - m).toNat) e else .stuck := rfl
@[simp] theorem r2O_s {m : Int} {e : Env} : r2O K b (.tmp (.int m)) e = bindD ((ev b).r K e) (fun y e => r2P m y e) ⟨⟩ := rfl
@[simp] theorem i_r2 : (ev (.itR2 a b)).i K env = bindD ((ev a).r K env) (fun x e => r2O K b x e) ⟨⟩ := rfl
@[simp] theorem i_en : (ev (.itE a)).i K env = bindD ((ev a).r K env) (fun x e => .ok ([x], .enum) e) ⟨⟩ := rfl
@[simp] theorem i_zip : (ev (.itZ false es)).i K env = bindD ((ev es).l K env) (fun rvs e => .ok (rvs, .zip) e) ⟨⟩ := rfl
/-! several -/
@[simp] theorem l_nil : (ev .nil).l K env = .ok [] env := rfl
@[simp] theorem l_cons : (ev (.cons a r)).l K env = bindD ((ev a).r K env) (fun x e => bindD (K.withP e x fun K => (ev r).l K e) (fun xs e => .ok (x :: xs) e) ⟨⟩) ⟨⟩ := rfl
@[simp] theorem v_nil : (ev .nil).v K env = .ok [] env := rfl
@[simp] theorem v_cons : (ev (.cons a r)).v K env = bindD ((ev a).r K env) (fun x e => bindD (valR K x e) (fun v e => bindD ((ev r).v K e) (fun vs e => .ok (v :: vs) e) ⟨⟩) ⟨⟩) ⟨⟩ := rfl
@[simp] theorem n_nil : (ev .nil).n K env = .ok [] env := rfl
@[simp] theorem n_cons : (ev (.cons a r)).n K env = bindD ((ev a).m K env) (fun v e => bindD ((ev r).n K e) (fun vs e => .ok (v :: vs) e) ⟨⟩) ⟨⟩ := rfl
@[simp] theorem o_nil : (ev .nil).o K env = .ok none env := rfl
def opO (x : RV) (e : Env) : Out (Option Int) := match x with
  | .tmp (.int i) => .ok (some i) e
  | _ => .stuck
@[simp] theorem opO_s {j : Int} {e : Env} : opO (.tmp (.int j)) e = .ok (some j) e := rfl
@[simp] theorem o_one : (ev (.cons a .nil)).o K env = bindD ((ev a).r K env) (fun x e => opO x e) ⟨⟩ := rfl
@[simp] theorem t_nil : (ev .nil).t K env = .ok true env := rfl
@[simp] theorem al_nil : (ev .nil).al K [] env = .ok () env := rfl
@[simp] theorem al_cons (x : T) (xs : List T) : (ev (.cons a r)).al K (x :: xs) env = bindD ((ev a).a K x env) (fun _ e => (ev r).al K xs e) ⟨⟩ := rfl
@[simp] theorem bl_nil : (ev .nil).bl K env = .nx env := rfl
@[simp] theorem bl_cons : (ev (.cons a r)).bl K env = nextD ((ev a).s K env) (fun e => (ev r).bl K e) ⟨⟩ := rfl
/-! targets, statements -/
@[simp] theorem a_tv (j : Nat) (v : T) : (ev (.tv j)).a K v env = bind1 K j v env := rfl
def ttO (K : Ek) (tgs : C) (env : Env) (o : Option (List T)) : Out Unit := match o with
  | some xs => if lenC tgs = xs.length then (ev tgs).al K xs env else .stuck
  | none => .stuck
@[simp] theorem ttO_s {xs : List T} : ttO K tgs env (some xs) = if lenC tgs = xs.length then (ev tgs).al K xs env else .stuck := rfl
@[simp] theorem a_tt (v : T) : (ev (.tt tgs)).a K v env = ttO K tgs env (seqT (some v)) := rfl
@[simp] theorem seqT_t {f : Bool} {xs : List T} : seqT (some (.nd .tup f xs)) = some xs := rfl
@[simp] theorem seqT_l {f : Bool} {xs : List T} : seqT (some (.nd .lst f xs)) = some xs := rfl
@[simp] theorem lenC_cons : lenC (.cons a r) = lenC r + 1 := rfl
@[simp] theorem lenC_nil : lenC .nil = 0 := rfl
def putO (K : Ek) (x y : RV) (v : T) (e : Env) : Out Unit := match y with
  | .tmp u => (upd K x (fun t => (putT u v.frz t).map fun t' => (.non, t')) e).bind fun _ e => .ok () e
  | _ => .stuck
@[simp] theorem putO_s {x : RV} {u v : T} {e : Env} : putO K x (.tmp u) v e = bindD (upd K x (fun t => (putT u v.frz t).map fun t' => (.non, t')) e) (fun _ e => .ok () e) ⟨⟩ := rfl
@[simp] theorem a_ts (v : T) : (ev (.ts a i)).a K v env = if v.whole = true then bindD ((ev a).r K env) (fun x e => bindD (K.withP e x fun K => (ev i).r K e) (fun y e => putO K x y v e) ⟨⟩) ⟨⟩ else .stuck := rfl
@[simp] theorem s_asgV (j : Nat) : (ev (.asg (.tv j) e)).s K env = runD ((ev e).r K env) (fun x e => runD (valR K x e) (fun v e => runD (bind1 K j v e) (fun _ e => .nx e) ⟨⟩) ⟨⟩) ⟨⟩ := rfl
@[simp] theorem s_asgS : (ev (.asg (.ts a i) e)).s K env = runD ((ev e).r K env) (fun x e => runD (valR K x e) (fun v e => runD ((ev (.ts a i)).a K v e) (fun _ e => .nx e) ⟨⟩) ⟨⟩) ⟨⟩ := rfl
def asgT (K : Ek) (tgs : C) (x : RV) (o : Option (List T)) (e : Env) : SO := match o with
  | some xs => if lenC tgs = xs.length ∧ (isTmp x = true ∨ T.freeL xs = true) then ((ev tgs).al K xs e).run fun _ e => .nx e else .stuck
  | none => .stuck
@[simp] theorem asgT_s {x : RV} {xs : List T} {e : Env} : asgT K tgs x (some xs) e = if lenC tgs = xs.length ∧ (isTmp x = true ∨ T.freeL xs = true) then runD ((ev tgs).al K xs e) (fun _ e => .nx e) ⟨⟩ else .stuck := rfl
@[simp] theorem s_asgT : (ev (.asg (.tt tgs) e)).s K env = runD ((ev e).r K env) (fun x e => asgT K tgs x (seqT (lookR e x)) e) ⟨⟩ := rfl
@[simp] theorem isTmp_t {t : T} : isTmp (.tmp t) = true := rfl
@[simp] theorem s_par : (ev (.par tgs es)).s K env = runD ((ev es).v K env) (fun vs e => runD ((ev tgs).al K vs e) (fun _ e => .nx e) ⟨⟩) ⟨⟩ := rfl
@[simp] theorem s_expr : (ev (.expr c)).s K env = runD ((ev c).r K env) (fun _ e => .nx e) ⟨⟩ := rfl
@[simp] theorem s_ret : (ev (.ret c)).s K env = runD ((ev c).m K env) (fun v env => .rt v env) ⟨⟩ := rfl
@[simp] theorem s_ret0 : (ev .ret0).s K env = .rt .non env := rfl
@[simp] theorem s_if : (ev (.ifS t a b)).s K env = runD ((ev t).b K env) (fun c env => if c = true then (ev a).bl K env else (ev b).bl K env) ⟨⟩ := rfl
@[simp] theorem s_pass : (ev .pass).s K env = .nx env := rfl
@[simp] theorem s_brk : (ev .brk).s K env = .bk env := rfl
def forI (K : Ek) (tg body : C) (rvs : List RV) (o : Option (List T)) (e : Env) : SO := match o with
  | some its => forL ((ev tg).a (K.lockRs rvs)) ((ev body).bl (K.lockRs rvs)) its e
  | none => .stuck
def forO (K : Ek) (tg body : C) (rvs : List RV) (k : IK) (o : Option (List T)) (e : Env) : SO := match o with
  | some ts => forI K tg body rvs (itemsK k ts) e
  | none => .stuck
@[simp] theorem forO_s {rvs : List RV} {k : IK} {ts : List T} {e : Env} : forO K tg body rvs k (some ts) e = forI K tg body rvs (itemsK k ts) e := rfl
@[simp] theorem forI_s {rvs : List RV} {its : List T} {e : Env} : forI K tg body rvs (some its) e = forL ((ev tg).a (K.lockRs rvs)) ((ev body).bl (K.lockRs rvs)) its e := rfl
@[simp] theorem s_for : (ev (.forS tg it body)).s K env = runD ((ev it).i K env) (fun q env => forO K tg body q.1 q.2 (lookAll env q.1) env) ⟨⟩ := rfl
@[simp] theorem s_whl : (ev (.whl t body)).s K env = whileL ((ev t).b K) ((ev body).bl K) K.fuel env := rfl
@[simp] theorem s_rai (q : Nat) : (ev (.rai q es)).s K env = runD ((ev es).v K env) (fun xs env => if T.wholeL xs = true ∧ xs.length = (K.xf q).length then .err q (T.frzL xs) env else .stuck) ⟨⟩ := rfl

@[simp] theorem b_var (j : Nat) : (ev (.var j)).b K env = bindD ((ev (.var j)).r K env) (fun x e => truO (lookR e x) e) ⟨⟩ := rfl
@[simp] theorem t_var (j : Nat) : (ev (.var j)).t K env = bindD ((ev (.var j)).r K env) (fun x e => truO (lookR e x) e) ⟨⟩ := rfl
@[simp] theorem i_var (j : Nat) : (ev (.var j)).i K env = bindD ((ev (.var j)).r K env) (fun x e => .ok ([x], .one) e) ⟨⟩ := rfl
@[simp] theorem b_glb (s v) : (ev (.glb s v)).b K env = bindD ((ev (.glb s v)).r K env) (fun x e => truO (lookR e x) e) ⟨⟩ := rfl
@[simp] theorem t_glb (s v) : (ev (.glb s v)).t K env = bindD ((ev (.glb s v)).r K env) (fun x e => truO (lookR e x) e) ⟨⟩ := rfl
@[simp] theorem i_glb (s v) : (ev (.glb s v)).i K env = bindD ((ev (.glb s v)).r K env) (fun x e => .ok ([x], .one) e) ⟨⟩ := rfl
@[simp] theorem m_glb (s v) : (ev (.glb s v)).m K env = bindD ((ev (.glb s v)).r K env) (fun x e => valR K x e) ⟨⟩ := rfl
@[simp] theorem b_int (j : Int) : (ev (.int j)).b K env = bindD ((ev (.int j)).r K env) (fun x e => truO (lookR e x) e) ⟨⟩ := rfl
@[simp] theorem t_int (j : Int) : (ev (.int j)).t K env = bindD ((ev (.int j)).r K env) (fun x e => truO (lookR e x) e) ⟨⟩ := rfl
@[simp] theorem i_int (j : Int) : (ev (.int j)).i K env = bindD ((ev (.int j)).r K env) (fun x e => .ok ([x], .one) e) ⟨⟩ := rfl
@[simp] theorem m_int (j : Int) : (ev (.int j)).m K env = bindD ((ev (.int j)).r K env) (fun x e => valR K x e) ⟨⟩ := rfl
@[simp] theorem b_str (s) : (ev (.str s)).b K env = bindD ((ev (.str s)).r K env) (fun x e => truO (lookR e x) e) ⟨⟩ := rfl
@[simp] theorem t_str (s) : (ev (.str s)).t K env = bindD ((ev (.str s)).r K env) (fun x e => truO (lookR e x) e) ⟨⟩ := rfl
@[simp] theorem i_str (s) : (ev (.str s)).i K env = bindD ((ev (.str s)).r K env) (fun x e => .ok ([x], .one) e) ⟨⟩ := rfl
@[simp] theorem m_str (s) : (ev (.str s)).m K env = bindD ((ev (.str s)).r K env) (fun x e => valR K x e) ⟨⟩ := rfl
@[simp] theorem b_bl (s) : (ev (.bl s)).b K env = bindD ((ev (.bl s)).r K env) (fun x e => truO (lookR e x) e) ⟨⟩ := rfl
@[simp] theorem t_bl (s) : (ev (.bl s)).t K env = bindD ((ev (.bl s)).r K env) (fun x e => truO (lookR e x) e) ⟨⟩ := rfl
@[simp] theorem i_bl (s) : (ev (.bl s)).i K env = bindD ((ev (.bl s)).r K env) (fun x e => .ok ([x], .one) e) ⟨⟩ := rfl
@[simp] theorem m_bl (s) : (ev (.bl s)).m K env = bindD ((ev (.bl s)).r K env) (fun x e => valR K x e) ⟨⟩ := rfl
@[simp] theorem b_non  : (ev .non).b K env = bindD ((ev .non).r K env) (fun x e => truO (lookR e x) e) ⟨⟩ := rfl
@[simp] theorem t_non  : (ev .non).t K env = bindD ((ev .non).r K env) (fun x e => truO (lookR e x) e) ⟨⟩ := rfl
@[simp] theorem i_non  : (ev .non).i K env = bindD ((ev .non).r K env) (fun x e => .ok ([x], .one) e) ⟨⟩ := rfl
@[simp] theorem m_non  : (ev .non).m K env = bindD ((ev .non).r K env) (fun x e => valR K x e) ⟨⟩ := rfl
@[simp] theorem b_tup  : (ev (.tup es)).b K env = bindD ((ev (.tup es)).r K env) (fun x e => truO (lookR e x) e) ⟨⟩ := rfl
@[simp] theorem t_tup  : (ev (.tup es)).t K env = bindD ((ev (.tup es)).r K env) (fun x e => truO (lookR e x) e) ⟨⟩ := rfl
@[simp] theorem i_tup  : (ev (.tup es)).i K env = bindD ((ev (.tup es)).r K env) (fun x e => .ok ([x], .one) e) ⟨⟩ := rfl
@[simp] theorem b_lst  : (ev (.lst es)).b K env = bindD ((ev (.lst es)).r K env) (fun x e => truO (lookR e x) e) ⟨⟩ := rfl
@[simp] theorem t_lst  : (ev (.lst es)).t K env = bindD ((ev (.lst es)).r K env) (fun x e => truO (lookR e x) e) ⟨⟩ := rfl
@[simp] theorem i_lst  : (ev (.lst es)).i K env = bindD ((ev (.lst es)).r K env) (fun x e => .ok ([x], .one) e) ⟨⟩ := rfl
@[simp] theorem m_lst  : (ev (.lst es)).m K env = bindD ((ev (.lst es)).r K env) (fun x e => valR K x e) ⟨⟩ := rfl
@[simp] theorem b_bin (op) : (ev (.bin op a b)).b K env = bindD ((ev (.bin op a b)).r K env) (fun x e => truO (lookR e x) e) ⟨⟩ := rfl
@[simp] theorem t_bin (op) : (ev (.bin op a b)).t K env = bindD ((ev (.bin op a b)).r K env) (fun x e => truO (lookR e x) e) ⟨⟩ := rfl
@[simp] theorem i_bin (op) : (ev (.bin op a b)).i K env = bindD ((ev (.bin op a b)).r K env) (fun x e => .ok ([x], .one) e) ⟨⟩ := rfl
@[simp] theorem m_bin (op) : (ev (.bin op a b)).m K env = bindD ((ev (.bin op a b)).r K env) (fun x e => valR K x e) ⟨⟩ := rfl
@[simp] theorem b_neg  : (ev (.neg a)).b K env = bindD ((ev (.neg a)).r K env) (fun x e => truO (lookR e x) e) ⟨⟩ := rfl
@[simp] theorem t_neg  : (ev (.neg a)).t K env = bindD ((ev (.neg a)).r K env) (fun x e => truO (lookR e x) e) ⟨⟩ := rfl
@[simp] theorem i_neg  : (ev (.neg a)).i K env = bindD ((ev (.neg a)).r K env) (fun x e => .ok ([x], .one) e) ⟨⟩ := rfl
@[simp] theorem m_neg  : (ev (.neg a)).m K env = bindD ((ev (.neg a)).r K env) (fun x e => valR K x e) ⟨⟩ := rfl
@[simp] theorem i_not  : (ev (.notv a)).i K env = bindD ((ev (.notv a)).r K env) (fun x e => .ok ([x], .one) e) ⟨⟩ := rfl
@[simp] theorem m_not  : (ev (.notv a)).m K env = bindD ((ev (.notv a)).r K env) (fun x e => valR K x e) ⟨⟩ := rfl
@[simp] theorem i_and  : (ev (.andv a b)).i K env = bindD ((ev (.andv a b)).r K env) (fun x e => .ok ([x], .one) e) ⟨⟩ := rfl
@[simp] theorem m_and  : (ev (.andv a b)).m K env = bindD ((ev (.andv a b)).r K env) (fun x e => valR K x e) ⟨⟩ := rfl
@[simp] theorem i_or  : (ev (.orv a b)).i K env = bindD ((ev (.orv a b)).r K env) (fun x e => .ok ([x], .one) e) ⟨⟩ := rfl
@[simp] theorem m_or  : (ev (.orv a b)).m K env = bindD ((ev (.orv a b)).r K env) (fun x e => valR K x e) ⟨⟩ := rfl
@[simp] theorem b_cmp (op) : (ev (.cmp op a b)).b K env = bindD ((ev (.cmp op a b)).r K env) (fun x e => truO (lookR e x) e) ⟨⟩ := rfl
@[simp] theorem t_cmp (op) : (ev (.cmp op a b)).t K env = bindD ((ev (.cmp op a b)).r K env) (fun x e => truO (lookR e x) e) ⟨⟩ := rfl
@[simp] theorem i_cmp (op) : (ev (.cmp op a b)).i K env = bindD ((ev (.cmp op a b)).r K env) (fun x e => .ok ([x], .one) e) ⟨⟩ := rfl
@[simp] theorem m_cmp (op) : (ev (.cmp op a b)).m K env = bindD ((ev (.cmp op a b)).r K env) (fun x e => valR K x e) ⟨⟩ := rfl
@[simp] theorem b_chain (o1 o2) : (ev (.chain o1 o2 a b c)).b K env = bindD ((ev (.chain o1 o2 a b c)).r K env) (fun x e => truO (lookR e x) e) ⟨⟩ := rfl
@[simp] theorem t_chain (o1 o2) : (ev (.chain o1 o2 a b c)).t K env = bindD ((ev (.chain o1 o2 a b c)).r K env) (fun x e => truO (lookR e x) e) ⟨⟩ := rfl
@[simp] theorem i_chain (o1 o2) : (ev (.chain o1 o2 a b c)).i K env = bindD ((ev (.chain o1 o2 a b c)).r K env) (fun x e => .ok ([x], .one) e) ⟨⟩ := rfl
@[simp] theorem m_chain (o1 o2) : (ev (.chain o1 o2 a b c)).m K env = bindD ((ev (.chain o1 o2 a b c)).r K env) (fun x e => valR K x e) ⟨⟩ := rfl
@[simp] theorem i_ife  : (ev (.ife t a b)).i K env = bindD ((ev (.ife t a b)).r K env) (fun x e => .ok ([x], .one) e) ⟨⟩ := rfl
@[simp] theorem m_ife  : (ev (.ife t a b)).m K env = bindD ((ev (.ife t a b)).r K env) (fun x e => valR K x e) ⟨⟩ := rfl
@[simp] theorem b_ix  : (ev (.ix a i)).b K env = bindD ((ev (.ix a i)).r K env) (fun x e => truO (lookR e x) e) ⟨⟩ := rfl
@[simp] theorem t_ix  : (ev (.ix a i)).t K env = bindD ((ev (.ix a i)).r K env) (fun x e => truO (lookR e x) e) ⟨⟩ := rfl
@[simp] theorem i_ix  : (ev (.ix a i)).i K env = bindD ((ev (.ix a i)).r K env) (fun x e => .ok ([x], .one) e) ⟨⟩ := rfl
@[simp] theorem m_ix  : (ev (.ix a i)).m K env = bindD ((ev (.ix a i)).r K env) (fun x e => valR K x e) ⟨⟩ := rfl
@[simp] theorem b_sl  : (ev (.sl a lo hi)).b K env = bindD ((ev (.sl a lo hi)).r K env) (fun x e => truO (lookR e x) e) ⟨⟩ := rfl
@[simp] theorem t_sl  : (ev (.sl a lo hi)).t K env = bindD ((ev (.sl a lo hi)).r K env) (fun x e => truO (lookR e x) e) ⟨⟩ := rfl
@[simp] theorem i_sl  : (ev (.sl a lo hi)).i K env = bindD ((ev (.sl a lo hi)).r K env) (fun x e => .ok ([x], .one) e) ⟨⟩ := rfl
@[simp] theorem m_sl  : (ev (.sl a lo hi)).m K env = bindD ((ev (.sl a lo hi)).r K env) (fun x e => valR K x e) ⟨⟩ := rfl
@[simp] theorem b_sls  : (ev (.sls a st)).b K env = bindD ((ev (.sls a st)).r K env) (fun x e => truO (lookR e x) e) ⟨⟩ := rfl
@[simp] theorem t_sls  : (ev (.sls a st)).t K env = bindD ((ev (.sls a st)).r K env) (fun x e => truO (lookR e x) e) ⟨⟩ := rfl
@[simp] theorem i_sls  : (ev (.sls a st)).i K env = bindD ((ev (.sls a st)).r K env) (fun x e => .ok ([x], .one) e) ⟨⟩ := rfl
@[simp] theorem m_sls  : (ev (.sls a st)).m K env = bindD ((ev (.sls a st)).r K env) (fun x e => valR K x e) ⟨⟩ := rfl
@[simp] theorem b_fld (f) : (ev (.fld a f)).b K env = bindD ((ev (.fld a f)).r K env) (fun x e => truO (lookR e x) e) ⟨⟩ := rfl
@[simp] theorem t_fld (f) : (ev (.fld a f)).t K env = bindD ((ev (.fld a f)).r K env) (fun x e => truO (lookR e x) e) ⟨⟩ := rfl
@[simp] theorem i_fld (f) : (ev (.fld a f)).i K env = bindD ((ev (.fld a f)).r K env) (fun x e => .ok ([x], .one) e) ⟨⟩ := rfl
@[simp] theorem m_fld (f) : (ev (.fld a f)).m K env = bindD ((ev (.fld a f)).r K env) (fun x e => valR K x e) ⟨⟩ := rfl
@[simp] theorem b_call (f) : (ev (.call f es)).b K env = bindD ((ev (.call f es)).r K env) (fun x e => truO (lookR e x) e) ⟨⟩ := rfl
@[simp] theorem t_call (f) : (ev (.call f es)).t K env = bindD ((ev (.call f es)).r K env) (fun x e => truO (lookR e x) e) ⟨⟩ := rfl
@[simp] theorem i_call (f) : (ev (.call f es)).i K env = bindD ((ev (.call f es)).r K env) (fun x e => .ok ([x], .one) e) ⟨⟩ := rfl
@[simp] theorem m_call (f) : (ev (.call f es)).m K env = bindD ((ev (.call f es)).r K env) (fun x e => valR K x e) ⟨⟩ := rfl
@[simp] theorem b_um (m) : (ev (.um m a es)).b K env = bindD ((ev (.um m a es)).r K env) (fun x e => truO (lookR e x) e) ⟨⟩ := rfl
@[simp] theorem t_um (m) : (ev (.um m a es)).t K env = bindD ((ev (.um m a es)).r K env) (fun x e => truO (lookR e x) e) ⟨⟩ := rfl
@[simp] theorem i_um (m) : (ev (.um m a es)).i K env = bindD ((ev (.um m a es)).r K env) (fun x e => .ok ([x], .one) e) ⟨⟩ := rfl
@[simp] theorem m_um (m) : (ev (.um m a es)).m K env = bindD ((ev (.um m a es)).r K env) (fun x e => valR K x e) ⟨⟩ := rfl
@[simp] theorem b_new (q) : (ev (.new q es)).b K env = bindD ((ev (.new q es)).r K env) (fun x e => truO (lookR e x) e) ⟨⟩ := rfl
@[simp] theorem t_new (q) : (ev (.new q es)).t K env = bindD ((ev (.new q es)).r K env) (fun x e => truO (lookR e x) e) ⟨⟩ := rfl
@[simp] theorem i_new (q) : (ev (.new q es)).i K env = bindD ((ev (.new q es)).r K env) (fun x e => .ok ([x], .one) e) ⟨⟩ := rfl
@[simp] theorem m_new (q) : (ev (.new q es)).m K env = bindD ((ev (.new q es)).r K env) (fun x e => valR K x e) ⟨⟩ := rfl
@[simp] theorem b_bi (q) : (ev (.bi q es)).b K env = bindD ((ev (.bi q es)).r K env) (fun x e => truO (lookR e x) e) ⟨⟩ := rfl
@[simp] theorem t_bi (q) : (ev (.bi q es)).t K env = bindD ((ev (.bi q es)).r K env) (fun x e => truO (lookR e x) e) ⟨⟩ := rfl
@[simp] theorem i_bi (q) : (ev (.bi q es)).i K env = bindD ((ev (.bi q es)).r K env) (fun x e => .ok ([x], .one) e) ⟨⟩ := rfl
@[simp] theorem m_bi (q) : (ev (.bi q es)).m K env = bindD ((ev (.bi q es)).r K env) (fun x e => valR K x e) ⟨⟩ := rfl
@[simp] theorem b_isi (cs) : (ev (.isi a cs)).b K env = bindD ((ev (.isi a cs)).r K env) (fun x e => truO (lookR e x) e) ⟨⟩ := rfl
@[simp] theorem t_isi (cs) : (ev (.isi a cs)).t K env = bindD ((ev (.isi a cs)).r K env) (fun x e => truO (lookR e x) e) ⟨⟩ := rfl
@[simp] theorem i_isi (cs) : (ev (.isi a cs)).i K env = bindD ((ev (.isi a cs)).r K env) (fun x e => .ok ([x], .one) e) ⟨⟩ := rfl
@[simp] theorem m_isi (cs) : (ev (.isi a cs)).m K env = bindD ((ev (.isi a cs)).r K env) (fun x e => valR K x e) ⟨⟩ := rfl
@[simp] theorem b_mt (m) : (ev (.mt m a es)).b K env = bindD ((ev (.mt m a es)).r K env) (fun x e => truO (lookR e x) e) ⟨⟩ := rfl
@[simp] theorem t_mt (m) : (ev (.mt m a es)).t K env = bindD ((ev (.mt m a es)).r K env) (fun x e => truO (lookR e x) e) ⟨⟩ := rfl
@[simp] theorem i_mt (m) : (ev (.mt m a es)).i K env = bindD ((ev (.mt m a es)).r K env) (fun x e => .ok ([x], .one) e) ⟨⟩ := rfl
@[simp] theorem m_mt (m) : (ev (.mt m a es)).m K env = bindD ((ev (.mt m a es)).r K env) (fun x e => valR K x e) ⟨⟩ := rfl
@[simp] theorem b_mm (m) : (ev (.mm m a es)).b K env = bindD ((ev (.mm m a es)).r K env) (fun x e => truO (lookR e x) e) ⟨⟩ := rfl
@[simp] theorem t_mm (m) : (ev (.mm m a es)).t K env = bindD ((ev (.mm m a es)).r K env) (fun x e => truO (lookR e x) e) ⟨⟩ := rfl
@[simp] theorem i_mm (m) : (ev (.mm m a es)).i K env = bindD ((ev (.mm m a es)).r K env) (fun x e => .ok ([x], .one) e) ⟨⟩ := rfl
@[simp] theorem m_mm (m) : (ev (.mm m a es)).m K env = bindD ((ev (.mm m a es)).r K env) (fun x e => valR K x e) ⟨⟩ := rfl
@[simp] theorem b_lc (own) : (ev (.lc own tg it tst elt)).b K env = bindD ((ev (.lc own tg it tst elt)).r K env) (fun x e => truO (lookR e x) e) ⟨⟩ := rfl
@[simp] theorem t_lc (own) : (ev (.lc own tg it tst elt)).t K env = bindD ((ev (.lc own tg it tst elt)).r K env) (fun x e => truO (lookR e x) e) ⟨⟩ := rfl
@[simp] theorem i_lc (own) : (ev (.lc own tg it tst elt)).i K env = bindD ((ev (.lc own tg it tst elt)).r K env) (fun x e => .ok ([x], .one) e) ⟨⟩ := rfl
@[simp] theorem m_lc (own) : (ev (.lc own tg it tst elt)).m K env = bindD ((ev (.lc own tg it tst elt)).r K env) (fun x e => valR K x e) ⟨⟩ := rfl
@[simp] theorem b_fstr  : (ev (.fstr es)).b K env = bindD ((ev (.fstr es)).r K env) (fun x e => truO (lookR e x) e) ⟨⟩ := rfl
@[simp] theorem t_fstr  : (ev (.fstr es)).t K env = bindD ((ev (.fstr es)).r K env) (fun x e => truO (lookR e x) e) ⟨⟩ := rfl
@[simp] theorem i_fstr  : (ev (.fstr es)).i K env = bindD ((ev (.fstr es)).r K env) (fun x e => .ok ([x], .one) e) ⟨⟩ := rfl
@[simp] theorem m_fstr  : (ev (.fstr es)).m K env = bindD ((ev (.fstr es)).r K env) (fun x e => valR K x e) ⟨⟩ := rfl
@[simp] theorem t_not : (ev (.notv a)).t K env = (ev (.notv a)).b K env := rfl
@[simp] theorem t_and : (ev (.andv a b)).t K env = (ev (.andv a b)).b K env := rfl
@[simp] theorem t_or : (ev (.orv a b)).t K env = (ev (.orv a b)).b K env := rfl
@[simp] theorem t_ife : (ev (.ife t a b)).t K env = (ev (.ife t a b)).b K env := rfl
end
end TI.M
end
section
set_option maxHeartbeats 400000
/-! TM1: calls, loops by lemma. Plain Lean. -/
namespace TI.M
open PySem
def finsG (pn : List Nat) (env : Env) : Nat → List T → List T
  | _, [] => []
  | i, t :: r => (if pn.contains i = true then (env[i]?.getD none).getD .hole else t) :: finsG pn env (i + 1) r
@[simp] theorem finsG_nil {pn : List Nat} {env : Env} {i : Nat} : finsG pn env i [] = [] := rfl
@[simp] theorem finsG_cons {pn : List Nat} {env : Env} {i : Nat} {t : T} {r : List T} : finsG pn env i (t :: r) = (if pn.contains i = true then (env[i]?.getD none).getD .hole else t) :: finsG pn env (i + 1) r := rfl
theorem fins_from {pn : List Nat} {env : Env} : ∀ (r : List T) (i : Nat), (r.mapIdx fun j t => if pn.contains (i + j) = true then (env[i + j]?.getD none).getD .hole else t) = finsG pn env i r
  | [], i => rfl
  | t :: r, i => by
    rw [List.mapIdx_cons, finsG_cons, ← fins_from r (i + 1)]
    simp only [Nat.add_zero]
    congr 1
    refine congrArg (List.mapIdx · r) ?_
    funext j t
    rw [show i + (j + 1) = i + 1 + j by omega]
theorem fins_eq {pn : List Nat} {args : List T} {env : Env} : fins pn args env = finsG pn env 0 args := by
  have := fins_from (pn := pn) (env := env) args 0
  simp only [Nat.zero_add] at this
  exact this
def finC (args : List T) (pn : List Nat) (o : SO) : CO := match o with
  | .nx env => .ok .non (finsG pn env 0 args)
  | .rt t env => .ok t (finsG pn env 0 args)
  | .err c xs env => .err c xs (finsG pn env 0 args)
  | _ => .stuck
@[simp] theorem finC_nx {args : List T} {pn : List Nat} {env : Env} : finC args pn (.nx env) = .ok .non (finsG pn env 0 args) := rfl
@[simp] theorem finC_rt {args : List T} {pn : List Nat} {t : T} {env : Env} : finC args pn (.rt t env) = .ok t (finsG pn env 0 args) := rfl
@[simp] theorem finC_err {args : List T} {pn : List Nat} {c : Nat} {xs : List T} {env : Env} : finC args pn (.err c xs env) = .err c xs (finsG pn env 0 args) := rfl
theorem callT_s {P : Prg} {fuel k f : Nat} {args : List T} {d : Fn} (h : P.fns[f]? = some d) (hl : args.length = d.np) :
    callT P fuel (k + 1) f args = finC args (pinned 0 args) ((ev d.body).bl (KK P fuel k [] (pinned 0 args)) (args.map some ++ List.replicate (d.n - d.np) none)) := by
  show (match P.fns[f]? with | some d => runFn (ekOf P fuel (callT P fuel k)) d args | none => .stuck) = _
  rw [h]
  show (if args.length = d.np then _ else _) = _
  rw [if_pos hl]
  simp only [fins_eq]
  rfl
@[simp] theorem pinned_nil {i : Nat} : pinned i [] = [] := rfl
@[simp] theorem pinned_cons {i : Nat} {t : T} {r : List T} : pinned i (t :: r) = if t.free = true then pinned (i + 1) r else i :: pinned (i + 1) r := rfl
/-! ### what comes out -/
def Is (o : CO) (Q : T → List T → Prop) : Prop := ∃ t fin, o = .ok t fin ∧ Q t fin
theorem is_cps {o : CO} {Q : T → List T → Prop} (h : ∀ Q' : T → List T → Prop, (∀ t fin, Q t fin → Q' t fin) → Is o Q') : Is o Q := h Q fun _ _ x => x
theorem is_ok {t : T} {fin : List T} {Q : T → List T → Prop} (h : Q t fin) : Is (.ok t fin) Q := ⟨t, fin, rfl, h⟩
def Nx (o : SO) (R : Env → Prop) : Prop := ∃ e, o = .nx e ∧ R e
theorem nx_cps {o : SO} {R : Env → Prop} (h : ∀ R' : Env → Prop, (∀ e, R e → R' e) → Nx o R') : Nx o R := h R fun _ x => x
theorem nx_ok {e : Env} {R : Env → Prop} (h : R e) : Nx (.nx e) R := ⟨e, rfl, h⟩
theorem nx_mono {o : SO} {R R' : Env → Prop} (h : Nx o R) (k : ∀ e, R e → R' e) : Nx o R' := let ⟨e, h1, h2⟩ := h; ⟨e, h1, k e h2⟩
/-- a loop, then what follows -/
theorem is_next {args : List T} {pn : List Nat} {o : SO} {f : Env → SO} {R : Env → Prop} {Q : T → List T → Prop} (h : Nx o R) {t : Tg f} (k : ∀ e, R e → Is (finC args pn (f e)) Q) : Is (finC args pn (nextD o f t)) Q := by
  obtain ⟨e, h1, h2⟩ := h
  rw [h1]
  exact k e h2
theorem nx_next {o : SO} {f : Env → SO} {R R' : Env → Prop} (h : Nx o R) {t : Tg f} (k : ∀ e, R e → Nx (f e) R') : Nx (nextD o f t) R' := by
  obtain ⟨e, h1, h2⟩ := h
  rw [h1]
  exact k e h2
def Ok {α : Type} (o : Out α) (R : α → Env → Prop) : Prop := ∃ a e, o = .ok a e ∧ R a e
theorem ok_cps {α : Type} {o : Out α} {R : α → Env → Prop} (h : ∀ R' : α → Env → Prop, (∀ a e, R a e → R' a e) → Ok o R') : Ok o R := h R fun _ _ x => x
theorem ok_mono {α : Type} {o : Out α} {R R' : α → Env → Prop} (h : Ok o R) (k : ∀ a e, R a e → R' a e) : Ok o R' := let ⟨a, e, h1, h2⟩ := h; ⟨a, e, h1, k a e h2⟩
theorem ok_ok {α : Type} {a : α} {e : Env} {R : α → Env → Prop} (h : R a e) : Ok (.ok a e) R := ⟨a, e, rfl, h⟩
end TI.M
end
section
set_option maxHeartbeats 400000
/-! TM2: data, loops by lemma. Plain Lean. -/
namespace TI.M
open PySem
/-! ### data -/
theorem freeL_all : ∀ {xs : List T}, T.freeL xs = true ↔ ∀ x ∈ xs, x.free = true
  | [] => by simp [T.freeL]
  | x :: r => by simp [T.freeL, freeL_all (xs := r)]
theorem wholeL_all : ∀ {xs : List T}, T.wholeL xs = true ↔ ∀ x ∈ xs, x.whole = true
  | [] => by simp [T.wholeL]
  | x :: r => by simp [T.wholeL, wholeL_all (xs := r)]
mutual
theorem free_whole : ∀ {t : T}, t.free = true → t.whole = true
  | .hole, h => nomatch h
  | .non, _ => rfl
  | .bl _, _ => rfl
  | .int _, _ => rfl
  | .str _, _ => rfl
  | .nd k f xs, h => by
    have h1 : (!f && T.freeL xs) = true := h
    rw [Bool.and_eq_true] at h1
    exact freeL_whole h1.2
theorem freeL_whole : ∀ {xs : List T}, T.freeL xs = true → T.wholeL xs = true
  | [], _ => rfl
  | x :: r, h => by
    have h1 : (x.free && T.freeL r) = true := h
    rw [Bool.and_eq_true] at h1
    show (x.whole && T.wholeL r) = true
    rw [free_whole h1.1, freeL_whole h1.2]; rfl
end
mutual
theorem free_frz : ∀ {t : T}, t.free = true → t.frz = t
  | .hole, h => nomatch h
  | .non, _ => rfl
  | .bl _, _ => rfl
  | .int _, _ => rfl
  | .str _, _ => rfl
  | .nd k f xs, h => by
    have h1 : (!f && T.freeL xs) = true := h
    rw [Bool.and_eq_true] at h1
    have hf : f = false := by simpa using h1.1
    show T.nd k false (T.frzL xs) = _
    rw [freeL_frz h1.2, hf]
theorem freeL_frz : ∀ {xs : List T}, T.freeL xs = true → T.frzL xs = xs
  | [], _ => rfl
  | x :: r, h => by
    have h1 : (x.free && T.freeL r) = true := h
    rw [Bool.and_eq_true] at h1
    show x.frz :: T.frzL r = _
    rw [free_frz h1.1, freeL_frz h1.2]
end
theorem freeL_app {xs ys : List T} : T.freeL (xs ++ ys) = (T.freeL xs && T.freeL ys) := by
  rw [Bool.eq_iff_iff, Bool.and_eq_true, freeL_all, freeL_all, freeL_all]
  simp only [List.mem_append]
  exact ⟨fun h => ⟨fun x hx => h x (.inl hx), fun x hx => h x (.inr hx)⟩, fun h x hx => hx.elim (h.1 x) (h.2 x)⟩
theorem freeL_erase {xs : List T} {i : Nat} (h : T.freeL xs = true) : T.freeL (xs.eraseIdx i) = true := by
  rw [freeL_all] at h ⊢
  exact fun x hx => h x (List.mem_of_mem_eraseIdx hx)
theorem freeL_get {xs : List T} {i : Nat} {x : T} (h : T.freeL xs = true) (e : xs[i]? = some x) : x.free = true := by
  rw [freeL_all] at h
  exact h x (List.mem_of_getElem? e)
@[simp] theorem freeL_str {ss : List Str} : T.freeL (ss.map .str) = true := by
  rw [freeL_all]; intro x hx; obtain ⟨s, _, rfl⟩ := List.mem_map.mp hx; rfl
@[simp] theorem freeL_int {ss : List Int} : T.freeL (ss.map .int) = true := by
  rw [freeL_all]; intro x hx; obtain ⟨s, _, rfl⟩ := List.mem_map.mp hx; rfl
@[simp] theorem strsL_map {ss : List Str} : strsL (ss.map .str) = some ss := by
  induction ss with
  | nil => rfl
  | cons s r ih => show (strsL (r.map .str)).map (s :: ·) = _; rw [ih]; rfl
@[simp] theorem blsL_map {ss : List Bool} : blsL (ss.map .bl) = some ss := by
  induction ss with
  | nil => rfl
  | cons s r ih => show (blsL (r.map .bl)).map (s :: ·) = _; rw [ih]; rfl
@[simp] theorem intsL_map {ss : List Int} : intsL (ss.map .int) = some ss := by
  induction ss with
  | nil => rfl
  | cons s r ih => show (intsL (r.map .int)).map (s :: ·) = _; rw [ih]; rfl
theorem ixNat_nn {n : Nat} {i : Int} (h0 : 0 ≤ i) (h1 : i < n) : ixNat n i = some i.toNat := by unfold ixNat; rw [if_pos h0, if_pos h1]
@[simp] theorem ix_1_0 : ixNat 1 0 = some 0 := rfl
@[simp] theorem ix_2_0 : ixNat 2 0 = some 0 := rfl
@[simp] theorem ix_2_1 : ixNat 2 1 = some 1 := rfl
@[simp] theorem ix_3_0 : ixNat 3 0 = some 0 := rfl
@[simp] theorem ix_3_1 : ixNat 3 1 = some 1 := rfl
@[simp] theorem ix_3_2 : ixNat 3 2 = some 2 := rfl
@[simp] theorem ix_4_0 : ixNat 4 0 = some 0 := rfl
@[simp] theorem ix_4_1 : ixNat 4 1 = some 1 := rfl
@[simp] theorem ix_4_2 : ixNat 4 2 = some 2 := rfl
@[simp] theorem ix_4_3 : ixNat 4 3 = some 3 := rfl
theorem free_nd {k : Kd} {f : Bool} {xs : List T} : T.free (.nd k f xs) = (!f && T.freeL xs) := rfl
theorem whole_nd {k : Kd} {f : Bool} {xs : List T} : T.whole (.nd k f xs) = T.wholeL xs := rfl
theorem frz_nd {k : Kd} {f : Bool} {xs : List T} : T.frz (.nd k f xs) = .nd k false (T.frzL xs) := rfl
/-! ### loops -/
def stE (g : T → Env → Out Unit) (b : Env → SO) (x : T) (e : Env) : SO := (g x e).run fun _ e => b e
theorem forL_step {g : T → Env → Out Unit} {b : Env → SO} {x : T} {r : List T} {e e' : Env} (h : stE g b x e = .nx e') : forL g b (x :: r) e = forL g b r e' := by
  unfold stE at h
  show (g x e).run _ = _
  cases hg : g x e with
  | stuck => rw [hg] at h; cases h
  | err c xs e => rw [hg] at h; cases h
  | ok u e1 =>
    rw [hg] at h
    show (match b e1 with | .nx e => forL g b r e | .ct e => forL g b r e | .bk e => .nx e | o => o) = _
    have h' : b e1 = .nx e' := h
    rw [h']
theorem forL_rt {g : T → Env → Out Unit} {b : Env → SO} {x : T} {r : List T} {e e' : Env} {t : T} (h : stE g b x e = .rt t e') : forL g b (x :: r) e = .rt t e' := by
  unfold stE at h
  show (g x e).run _ = _
  cases hg : g x e with
  | stuck => rw [hg] at h; cases h
  | err c xs e => rw [hg] at h; cases h
  | ok u e1 =>
    rw [hg] at h
    show (match b e1 with | .nx e => forL g b r e | .ct e => forL g b r e | .bk e => .nx e | o => o) = _
    have h' : b e1 = .rt t e' := h
    rw [h']
theorem forL_err {g : T → Env → Out Unit} {b : Env → SO} {x : T} {r : List T} {e e' : Env} {c : Nat} {xs : List T} (h : stE g b x e = .err c xs e') : forL g b (x :: r) e = .err c xs e' := by
  unfold stE at h
  show (g x e).run _ = _
  cases hg : g x e with
  | stuck => rw [hg] at h; cases h
  | err c xs e => rw [hg] at h; exact h
  | ok u e1 =>
    rw [hg] at h
    show (match b e1 with | .nx e => forL g b r e | .ct e => forL g b r e | .bk e => .nx e | o => o) = _
    have h' : b e1 = .err c xs e' := h
    rw [h']
@[simp] theorem forL_nil {g : T → Env → Out Unit} {b : Env → SO} {e : Env} : forL g b [] e = .nx e := rfl
/-- a loop as a fold over what it carries -/
theorem forL_fold {σ : Type} {g : T → Env → Out Unit} {b : Env → SO} (E : σ → Env) (F : σ → T → σ) (I : List T → σ → Prop)
    (h : ∀ x r s, I (x :: r) s → stE g b x (E s) = .nx (E (F s x)) ∧ I r (F s x)) : ∀ (its : List T) (s : σ), I its s → forL g b its (E s) = .nx (E (its.foldl F s)) ∧ I [] (its.foldl F s)
  | [], s, hi => ⟨rfl, hi⟩
  | x :: r, s, hi => by
    obtain ⟨h1, h2⟩ := h x r s hi
    rw [forL_step h1]
    exact forL_fold E F I h r (F s x) h2
/-- .. by what holds -/
theorem forL_inv {g : T → Env → Out Unit} {b : Env → SO} (I : List T → Env → Prop)
    (h : ∀ x r e, I (x :: r) e → ∀ R : Env → Prop, (∀ e', I r e' → R e') → Nx (stE g b x e) R) : ∀ (its : List T) (e : Env), I its e → Nx (forL g b its e) (I [])
  | [], e, hi => ⟨e, rfl, hi⟩
  | x :: r, e, hi => by
    obtain ⟨e', h1, h2⟩ := h x r e hi (I r) fun _ z => z
    rw [forL_step h1]
    exact forL_inv I h r e' h2
@[simp] theorem rangeT_zero {lo : Int} : rangeT lo 0 = [] := rfl
theorem rangeT_length {lo : Int} {n : Nat} : (rangeT lo n).length = n := by simp [rangeT]
@[simp] theorem compL_nil {α : Type} {own : List Nat} {g : T → Env → Out Unit} {t : Env → Out Bool} {b : α → Env → Out α} {acc : α} {e : Env} : compL own g t b [] acc e = .ok acc e := rfl
theorem compL_cons {own : List Nat} {g : T → Env → Out Unit} {t : Env → Out Bool} {b : List T → Env → Out (List T)} {x : T} {r acc : List T} {e : Env} : compL own g t b (x :: r) acc e = (g x e).bind fun _ e => (t e).bind fun c e => if c = true then (b acc e).bind fun acc e => compL own g t b r acc (wipeE own e) else compL own g t b r acc (wipeE own e) := rfl
theorem compL_consD {own : List Nat} {g : T → Env → Out Unit} {t : Env → Out Bool} {b : List T → Env → Out (List T)} {x : T} {r acc : List T} {e : Env} : compL own g t b (x :: r) acc e = bindD (g x e) (fun _ e => bindD (t e) (fun c e => if c = true then bindD (b acc e) (fun acc e => compL own g t b r acc (wipeE own e)) ⟨⟩ else compL own g t b r acc (wipeE own e)) ⟨⟩) ⟨⟩ := rfl
/-- one turn of a comprehension: the item is kept or not -/
def turn (g : T → Env → Out Unit) (t : Env → Out Bool) (b : List T → Env → Out (List T)) (x : T) (acc : List T) (e : Env) : Out (List T) := (g x e).bind fun _ e => (t e).bind fun c e => if c = true then b acc e else .ok acc e
@[simp] theorem turn_eq {g : T → Env → Out Unit} {t : Env → Out Bool} {b : List T → Env → Out (List T)} {x : T} {acc : List T} {e : Env} : turn g t b x acc e = bindD (g x e) (fun _ e => bindD (t e) (fun c e => if c = true then b acc e else .ok acc e) ⟨⟩) ⟨⟩ := rfl
theorem compL_turn {own : List Nat} {g : T → Env → Out Unit} {t : Env → Out Bool} {b : List T → Env → Out (List T)} {x : T} {r acc acc' : List T} {e e' : Env} (h : turn g t b x acc e = .ok acc' e') : compL own g t b (x :: r) acc e = compL own g t b r acc' (wipeE own e') := by
  rw [compL_cons]
  unfold turn at h
  cases h1 : g x e with
  | stuck => rw [h1] at h; cases h
  | err c xs e => rw [h1] at h; cases h
  | ok u e1 =>
    rw [h1, bind_ok] at h
    rw [bind_ok]
    cases h2 : t e1 with
    | stuck => rw [h2] at h; cases h
    | err c xs e => rw [h2] at h; cases h
    | ok c e2 =>
      rw [h2, bind_ok] at h
      rw [bind_ok]
      split
      · rename_i hc
        rw [if_pos hc] at h
        rw [h, bind_ok]
      · rename_i hc
        rw [if_neg hc] at h
        cases h
        rfl
/-- .. by what holds -/
theorem compL_inv {own : List Nat} {g : T → Env → Out Unit} {t : Env → Out Bool} {b : List T → Env → Out (List T)} (I : List T → List T → Env → Prop)
    (h : ∀ x r acc e, I (x :: r) acc e → ∀ R : List T → Env → Prop, (∀ a e', I r a (wipeE own e') → R a e') → Ok (turn g t b x acc e) R) :
    ∀ (its acc : List T) (e : Env), I its acc e → Ok (compL own g t b its acc e) (I [])
  | [], acc, e, hi => ⟨acc, e, rfl, hi⟩
  | x :: r, acc, e, hi => by
    obtain ⟨a, e', h1, h2⟩ := h x r acc e hi (fun a e' => I r a (wipeE own e')) fun _ _ z => z
    rw [compL_turn h1]
    exact compL_inv I h r _ _ h2
/-- a comprehension that changes nothing but its own names -/
theorem compL_map {own : List Nat} {g : T → Env → Out Unit} {t : Env → Out Bool} {b : List T → Env → Out (List T)} {env : Env} (p : T → Bool) (f : T → T) :
    ∀ (its acc : List T), acc.length + its.length ≤ lim →
    (∀ x ∈ its, ∀ acc : List T, acc.length < lim → ∃ e', turn g t b x acc env = .ok (if p x = true then acc ++ [f x] else acc) e' ∧ wipeE own e' = env) →
    compL own g t b its acc env = .ok (acc ++ (its.filter p).map f) env
  | [], acc, _, _ => by simp [compL]
  | x :: r, acc, hl, h => by
    simp only [List.length_cons] at hl
    obtain ⟨e', h1, h2⟩ := h x List.mem_cons_self acc (by omega)
    rw [compL_turn h1, h2]
    cases hp : p x with
    | true =>
      rw [if_pos rfl, compL_map p f r (acc ++ [f x]) (by simp; omega) fun y hy => h y (List.mem_cons_of_mem _ hy)]
      rw [List.filter_cons_of_pos hp, List.map_cons, List.append_assoc]; rfl
    | false =>
      rw [if_neg (by simp), compL_map p f r acc (by omega) fun y hy => h y (List.mem_cons_of_mem _ hy)]
      rw [List.filter_cons_of_neg (by simp [hp])]
@[simp] theorem ownOk_eq {K : Ek} {own : List Nat} {env : Env} : ownOk K own env = own.all fun i => (match env[i]? with
  | some (some t) => t.free
  | some none => true
  | none => false) && !K.lc.contains i && !K.pn.contains i := rfl
@[simp] theorem wipe_nil {e : Env} : wipeE [] e = e := rfl
@[simp] theorem wipe_cons {i : Nat} {r : List Nat} {e : Env} : wipeE (i :: r) e = (wipeE r e).set i none := rfl
@[simp] theorem back_nil {o e : Env} : backE [] o e = e := rfl
@[simp] theorem back_cons {i : Nat} {r : List Nat} {o e : Env} : backE (i :: r) o e = (backE r o e).set i (o[i]?.getD none) := rfl
/-- .. as a value -/
theorem lcG_map {own : List Nat} {K : Ek} {tg tst elt : C} {its : List T} {e : Env} (p : T → Bool) (f : T → T) (hl : its.length ≤ 1048576) (ho : ownOk K own e = true) (hb : backE own e (wipeE own e) = e)
    (h : ∀ x ∈ its, ∀ acc : List T, acc.length < 1048576 → ∀ R : List T → Env → Prop, (p x = true → ∀ e', wipeE own e' = wipeE own e → R (acc ++ [f x]) e') → (p x = false → ∀ e', wipeE own e' = wipeE own e → R acc e') → Ok (turn ((ev tg).a (K.pinO own e.length)) ((ev tst).t K) (lcB K elt) x acc (wipeE own e)) R) :
    lcG own K tg tst elt its e = .ok (.tmp (.lst true ((its.filter p).map f))) e := by
  unfold lcG
  rw [if_pos ho, compL_map p f its [] (by simpa [lim] using hl) (fun x hx acc ha => by
    obtain ⟨a, e', h1, h2, h3⟩ := h x hx acc ha (fun a e' => a = (if p x = true then acc ++ [f x] else acc) ∧ wipeE own e' = wipeE own e) (fun hp e' h => ⟨by rw [if_pos hp], h⟩) (fun hp e' h => ⟨by rw [if_neg (by rw [hp]; simp)], h⟩)
    exact ⟨e', by rw [h1, h2], h3⟩)]
  rw [lcE_s, hb, List.nil_append]
theorem lcG_inv {own : List Nat} {K : Ek} {tg tst elt : C} {its : List T} {e : Env} (I : List T → List T → Env → Prop) (ho : ownOk K own e = true)
    (h : ∀ x r acc e1, I (x :: r) acc e1 → ∀ R : List T → Env → Prop, (∀ a e', I r a (wipeE own e') → R a e') → Ok (turn ((ev tg).a (K.pinO own e.length)) ((ev tst).t K) (lcB K elt) x acc e1) R) (hi : I its [] (wipeE own e)) :
    Ok (lcG own K tg tst elt its e) fun x e' => ∃ acc e1, x = .tmp (.lst true acc) ∧ e' = backE own e e1 ∧ I [] acc e1 := by
  obtain ⟨acc, e1, h1, h2⟩ := compL_inv I h its [] (wipeE own e) hi
  unfold lcG
  rw [if_pos ho, h1, lcE_s]
  exact ⟨_, _, rfl, acc, e1, rfl, rfl, h2⟩
@[simp] theorem lcB_eq {K : Ek} {elt : C} {acc : List T} {e : Env} : lcB K elt acc e = bindD ((ev elt).r K e) (fun rv e => bindD (valR K rv e) (fun v e => if acc.length < lim ∧ v.whole = true then .ok (acc ++ [v.frz]) e else .stuck) ⟨⟩) ⟨⟩ := rfl
@[simp] theorem stE_eq {g : T → Env → Out Unit} {b : Env → SO} {x : T} {e : Env} : stE g b x e = runD (g x e) (fun _ e => b e) ⟨⟩ := rfl
@[simp] theorem le_lim {n : Nat} (h : n ≤ 1048576) : n ≤ lim := h
@[simp] theorem lt_lim {n : Nat} (h : n < 1048576) : n < lim := h
@[simp] theorem ixR_lst {x : RV} {f : Bool} {xs : List T} {i : Int} : ixR x (.nd .lst f xs) (.int i) = kidF x xs i := rfl
@[simp] theorem ixR_tup {x : RV} {f : Bool} {xs : List T} {i : Int} : ixR x (.nd .tup f xs) (.int i) = kidF x xs i := rfl
@[simp] theorem ixR_scr {x : RV} {f : Bool} {xs : List T} {i : Int} : ixR x (.nd .scr f xs) (.int i) = kidF x xs i := rfl
/-! ### texts by their signs -/
def mk (l : List Nat) : Str := ⟨l.toArray⟩
@[simp] theorem mk_list (l : List Nat) : (mk l).cps.toList = l := rfl
theorem mk_of (s : Str) : mk s.cps.toList = s := rfl
theorem ex_mk (s : Str) : ∃ l, s = mk l := ⟨s.cps.toList, (mk_of s).symm⟩
@[simp] theorem mk_app {l r : List Nat} : mk l ++ mk r = mk (l ++ r) := by
  show Str.mk (l.toArray ++ r.toArray) = Str.mk (l ++ r).toArray
  simp
@[simp] theorem mk_len {l : List Nat} : (mk l).length = l.length := by show l.toArray.size = _; simp
@[simp] theorem mk_inj {l r : List Nat} : mk l = mk r ↔ l = r := ⟨fun h => by have := congrArg (fun s : Str => s.cps.toList) h; exact this, fun h => by rw [h]⟩
theorem mk_one (c : Nat) : (⟨#[c]⟩ : Str) = mk [c] := rfl
theorem ixR_mk {x : RV} {l : List Nat} {i : Int} {j c : Nat} (h1 : ixNat l.length i = some j) (h2 : l[j]? = some c) (h3 : l.length ≤ 1048576) : ixR x (.str (mk l)) (.int i) = some (.tmp (.str (mk [c]))) := by
  show (match ixNat (mk l).cps.toList.length i with | some j => (match (mk l).cps.toList[j]? with | some c => if (mk l).length ≤ lim then some (RV.tmp (.str ⟨#[c]⟩)) else none | none => none) | none => none) = _
  rw [mk_list, h1]
  dsimp only
  rw [h2]
  dsimp only
  rw [if_pos (by rw [mk_len]; exact h3)]
  rfl
theorem capS_mk {l : List Nat} (h : l.length ≤ 1048576) : capS (mk l) = some (.str (mk l)) := by unfold capS; rw [if_pos (by rw [mk_len]; exact h)]
theorem cutS_mk {l : List Nat} {lo hi : Option Int} : cutS (mk l) lo hi = mk (cut l lo hi) := rfl
theorem cut_take {α : Type} {l : List α} {p : Nat} (h : p ≤ l.length) : cut l none (some (p : Int)) = l.take p := by
  unfold cut sIx
  have : ¬ ((p : Int) < 0) := by omega
  simp [this]
theorem cut_drop {α : Type} {l : List α} {p : Nat} (h : p ≤ l.length) : cut l (some (p : Int)) none = l.drop p := by
  unfold cut sIx
  have : ¬ ((p : Int) < 0) := by omega
  simp [this, h]
  exact List.take_of_length_le (by simp)
theorem joinS_nil {l : List Nat} : ∀ {sep : Str}, sep = mk [] → joinS sep (l.map fun c => mk [c]) = mk l := by
  rintro _ rfl
  induction l with
  | nil => rfl
  | cons a r ih =>
    cases r with
    | nil => rfl
    | cons b r =>
      show mk [a] ++ mk [] ++ joinS (mk []) ((b :: r).map fun c => mk [c]) = _
      rw [ih]
      simp
theorem range'_T {m : Nat} : rangeT 0 m = (List.range' 0 m).map fun (i : Nat) => T.int (i : Int) := by
  unfold rangeT
  rw [List.range_eq_range']
  refine List.map_congr_left fun i _ => ?_
  simp
@[simp] theorem eqv_int {a b : Int} : T.eqv (.int a) (.int b) = some (decide (a = b)) := rfl
@[simp] theorem eqv_bl {a b : Bool} : T.eqv (.bl a) (.bl b) = some (a == b) := rfl
@[simp] theorem eqv_str {a b : Str} : T.eqv (.str a) (.str b) = some (decide (a = b)) := rfl
theorem mtT_join {sep : Str} {f : Bool} {ss : List Str} (h : (ss.map Str.length).sum + ss.length * sep.length ≤ 1048576) : mtT .join (.str sep) [.nd .lst f (ss.map .str)] = some (.str (joinS sep ss)) := by
  show (match strsL (ss.map T.str) with | some ss => if (ss.map Str.length).sum + ss.length * sep.length ≤ lim then some (T.str (joinS sep ss)) else none | none => none) = _
  rw [strsL_map]
  dsimp only
  rw [if_pos (show _ ≤ lim from h)]
theorem mtT_joinT {sep : Str} {f : Bool} {ss : List Str} (h : (ss.map Str.length).sum + ss.length * sep.length ≤ 1048576) : mtT .join (.str sep) [.nd .tup f (ss.map .str)] = some (.str (joinS sep ss)) := by
  show (match strsL (ss.map T.str) with | some ss => if (ss.map Str.length).sum + ss.length * sep.length ≤ lim then some (T.str (joinS sep ss)) else none | none => none) = _
  rw [strsL_map]
  dsimp only
  rw [if_pos (show _ ≤ lim from h)]
theorem sum_one : ∀ {l : List Nat}, ((l.map fun c => mk [c]).map Str.length).sum = l.length
  | [] => rfl
  | a :: r => by
    rw [List.map_cons, List.map_cons, List.sum_cons, sum_one (l := r), List.length_cons, mk_len]
    simp; omega
theorem nodup_rev {α : Type} {l : List α} (h : l.Nodup) : l.reverse.Nodup := by
  rw [List.Nodup, List.pairwise_reverse]
  exact h.imp fun e => Ne.symm e
end TI.M
end
section
set_option maxHeartbeats 4000000
/-! TP1: draws: box, take, mixed, pairs. Plain Lean. -/
namespace TI.M
open PySem
/-- _law_box: 0 _law_script 1 _law_k 2 _law_cell 3 _law_seed -/
def c_law_box : C := (.cons (.asg (.tv 2) (.bin .add (.bin .mul (.int 6997) (.var 1)) (.int 43))) (.cons (.ifS (.cmp .lt (.var 1) (.bi .len (.cons (.var 0) .nil))) (.cons (.asg (.tv 2) (.ix (.var 0) (.var 1))) .nil) (.cons (.ifS (.cmp .gt (.bi .len (.cons (.var 0) .nil)) (.int 0)) (.cons (.asg (.tv 2) (.bin .add (.var 2) (.bin .mul (.bin .mod (.ix (.var 0) (.bin .mod (.var 1) (.bi .len (.cons (.var 0) .nil)))) (.int 2147483629)) (.int 69653)))) .nil) .nil) .nil)) (.cons (.asg (.tv 3) (.bin .add (.bin .mod (.bin .add (.bin .mul (.bin .mod (.var 2) (.int 2147483629)) (.int 48271)) (.bin .mul (.int 40699) (.var 1))) (.int 2147483629)) (.int 1))) (.cons (.ret (.lst (.cons (.ix (.lst (.cons (.int 0) (.cons (.var 2) .nil))) (.bi .int (.cons (.cmp .ge (.var 2) (.bin .pow (.int 10) (.int 18))) .nil))) (.cons (.var 3) (.cons (.int 0) .nil))))) .nil))))
abbrev n_law_box : Fn := ⟨2, 4, c_law_box⟩
/-- _law_take: 0 _law_box_here 1 _law_many 2 _law_first 3 _law_digit -/
def c_law_take : C := (.cons (.ifS (.cmp .gt (.ix (.var 0) (.int 0)) (.int 0)) (.cons (.asg (.tv 3) (.bin .mod (.ix (.var 0) (.int 0)) (.var 1))) (.cons (.asg (.ts (.var 0) (.int 0)) (.bin .fdiv (.ix (.var 0) (.int 0)) (.var 1))) (.cons (.ret (.var 3)) .nil))) .nil) (.cons (.asg (.ts (.var 0) (.int 2)) (.bin .add (.ix (.var 0) (.int 2)) (.int 1))) (.cons (.asg (.tv 2) (.bin .mod (.bin .mul (.bin .add (.ix (.var 0) (.int 1)) (.bin .mul (.int 104743) (.ix (.var 0) (.int 2)))) (.int 69621)) (.int 2147483647))) (.cons (.asg (.ts (.var 0) (.int 1)) (.bin .add (.bin .mod (.bin .add (.bin .mul (.var 2) (.int 48271)) (.int 30107)) (.int 2147483629)) (.int 1))) (.cons (.ret (.bin .mod (.bin .fdiv (.bin .add (.bin .mul (.var 2) (.int 2147483647)) (.ix (.var 0) (.int 1))) (.int 8191)) (.var 1))) .nil)))))
abbrev n_law_take : Fn := ⟨2, 4, c_law_take⟩
/-- _law_mixed: 0 _law_box_here 1 _law_items 2 _law_turn 3 _law_left 4 _law_found -/
def c_law_mixed_b1 (f_law_take : Nat) : C := (.cons (.expr (.mm .append (.var 4) (.cons (.mm .pop1 (.var 3) (.cons (.call f_law_take (.cons (.var 0) (.cons (.bi .len (.cons (.var 3) .nil)) .nil))) .nil)) .nil))) .nil)
def c_law_mixed_f1 (f_law_take : Nat) : C := (.forS (.tv 2) (.itR1 (.bi .len (.cons (.var 3) .nil))) (c_law_mixed_b1 f_law_take))
def c_law_mixed (f_law_take : Nat) : C := (.cons (.par (.cons (.tv 3) (.cons (.tv 4) .nil)) (.cons (.bi .list (.cons (.var 1) .nil)) (.cons (.lst .nil) .nil))) (.cons (c_law_mixed_f1 f_law_take) (.cons (.ret (.var 4)) .nil)))
abbrev n_law_mixed (f_law_take : Nat) : Fn := ⟨2, 5, c_law_mixed f_law_take⟩
/-- _law_pairs: 0 _law_names_here 1 _law_found 2 _law_one 3 _law_other -/
def c_law_pairs_e1 : C := (.tup (.cons (.var 2) (.cons (.var 3) .nil)))
def c_law_pairs_t1 : C := (.cmp .ne (.var 3) (.var 2))
def c_law_pairs_l1 : C := (.lc [3] (.tv 3) (.var 0) (c_law_pairs_t1) (c_law_pairs_e1))
def c_law_pairs_b1 : C := (.cons (.expr (.mm .extend (.var 1) (.cons (c_law_pairs_l1) .nil))) .nil)
def c_law_pairs_f1 : C := (.forS (.tv 2) (.var 0) (c_law_pairs_b1))
def c_law_pairs : C := (.cons (.asg (.tv 1) (.lst .nil)) (.cons (c_law_pairs_f1) (.cons (.ret (.var 1)) .nil)))
abbrev n_law_pairs : Fn := ⟨1, 4, c_law_pairs⟩

/-! ### draws -/
abbrev Bx := Int × Int × Int
def bT (b : Bx) : T := .nd .lst true [.int b.1, .int b.2.1, .int b.2.2]
@[simp] theorem bT_free {b : Bx} : (bT b).free = false := rfl
@[simp] theorem bT_whole {b : Bx} : (bT b).whole = true := rfl
@[simp] theorem bT_frz {b : Bx} : (bT b).frz = .nd .lst false [.int b.1, .int b.2.1, .int b.2.2] := rfl
def tkD (b : Bx) (m : Int) : Int := if 0 < b.1 then b.1 % m else ((b.2.1 + 104743 * (b.2.2 + 1)) * 69621 % 2147483647 * 2147483647 + (((b.2.1 + 104743 * (b.2.2 + 1)) * 69621 % 2147483647 * 48271 + 30107) % 2147483629 + 1)) / 8191 % m
def tkB (b : Bx) (m : Int) : Bx := if 0 < b.1 then (b.1 / m, b.2.1, b.2.2) else (b.1, ((b.2.1 + 104743 * (b.2.2 + 1)) * 69621 % 2147483647 * 48271 + 30107) % 2147483629 + 1, b.2.2 + 1)
theorem tkD_nn {b : Bx} {m : Int} (h : 0 < m) : 0 ≤ tkD b m := by unfold tkD; split <;> exact Int.emod_nonneg _ (by omega)
theorem tkD_lt {b : Bx} {m : Int} (h : 0 < m) : tkD b m < m := by unfold tkD; split <;> exact Int.emod_lt_of_pos _ h
section
variable {P : Prg} {fuel k ft fm : Nat}
theorem f_take (hP : P.fns[ft]? = some n_law_take) {b : Bx} {m : Int} (h0 : 0 < m) (h1 : m < 1073741824) : callT P fuel (k + 1) ft [bT b, .int m] = .ok (.int (tkD b m)) [bT (tkB b m), .int m] := by
  obtain ⟨a, b, c⟩ := b
  rw [callT_s hP rfl]
  by_cases ha : 0 < a
  · simp -implicitDefEqProofs [c_law_take, bT, tkD, tkB, T.free, T.freeL, T.get, Kd.deep, T.set, T.whole, T.wholeL, T.frz, T.frzL, kidF, cmpT, eqT, binT, putT, mmT, biT, truT, itemsK, itemsI, itemsT, slT, Key.t, h0, h1, ha]
  · simp -implicitDefEqProofs [c_law_take, bT, tkD, tkB, T.free, T.freeL, T.get, Kd.deep, T.set, T.whole, T.wholeL, T.frz, T.frzL, kidF, cmpT, eqT, binT, putT, mmT, biT, truT, itemsK, itemsI, itemsT, slT, Key.t, h0, h1, ha, small]
theorem ix_int {ns : List Int} {i : Int} (h0 : 0 ≤ i) (h1 : i < ns.length) : ∃ n, (match ixNat ns.length i with | some j => (ns.map T.int)[j]? | none => none) = some (.int n) := by
  rw [ixNat_nn h0 h1]
  have : i.toNat < ns.length := by omega
  exact ⟨ns[i.toNat], by simp [this]⟩
theorem f_box (hP : P.fns[fm]? = some n_law_box) {ns : List Int} {j : Int} (h0 : 0 ≤ j) (hl : ns.length ≤ 1000000) : ∃ b : Bx, callT P fuel (k + 1) fm [.nd .scr false (ns.map .int), .int j] = .ok (bT b) [.nd .scr false (ns.map .int), .int j] := by
  rw [callT_s hP rfl]
  have hsm : small (6997 : Int) = true := by decide
  by_cases h1 : j < ns.length
  · have h2 : ixNat ns.length j = some j.toNat := ixNat_nn h0 h1
    have h3 : j.toNat < ns.length := by omega
    have h4 : ns[j.toNat]? = some ns[j.toNat] := by simp [h3]
    generalize ns[j.toNat] = n at h4
    by_cases h5 : (1000000000000000000 : Int) ≤ n <;>
    simp -implicitDefEqProofs [c_law_box, bT, T.free, T.freeL, T.get, Kd.deep, T.set, T.whole, T.wholeL, T.frz, T.frzL, kidF, cmpT, eqT, binT, putT, mmT, biT, truT, itemsK, itemsI, itemsT, slT, Key.t, hsm, h1, h2, h4, h5, small] <;> exact ⟨_, _, _, rfl⟩
  · by_cases h6 : 0 < (ns.length : Int)
    · have h6' : 0 < ns.length := by omega
      have h7 : 0 ≤ j % ns.length := Int.emod_nonneg _ (by omega)
      have h8 : j % ns.length < ns.length := Int.emod_lt_of_pos _ h6
      have h2 : ixNat ns.length (j % ns.length) = some (j % ns.length).toNat := ixNat_nn h7 h8
      have h3 : (j % ns.length).toNat < ns.length := by omega
      have h4 : ns[(j % ns.length).toNat]? = some ns[(j % ns.length).toNat] := by simp [h3]
      generalize ns[(j % ns.length).toNat] = n at h4
      by_cases h5 : (1000000000000000000 : Int) ≤ 6997 * j + 43 + n % 2147483629 * 69653 <;>
      simp -implicitDefEqProofs [c_law_box, bT, T.free, T.freeL, T.get, Kd.deep, T.set, T.whole, T.wholeL, T.frz, T.frzL, kidF, cmpT, eqT, binT, putT, mmT, biT, truT, itemsK, itemsI, itemsT, slT, Key.t, hsm, h1, h2, h4, h5, small, h6'] <;> exact ⟨_, _, _, rfl⟩
    · have h6' : ¬ 0 < ns.length := by omega
      by_cases h5 : (1000000000000000000 : Int) ≤ 6997 * j + 43 <;>
      simp -implicitDefEqProofs [c_law_box, bT, T.free, T.freeL, T.get, Kd.deep, T.set, T.whole, T.wholeL, T.frz, T.frzL, kidF, cmpT, eqT, binT, putT, mmT, biT, truT, itemsK, itemsI, itemsT, slT, Key.t, hsm, h1, h5, small, h6'] <;> exact ⟨_, _, _, rfl⟩
theorem cons_erase_perm {xs : List T} {i : Nat} (h : i < xs.length) : (xs[i] :: xs.eraseIdx i).Perm xs := by
  rw [List.eraseIdx_eq_take_drop_succ]
  have e : xs = xs.take i ++ xs[i] :: xs.drop (i + 1) := by rw [← List.drop_eq_getElem_cons h, List.take_append_drop]
  exact List.perm_middle.symm.trans (List.Perm.of_eq e.symm)
/-- a drawn item is taken out -/
theorem pop_ok {xs : List T} {b : Bx} (hf : T.freeL xs = true) (hn : 0 < xs.length) : ∃ y, ixNat xs.length (tkD b xs.length) = some (tkD b xs.length).toNat ∧ xs[(tkD b xs.length).toNat]? = some y ∧ y.free = true ∧ y.frz = y ∧ y.whole = true ∧ (y :: xs.eraseIdx (tkD b xs.length).toNat).Perm xs := by
  have h0 : 0 ≤ tkD b xs.length := tkD_nn (by omega)
  have h1 : tkD b xs.length < xs.length := tkD_lt (by omega)
  have h2 : (tkD b xs.length).toNat < xs.length := by omega
  have h3 : xs[(tkD b xs.length).toNat]? = some xs[(tkD b xs.length).toNat] := List.getElem?_eq_getElem h2
  have hy : (xs[(tkD b xs.length).toNat]).free = true := freeL_get hf h3
  refine ⟨_, ixNat_nn h0 h1, h3, hy, free_frz hy, free_whole hy, ?_⟩
  exact cons_erase_perm h2
theorem mixed_f1 (hP : P.fns[ft]? = some n_law_take) {b : Bx} {it : T} {xs : List T} (hf : T.freeL xs = true) (hl : xs.length ≤ 100000) :
    Nx ((ev (c_law_mixed_f1 ft)).s (KK P fuel (k + 1) [] [0]) [some (bT b), some it, none, some (.nd .lst true xs), some (.nd .lst true [])]) fun e => ∃ (b' : Bx) (o : Option T) (ys : List T), e = [some (bT b'), some it, o, some (.nd .lst true []), some (.nd .lst true ys)] ∧ ys.Perm xs := by
  have h1 : (xs.length : Int) < 1000000 := by omega
  have h2 : (-1000000 : Int) < xs.length := by omega
  refine nx_cps fun R hR => ?_
  simp -implicitDefEqProofs [c_law_mixed_f1, T.free, T.freeL, T.get, Kd.deep, T.set, T.whole, T.wholeL, T.frz, T.frzL, kidF, cmpT, eqT, binT, putT, mmT, biT, truT, itemsK, itemsI, itemsT, slT, Key.t, h1, h2]
  have L := forL_inv (g := (ev (.tv 2)).a (KK P fuel (k + 1) [] [0])) (b := (ev (c_law_mixed_b1 ft)).bl (KK P fuel (k + 1) [] [0])) (fun r e => ∃ (b' : Bx) (o : Option T) (zs ys : List T), e = [some (bT b'), some it, o, some (.nd .lst true zs), some (.nd .lst true ys)] ∧ zs.length = r.length ∧ (ys ++ zs).Perm xs ∧ T.freeL zs = true) (by
    rintro x r _ ⟨b', o, zs, ys, rfl, hz, hp, hf⟩ R hR
    have hn : 0 < zs.length := by rw [hz]; simp
    obtain ⟨y, p1, p2, p3, p4, p5, p6⟩ := pop_ok (b := b') hf hn
    have hlen : (ys ++ zs).length = xs.length := hp.length_eq
    have h4 : ys.length < 1048576 := by simp at hlen; omega
    have h5 : (zs.length : Int) < 1073741824 := by simp at hlen; omega
    simp -implicitDefEqProofs [c_law_mixed_b1, T.free, T.freeL, T.get, Kd.deep, T.set, T.whole, T.wholeL, T.frz, T.frzL, kidF, cmpT, eqT, binT, putT, mmT, biT, truT, itemsK, itemsI, itemsT, slT, Key.t, f_take hP (b := b') (m := zs.length) (by omega) h5, p1, p2, p3, p4, p5, h4]
    refine nx_ok (hR _ ⟨_, _, _, _, rfl, ?_, ?_, freeL_erase hf⟩)
    · have : (tkD b' zs.length).toNat < zs.length := by
        rw [List.getElem?_eq_some_iff] at p2
        exact p2.1
      rw [List.length_eraseIdx_of_lt this]
      simp at hz
      omega
    · refine List.Perm.trans ?_ hp
      rw [List.append_assoc]
      exact List.Perm.append_left ys p6) (rangeT 0 xs.length) _ ⟨b, none, xs, [], rfl, by simp [rangeT], by simp, hf⟩
  obtain ⟨e, he, b', o, zs, ys, rfl, hz, hp, _⟩ := L
  rw [he]
  have : zs = [] := List.eq_nil_of_length_eq_zero hz
  subst this
  exact nx_ok (hR _ ⟨b', o, ys, rfl, by simpa using hp⟩)
theorem f_mixed (hP : P.fns[ft]? = some n_law_take) (hM : P.fns[fm]? = some (n_law_mixed ft)) {b : Bx} {xs : List T} (hf : T.freeL xs = true) (hl : xs.length ≤ 100000) :
    Is (callT P fuel (k + 2) fm [bT b, .nd .tup false xs]) fun t fin => ∃ (ys : List T) (b' : Bx), t = .nd .lst true ys ∧ fin = [bT b', .nd .tup false xs] ∧ ys.Perm xs := by
  refine is_cps fun Q hQ => ?_
  rw [callT_s hM rfl]
  have hlim : xs.length ≤ 1048576 := Nat.le_trans hl (by decide)
  obtain ⟨e, he, b', o, ys, rfl, hp⟩ := mixed_f1 (P := P) (fuel := fuel) (k := k) (b := b) (it := .nd .tup false xs) hP hf hl
  have hw : T.wholeL ys = true := by
    rw [wholeL_all]
    intro x hx
    exact free_whole ((freeL_all.mp hf) x (hp.mem_iff.mp hx))
  simp -implicitDefEqProofs [c_law_mixed, T.free, T.freeL, T.get, Kd.deep, T.set, T.whole, T.wholeL, T.frz, T.frzL, kidF, cmpT, eqT, binT, putT, mmT, biT, truT, itemsK, itemsI, itemsT, slT, Key.t, hf, capL, hlim, he, hw]
  exact is_ok (hQ _ _ ⟨ys, b', rfl, rfl, hp⟩)
end
end TI.M
end
section
set_option maxHeartbeats 4000000
/-! TP2: pairs of names. Plain Lean. -/
namespace TI.M
open PySem
abbrev sL (f : Bool) (ns : List Str) : T := .nd .lst f (ns.map .str)
abbrev sT (ns : List Str) : T := .nd .tup false (ns.map .str)
def pT (p : Str × Str) : T := .nd .tup false [.str p.1, .str p.2]
@[simp] theorem pT_free {p : Str × Str} : (pT p).free = true := rfl
@[simp] theorem pT_whole {p : Str × Str} : (pT p).whole = true := rfl
@[simp] theorem pT_frz {p : Str × Str} : (pT p).frz = pT p := rfl
@[simp] theorem freeL_pT {ps : List (Str × Str)} : T.freeL (ps.map pT) = true := by
  rw [freeL_all]; intro x hx; obtain ⟨s, _, rfl⟩ := List.mem_map.mp hx; rfl
@[simp] theorem wholeL_pT {ps : List (Str × Str)} : T.wholeL (ps.map pT) = true := freeL_whole freeL_pT
@[simp] theorem wholeL_str {ps : List Str} : T.wholeL (ps.map .str) = true := freeL_whole freeL_str
@[simp] theorem frzL_pT {ps : List (Str × Str)} : T.frzL (ps.map pT) = ps.map pT := freeL_frz freeL_pT
@[simp] theorem frzL_str {ps : List Str} : T.frzL (ps.map .str) = ps.map .str := freeL_frz freeL_str
def others (ns : List Str) (a : Str) : List (Str × Str) := (ns.filter fun b => decide (b ≠ a)).map fun b => (a, b)
def pairsOf (ns : List Str) : List (Str × Str) := ns.flatMap (others ns)
section
variable {P : Prg} {fuel k fp : Nat}
theorem pairs_l1 {ns : List Str} {a : Str} {t : T} {pn : List Nat} (hl : ns.length ≤ 100000) (hp : 3 ∉ pn) :
    (ev c_law_pairs_l1).r (KK P fuel k [0] pn) [some (sL true ns), some t, some (.str a), none] = .ok (.tmp (.nd .lst true ((others ns a).map pT))) [some (sL true ns), some t, some (.str a), none] := by
  have hl' : ns.length ≤ 1048576 := by omega
  simp -implicitDefEqProofs [c_law_pairs_l1, T.free, T.freeL, T.get, Kd.deep, T.set, T.whole, T.wholeL, T.frz, T.frzL, kidF, cmpT, eqT, binT, putT, mmT, biT, truT, itemsK, itemsI, itemsT, slT, Key.t]
  rw [lcG_map (fun x => match x with | .str b => decide (b ≠ a) | _ => false) (fun x => .nd .tup false [.str a, x]) (by simpa using hl') (by simp [hp]) (by simp)]
  · simp only [others, List.filter_map, List.map_map]
    rfl
  · intro x hx acc ha R h1 h2
    obtain ⟨b, hb, rfl⟩ := List.mem_map.mp hx
    by_cases e : b = a
    · subst e
      simp -implicitDefEqProofs [c_law_pairs_t1, c_law_pairs_e1, T.free, T.freeL, T.get, Kd.deep, T.set, T.whole, T.wholeL, T.frz, T.frzL, kidF, cmpT, eqT, binT, putT, mmT, biT, truT, itemsK, itemsI, itemsT, slT, Key.t, ha, hp]
      exact ok_ok (h2 (by simp) _ rfl)
    · simp -implicitDefEqProofs [c_law_pairs_t1, c_law_pairs_e1, T.free, T.freeL, T.get, Kd.deep, T.set, T.whole, T.wholeL, T.frz, T.frzL, kidF, cmpT, eqT, binT, putT, mmT, biT, truT, itemsK, itemsI, itemsT, slT, Key.t, ha, hp, e]
      exact ok_ok (h1 (by simpa using e) _ rfl)
theorem others_le {ns : List Str} {a : Str} : (others ns a).length ≤ ns.length := by
  unfold others
  rw [List.length_map]
  exact List.length_filter_le ..
theorem flat_le {ns : List Str} : ∀ (pre : List Str), (pre.flatMap (others ns)).length ≤ pre.length * ns.length
  | [] => by simp
  | a :: r => by
    rw [List.flatMap_cons, List.length_append, List.length_cons, Nat.succ_mul]
    have := flat_le (ns := ns) r
    have := others_le (ns := ns) (a := a)
    omega
theorem pairs_f1 {ns : List Str} (hl : ns.length ≤ 100) :
    Nx ((ev c_law_pairs_f1).s (KK P fuel k [] [0]) [some (sL true ns), some (.nd .lst true []), none, none]) fun e => ∃ o, e = [some (sL true ns), some (.nd .lst true ((pairsOf ns).map pT)), o, none] := by
  have hl' : ns.length ≤ 1048576 := by omega
  refine nx_cps fun R hR => ?_
  simp -implicitDefEqProofs [c_law_pairs_f1, T.free, T.freeL, T.get, Kd.deep, T.set, T.whole, T.wholeL, T.frz, T.frzL, kidF, cmpT, eqT, binT, putT, mmT, biT, truT, itemsK, itemsI, itemsT, slT, Key.t]
  refine nx_mono (forL_inv (fun r e => ∃ (o : Option T) (pre r' : List Str), ns = pre ++ r' ∧ r = r'.map .str ∧ e = [some (sL true ns), some (.nd .lst true ((pre.flatMap (others ns)).map pT)), o, none]) ?_ _ _ ⟨none, [], ns, rfl, rfl, rfl⟩) ?_
  · rintro x r _ ⟨o, pre, r', e1, e2, rfl⟩ R hR
    cases r' with
    | nil => cases e2
    | cons a r' =>
      cases e2
      have h1 := flat_le (ns := ns) pre
      have h2 := others_le (ns := ns) (a := a)
      have h3 : pre.length ≤ 100 := by rw [e1] at hl; simp at hl; omega
      have h4 : pre.length * ns.length ≤ 100 * 100 := Nat.mul_le_mul h3 hl
      have h5 : (pre.flatMap (others ns)).length + (others ns a).length ≤ 1048576 := by omega
      have hF : (pre ++ [a]).flatMap (others ns) = pre.flatMap (others ns) ++ others ns a := by simp
      generalize pre.flatMap (others ns) = F at *
      rw [stE_eq, a_tv]
      simp -implicitDefEqProofs [c_law_pairs_b1, T.free, T.freeL, T.get, Kd.deep, T.set, T.whole, T.wholeL, T.frz, T.frzL, kidF, cmpT, eqT, binT, putT, mmT, biT, truT, itemsK, itemsI, itemsT, slT, Key.t, pairs_l1 (P := P) (fuel := fuel) (k := k) (ns := ns) (a := a) (pn := [0]) (by omega) (by simp), h5]
      refine nx_ok (hR _ ⟨some (.str a), pre ++ [a], r', by simp [e1], rfl, ?_⟩)
      rw [hF]
      simp
  · rintro e ⟨o, pre, r', e1, e2, rfl⟩
    cases r' with
    | cons _ _ => cases e2
    | nil =>
      rw [List.append_nil] at e1
      subst e1
      exact hR _ ⟨o, rfl⟩
theorem f_pairs (hP : P.fns[fp]? = some n_law_pairs) {ns : List Str} (hl : ns.length ≤ 100) :
    callT P fuel (k + 1) fp [sL true ns] = .ok (.nd .lst true ((pairsOf ns).map pT)) [sL true ns] := by
  rw [callT_s hP rfl]
  obtain ⟨e, he, o, rfl⟩ := pairs_f1 (P := P) (fuel := fuel) (k := k) hl
  simp -implicitDefEqProofs [c_law_pairs, T.free, T.freeL, T.get, Kd.deep, T.set, T.whole, T.wholeL, T.frz, T.frzL, kidF, cmpT, eqT, binT, putT, mmT, biT, truT, itemsK, itemsI, itemsT, slT, Key.t, he]
end
end TI.M
end
section
set_option maxHeartbeats 4000000
/-! TP3: drawn names. Plain Lean. -/
namespace TI.M
open PySem
/-- _law_names: 0 _law_box_here 1 _law_many 2 _law_words 3 _law_stem 4 _law_k 5 _law_letters 6 _law_form 7 _law_first 8 _law_short 9 _law_pairs_here 10 _law_spot 11 _law_found 12 _law_letter 13 _law_name 14 _law_word -/
def c_law_names_e1 : C := (.bin .add (.ix (.var 8) (.int 0)) (.var 14))
def c_law_names_l1 : C := (.lc [14] (.tv 14) (.var 8) .nil (c_law_names_e1))
def c_law_names_e2 : C := (.bin .add (.ix (.var 8) (.int 1)) (.var 14))
def c_law_names_l2 : C := (.lc [14] (.tv 14) (.var 8) .nil (c_law_names_e2))
def c_law_names_e3 : C := (.bin .add (.ix (.var 8) (.int 0)) (.var 14))
def c_law_names_l3 : C := (.lc [14] (.tv 14) (.var 9) .nil (c_law_names_e3))
def c_law_names_e4 : C := (.bin .add (.ix (.var 8) (.int 1)) (.var 14))
def c_law_names_l4 : C := (.lc [14] (.tv 14) (.var 9) .nil (c_law_names_e4))
def c_law_names_e5 (f_law_take : Nat) : C := (.mm .pop1 (.var 2) (.cons (.call f_law_take (.cons (.var 0) (.cons (.bi .len (.cons (.var 2) .nil)) .nil))) .nil))
def c_law_names_l5 (f_law_take : Nat) : C := (.lc [4] (.tv 4) (.itR1 (.var 1)) .nil (c_law_names_e5 f_law_take))
def c_law_names_e6 (f_law_take : Nat) : C := (.ix (.var 5) (.call f_law_take (.cons (.var 0) (.cons (.int 26) .nil))))
def c_law_names_l6 (f_law_take : Nat) : C := (.lc [4] (.tv 4) (.itR1 (.call f_law_take (.cons (.var 0) (.cons (.int 5) .nil)))) .nil (c_law_names_e6 f_law_take))
def c_law_names_b1 : C := (.cons (.asg (.tv 12) (.ix (.var 5) (.bin .mod (.bin .add (.var 7) (.bin .mul (.int 7) (.var 4))) (.int 26)))) (.cons (.asg (.tv 13) (.bin .add (.bin .add (.sl (.var 3) .nil (.cons (.var 10) .nil)) (.var 12)) (.sl (.var 3) (.cons (.var 10) .nil) .nil))) (.cons (.ifS (.andv (.cmp .eq (.var 6) (.int 2)) (.cmp .eq (.bin .mod (.var 4) (.int 2)) (.int 1))) (.cons (.asg (.tv 13) (.bin .add (.ix (.var 11) (.bin .sub (.var 4) (.int 1))) (.var 12))) .nil) .nil) (.cons (.expr (.mm .append (.var 11) (.cons (.var 13) .nil))) .nil))))
def c_law_names_f1 : C := (.forS (.tv 4) (.itR1 (.var 1)) (c_law_names_b1))
def c_law_names (f_law_take : Nat) : C := (.cons (.asg (.tv 2) (.lst (.cons (.str (Str.ofString "places")) (.cons (.str (Str.ofString "path")) (.cons (.str (Str.ofString "homes")) (.cons (.str (Str.ofString "at")) (.cons (.str (Str.ofString "crumb")) (.cons (.str (Str.ofString "join")) (.cons (.str (Str.ofString "go")) (.cons (.str (Str.ofString "back")) (.cons (.str (Str.ofString "undo")) (.cons (.str (Str.ofString "home")) (.cons (.str (Str.ofString "rest")) (.cons (.str (Str.ofString "yard")) .nil)))))))))))))) (.cons (.asg (.tt (.cons (.tv 5) (.cons (.tv 6) .nil))) (.tup (.cons (.str (Str.ofString "abcdefghijklmnopqrstuvwxyz")) (.cons (.call f_law_take (.cons (.var 0) (.cons (.int 5) .nil))) .nil)))) (.cons (.ifS (.cmp .eq (.var 6) (.int 1)) (.cons (.asg (.tv 7) (.call f_law_take (.cons (.var 0) (.cons (.int 26) .nil)))) (.cons (.asg (.tv 8) (.lst (.cons (.ix (.var 5) (.var 7)) (.cons (.ix (.var 5) (.bin .mod (.bin .add (.bin .add (.var 7) (.int 1)) (.call f_law_take (.cons (.var 0) (.cons (.int 25) .nil)))) (.int 26))) .nil)))) (.cons (.asg (.tv 9) (.bin .add (c_law_names_l1) (c_law_names_l2))) (.cons (.asg (.tv 2) (.bin .add (.bin .add (.bin .add (.var 8) (.var 9)) (c_law_names_l3)) (c_law_names_l4))) .nil)))) .nil) (.cons (.ifS (.cmp .lt (.var 6) (.int 2)) (.cons (.ret (c_law_names_l5 f_law_take)) .nil) .nil) (.cons (.asg (.tv 3) (.mt .join (.str (Str.ofString "")) (.cons (c_law_names_l6 f_law_take) .nil))) (.cons (.par (.cons (.tv 10) (.cons (.tv 7) (.cons (.tv 11) .nil))) (.cons (.call f_law_take (.cons (.var 0) (.cons (.bin .add (.bi .len (.cons (.var 3) .nil)) (.int 1)) .nil))) (.cons (.call f_law_take (.cons (.var 0) (.cons (.int 26) .nil))) (.cons (.lst .nil) .nil)))) (.cons (.ifS (.andv (.cmp .eq (.var 6) (.int 3)) (.cmp .eq (.bi .len (.cons (.var 3) .nil)) (.int 4))) (.cons (.par (.cons (.tv 3) (.cons (.tv 10) .nil)) (.cons (.bin .add (.var 3) (.str (Str.ofString "q"))) (.cons (.bin .add (.var 10) (.call f_law_take (.cons (.var 0) (.cons (.int 2) .nil)))) .nil))) .nil) .nil) (.cons (c_law_names_f1) (.cons (.ret (.sls (.var 11) (.ix (.lst (.cons (.int 1) (.cons (.bin .sub (.int 0) (.int 1)) .nil))) (.call f_law_take (.cons (.var 0) (.cons (.int 2) .nil)))))) .nil)))))))))
abbrev n_law_names (f_law_take : Nat) : Fn := ⟨2, 15, c_law_names f_law_take⟩

/-- a name: one to six small letters -/
def Nm (s : Str) : Prop := 1 ≤ s.cps.toList.length ∧ s.cps.toList.length ≤ 6 ∧ ∀ c ∈ s.cps.toList, 97 ≤ c ∧ c ≤ 122
instance (s : Str) : Decidable (Nm s) := by unfold Nm; exact inferInstance
theorem nm_mk {l : List Nat} (h1 : 1 ≤ l.length) (h2 : l.length ≤ 6) (h3 : ∀ c ∈ l, 97 ≤ c ∧ c ≤ 122) : Nm (mk l) := ⟨h1, h2, h3⟩
theorem abc_eq : Str.ofString "abcdefghijklmnopqrstuvwxyz" = mk (List.range' 97 26) := by decide +kernel
abbrev abc : T := .str (Str.ofString "abcdefghijklmnopqrstuvwxyz")
theorem ixR_abc {x : RV} {i : Int} (h0 : 0 ≤ i) (h1 : i < 26) : ixR x abc (.int i) = some (.tmp (.str (mk [97 + i.toNat]))) := by
  show ixR x (.str (Str.ofString "abcdefghijklmnopqrstuvwxyz")) _ = _
  rw [abc_eq]
  refine ixR_mk (j := i.toNat) (ixNat_nn h0 (by simpa using h1)) ?_ (by simp)
  rw [List.getElem?_range' (by omega)]
  simp
def W12 : List Str := ["places", "path", "homes", "at", "crumb", "join", "go", "back", "undo", "home", "rest", "yard"].map Str.ofString
theorem W12_nd : W12.Nodup := by decide +kernel
theorem W12_nm : ∀ s ∈ W12, Nm s := by decide +kernel
def W14 (a c : Nat) : List Str := [mk [a], mk [c], mk [a, a], mk [a, c], mk [c, a], mk [c, c], mk [a, a, a], mk [a, a, c], mk [a, c, a], mk [a, c, c], mk [c, a, a], mk [c, a, c], mk [c, c, a], mk [c, c, c]]
theorem W14_nd {a c : Nat} (h : a ≠ c) : (W14 a c).Nodup := by simp [W14, h, Ne.symm h]
theorem W14_nm {a c : Nat} (ha : 97 ≤ a ∧ a ≤ 122) (hc : 97 ≤ c ∧ c ≤ 122) : ∀ s ∈ W14 a c, Nm s := by
  intro s hs
  simp only [W14, List.mem_cons, List.not_mem_nil, or_false] at hs
  rcases hs with rfl | rfl | rfl | rfl | rfl | rfl | rfl | rfl | rfl | rfl | rfl | rfl | rfl | rfl <;> exact nm_mk (by simp) (by simp) (by simp; omega)
/-- a drawn text is taken out -/
theorem popS {xs : List Str} {b : Bx} (hn : 0 < xs.length) : ∃ y, ixNat xs.length (tkD b xs.length) = some (tkD b xs.length).toNat ∧ xs[(tkD b xs.length).toNat]? = some y ∧ (y :: xs.eraseIdx (tkD b xs.length).toNat).Perm xs ∧ (xs.eraseIdx (tkD b xs.length).toNat).length + 1 = xs.length := by
  have h0 : 0 ≤ tkD b xs.length := tkD_nn (by omega)
  have h1 : tkD b xs.length < xs.length := tkD_lt (by omega)
  have h2 : (tkD b xs.length).toNat < xs.length := by omega
  refine ⟨_, ixNat_nn h0 h1, List.getElem?_eq_getElem h2, ?_, ?_⟩
  · rw [List.eraseIdx_eq_take_drop_succ]
    have e : xs = xs.take (tkD b xs.length).toNat ++ xs[(tkD b xs.length).toNat] :: xs.drop ((tkD b xs.length).toNat + 1) := by rw [← List.drop_eq_getElem_cons h2, List.take_append_drop]
    exact List.perm_middle.symm.trans (List.Perm.of_eq e.symm)
  · rw [List.length_eraseIdx_of_lt h2]; omega
theorem erase_map {α β : Type} {f : α → β} : ∀ {l : List α} {i : Nat}, (l.map f).eraseIdx i = (l.eraseIdx i).map f
  | [], _ => rfl
  | _ :: _, 0 => rfl
  | a :: r, i + 1 => by simp [erase_map (l := r)]
section
variable {P : Prg} {fuel k ft fn : Nat} {s3 s5 s6 s7 s8 s9 s10 s11 s12 s13 s14 : Option T}
theorem names_l5 (hP : P.fns[ft]? = some n_law_take) {b : Bx} {m : Nat} {W : List Str} (hm : m ≤ W.length) (hW : W.length ≤ 1000) :
    Ok ((ev (c_law_names_l5 ft)).r (KK P fuel (k + 1) [] [0]) [some (bT b), some (.int m), some (sL true W), s3, none, s5, s6, s7, s8, s9, s10, s11, s12, s13, s14]) fun x e => ∃ (b' : Bx) (ss zs : List Str), x = .tmp (sL true ss) ∧ e = [some (bT b'), some (.int m), some (sL true zs), s3, none, s5, s6, s7, s8, s9, s10, s11, s12, s13, s14] ∧ ss.length = m ∧ (ss ++ zs).Perm W := by
  refine ok_cps fun R hR => ?_
  have h1 : (m : Int) < 1000000 := by omega
  have h2 : (-1000000 : Int) < m := by omega
  simp -implicitDefEqProofs [c_law_names_l5, T.free, T.freeL, T.get, Kd.deep, T.set, T.whole, T.wholeL, T.frz, T.frzL, kidF, cmpT, eqT, binT, putT, mmT, biT, truT, itemsK, itemsI, itemsT, slT, Key.t, h1, h2]
  refine ok_mono (lcG_inv (fun r acc e => ∃ (b' : Bx) (ss zs : List Str), acc = ss.map .str ∧ e = [some (bT b'), some (.int m), some (sL true zs), s3, none, s5, s6, s7, s8, s9, s10, s11, s12, s13, s14] ∧ ss.length + r.length = m ∧ (ss ++ zs).Perm W) (by simp) ?_ ⟨b, [], W, rfl, by simp, by simp [rangeT], by simp⟩) ?_
  · rintro x r acc _ ⟨b', ss, zs, rfl, rfl, hl, hp⟩ R hR
    have hlen := hp.length_eq
    simp at hl hlen
    have hn : 0 < zs.length := by omega
    obtain ⟨y, p1, p2, p3, p4⟩ := popS (b := b') hn
    have h5 : (zs.length : Int) < 1073741824 := by omega
    have h6 : ss.length < 1048576 := by omega
    simp -implicitDefEqProofs [c_law_names_e5, T.free, T.freeL, T.get, Kd.deep, T.set, T.whole, T.wholeL, T.frz, T.frzL, kidF, cmpT, eqT, binT, putT, mmT, biT, truT, itemsK, itemsI, itemsT, slT, Key.t, f_take hP (b := b') (m := zs.length) (by omega) h5, p1, p2, h6]
    refine ok_ok (hR _ _ ⟨tkB b' zs.length, ss ++ [y], zs.eraseIdx (tkD b' zs.length).toNat, by simp, by simp [erase_map], by simp; omega, ?_⟩)
    refine List.Perm.trans ?_ hp
    rw [List.append_assoc]
    exact List.Perm.append_left ss p3
  · rintro x e ⟨acc, e1, rfl, rfl, b', ss, zs, rfl, rfl, hl, hp⟩
    exact hR _ _ ⟨b', ss, zs, rfl, by simp, by simpa using hl, hp⟩
/-- letters drawn -/
theorem names_l6 (hP : P.fns[ft]? = some n_law_take) {b : Bx} {m : Nat} {s2 : Option T} :
    Ok ((ev (c_law_names_l6 ft)).r (KK P fuel (k + 1) [] [0]) [some (bT b), some (.int m), s2, s3, none, some abc, s6, s7, s8, s9, s10, s11, s12, s13, s14]) fun x e => ∃ (b' : Bx) (l : List Nat), x = .tmp (sL true (l.map fun c => mk [c])) ∧ e = [some (bT b'), some (.int m), s2, s3, none, some abc, s6, s7, s8, s9, s10, s11, s12, s13, s14] ∧ l.length ≤ 4 ∧ ∀ c ∈ l, 97 ≤ c ∧ c ≤ 122 := by
  refine ok_cps fun R hR => ?_
  have h1 : 0 ≤ tkD b 5 := tkD_nn (by omega)
  have h2 : tkD b 5 < 5 := tkD_lt (by omega)
  have h3 : tkD b 5 < 1000000 := by omega
  have h4 : -1000000 < tkD b 5 := by omega
  simp -implicitDefEqProofs [c_law_names_l6, T.free, T.freeL, T.get, Kd.deep, T.set, T.whole, T.wholeL, T.frz, T.frzL, kidF, cmpT, eqT, binT, putT, mmT, biT, truT, itemsK, itemsI, itemsT, slT, Key.t, f_take hP (b := b) (m := 5) (by omega) (by omega), h3, h4]
  refine ok_mono (lcG_inv (fun r acc e => ∃ (b' : Bx) (l : List Nat), acc = (l.map fun c => mk [c]).map .str ∧ e = [some (bT b'), some (.int m), s2, s3, none, some abc, s6, s7, s8, s9, s10, s11, s12, s13, s14] ∧ l.length + r.length ≤ 4 ∧ ∀ c ∈ l, 97 ≤ c ∧ c ≤ 122) (by simp) ?_ ⟨_, [], rfl, rfl, by simp [rangeT]; omega, by simp⟩) ?_
  · rintro x r acc _ ⟨b', l, rfl, rfl, hl, hp⟩ R hR
    simp at hl
    have h5 : 0 ≤ tkD b' 26 := tkD_nn (by omega)
    have h6 : tkD b' 26 < 26 := tkD_lt (by omega)
    have h7 : l.length < 1048576 := by omega
    simp -implicitDefEqProofs [c_law_names_e6, T.free, T.freeL, T.get, Kd.deep, T.set, T.whole, T.wholeL, T.frz, T.frzL, kidF, cmpT, eqT, binT, putT, mmT, biT, truT, itemsK, itemsI, itemsT, slT, Key.t, f_take hP (b := b') (m := 26) (by omega) (by omega), ixR_abc h5 h6, h7]
    refine ok_ok (hR _ _ ⟨tkB b' 26, l ++ [97 + (tkD b' 26).toNat], by simp, by simp, by simp; omega, ?_⟩)
    intro c hc
    rcases List.mem_append.mp hc with hc | hc
    · exact hp c hc
    · simp at hc; omega
  · rintro x e ⟨acc, e1, rfl, rfl, b', l, rfl, rfl, hl, hp⟩
    exact hR _ _ ⟨b', l, rfl, by simp, by simpa using hl, hp⟩
/-- the letter of turn j -/
def ltr (f j : Nat) : Nat := 97 + (f + 7 * j) % 26
def nmL (l : List Nat) (p f j : Nat) : List Nat := l.take p ++ [ltr f j] ++ l.drop p
/-- the name of turn j -/
def nmF (two : Bool) (l : List Nat) (p f j : Nat) : List Nat := if two = true ∧ j % 2 = 1 then nmL l p f (j - 1) ++ [ltr f j] else nmL l p f j
def nmS (two : Bool) (l : List Nat) (p f m : Nat) : List Str := (List.range m).map fun j => mk (nmF two l p f j)
theorem nmL_len {l : List Nat} {p f j : Nat} (h : p ≤ l.length) : (nmL l p f j).length = l.length + 1 := by
  unfold nmL; simp; omega
theorem ltr_ok {f j : Nat} : 97 ≤ ltr f j ∧ ltr f j ≤ 122 := by unfold ltr; omega
theorem ltr_inj {f i j : Nat} (hi : i < 26) (hj : j < 26) (h : ltr f i = ltr f j) : i = j := by unfold ltr at h; omega
theorem nmL_inj {l : List Nat} {p f i j : Nat} (hi : i < 26) (hj : j < 26) (h : nmL l p f i = nmL l p f j) : i = j := by
  unfold nmL at h
  rw [List.append_assoc, List.append_assoc] at h
  have := List.append_cancel_left h
  simp at this
  exact ltr_inj hi hj this
theorem nmF_inj {two : Bool} {l : List Nat} {p f i j : Nat} (hp : p ≤ l.length) (hi : i < 26) (hj : j < 26) (h : nmF two l p f i = nmF two l p f j) : i = j := by
  have hlen := congrArg List.length h
  unfold nmF at h hlen
  by_cases h1 : two = true ∧ i % 2 = 1 <;> by_cases h2 : two = true ∧ j % 2 = 1
  · rw [if_pos h1, if_pos h2] at h
    have := (List.append_inj' h rfl).2
    simp at this
    exact ltr_inj hi hj this
  · rw [if_pos h1, if_neg h2] at hlen
    simp [nmL_len hp] at hlen
  · rw [if_neg h1, if_pos h2] at hlen
    simp [nmL_len hp] at hlen
  · rw [if_neg h1, if_neg h2] at h
    exact nmL_inj hi hj h
theorem nmS_nd {two : Bool} {l : List Nat} {p f m : Nat} (hp : p ≤ l.length) (hm : m ≤ 26) : (nmS two l p f m).Nodup := by
  unfold nmS
  rw [List.Nodup, List.pairwise_map]
  refine List.Pairwise.imp_of_mem ?_ List.nodup_range
  intro a b ha hb hne h
  rw [List.mem_range] at ha hb
  exact hne (nmF_inj hp (by omega) (by omega) (mk_inj.mp h))
theorem nmL_mem {l : List Nat} {p f j : Nat} (h : ∀ c ∈ l, 97 ≤ c ∧ c ≤ 122) : ∀ c ∈ nmL l p f j, 97 ≤ c ∧ c ≤ 122 := by
  intro c hc
  unfold nmL at hc
  simp only [List.mem_append, List.mem_singleton] at hc
  rcases hc with (hc | hc) | hc
  · exact h c (List.mem_of_mem_take hc)
  · rw [hc]; exact ltr_ok
  · exact h c (List.mem_of_mem_drop hc)
theorem nmS_nm {two : Bool} {l : List Nat} {p f m : Nat} (hp : p ≤ l.length) (hl : l.length ≤ if two = true then 4 else 5) (h : ∀ c ∈ l, 97 ≤ c ∧ c ≤ 122) : ∀ s ∈ nmS two l p f m, Nm s := by
  intro s hs
  obtain ⟨j, _, rfl⟩ := List.mem_map.mp hs
  unfold nmF
  by_cases h1 : two = true ∧ j % 2 = 1
  · rw [if_pos h1]
    rw [if_pos h1.1] at hl
    refine nm_mk (by simp) (by simp [nmL_len hp]; omega) fun c hc => ?_
    simp only [List.mem_append, List.mem_singleton] at hc
    rcases hc with hc | hc
    · exact nmL_mem h c hc
    · rw [hc]; exact ltr_ok
  · rw [if_neg h1]
    have : l.length ≤ 5 := by split at hl <;> omega
    exact nm_mk (by simp [nmL_len hp]) (by simp [nmL_len hp]; omega) (nmL_mem h)
theorem names_f1 {m f p : Nat} {form : Int} {l : List Nat} {b : Bx} {s2 : Option T} (hm : m ≤ 26) (hp : p ≤ l.length) (hl : l.length ≤ 6) (hf : f < 26) :
    Nx ((ev c_law_names_f1).s (KK P fuel k [] [0]) [some (bT b), some (.int m), s2, some (.str (mk l)), none, some abc, some (.int form), some (.int f), s8, s9, some (.int p), some (.nd .lst true []), none, none, s14]) fun e => ∃ o4 o12 o13, e = [some (bT b), some (.int m), s2, some (.str (mk l)), o4, some abc, some (.int form), some (.int f), s8, s9, some (.int p), some (sL true (nmS (decide (form = 2)) l p f m)), o12, o13, s14] := by
  refine nx_cps fun R hR => ?_
  have h1 : (m : Int) < 1000000 := by omega
  have h2 : (-1000000 : Int) < m := by omega
  simp -implicitDefEqProofs [c_law_names_f1, T.free, T.freeL, T.get, Kd.deep, T.set, T.whole, T.wholeL, T.frz, T.frzL, kidF, cmpT, eqT, binT, putT, mmT, biT, truT, itemsK, itemsI, itemsT, slT, Key.t, h1, h2]
  rw [range'_T]
  refine nx_mono (forL_inv (fun r e => ∃ (j : Nat) (o4 o12 o13 : Option T), r = (List.range' j (m - j)).map (fun (i : Nat) => T.int (i : Int)) ∧ j ≤ m ∧ e = [some (bT b), some (.int m), s2, some (.str (mk l)), o4, some abc, some (.int form), some (.int f), s8, s9, some (.int p), some (sL true (nmS (decide (form = 2)) l p f j)), o12, o13, s14]) ?_ _ _ ⟨0, none, none, none, rfl, by omega, rfl⟩) ?_
  · rintro x r _ ⟨j, o4, o12, o13, hr, hj, rfl⟩ R hR
    obtain ⟨n, hn⟩ : ∃ n, m - j = n + 1 := by
      cases e : m - j with
      | zero => rw [e] at hr; cases hr
      | succ n => exact ⟨n, rfl⟩
    rw [hn, List.range'_succ, List.map_cons] at hr
    cases hr
    have h3 : 0 ≤ ((f : Int) + 7 * j) % 26 := Int.emod_nonneg _ (by omega)
    have h4 : ((f : Int) + 7 * j) % 26 < 26 := Int.emod_lt_of_pos _ (by omega)
    have h5 : 97 + (((f : Int) + 7 * j) % 26).toNat = ltr f j := by unfold ltr; omega
    have h6 : small (7 : Int) = true := by decide
    have h7 : (l.take p).length ≤ 1048576 := by simp; omega
    have h8 : l.length ≤ 1048576 := by omega
    have h9 : (nmS (decide (form = 2)) l p f j).length < 1048576 := by simp [nmS]; omega
    have hs : nmS (decide (form = 2)) l p f (j + 1) = nmS (decide (form = 2)) l p f j ++ [mk (nmF (decide (form = 2)) l p f j)] := by simp [nmS, List.range_succ]
    have c1 : (l.take p ++ [ltr f j]).length ≤ 1048576 := by simp; omega
    have c2 : (l.take p ++ [ltr f j] ++ l.drop p).length ≤ 1048576 := by simp; omega
    have c4 : (l.take p ++ ltr f j :: l.drop p).length ≤ 1048576 := by simp; omega
    by_cases hb : form = 2 ∧ j % 2 = 1
    · obtain ⟨hb1, hb2⟩ := hb
      have hb3 : (j : Int) % 2 = 1 := by omega
      have i1 : ixNat j ((j : Int) - 1) = some (j - 1) := by rw [ixNat_nn (by omega) (by omega)]; congr 1; omega
      have i2 : (nmS (decide (form = 2)) l p f j)[j - 1]? = some (mk (nmL l p f (j - 1))) := by
        have : j - 1 < j := by omega
        simp only [nmS, List.getElem?_map, List.getElem?_range this, Option.map_some]
        congr 2
        unfold nmF
        rw [if_neg (by omega)]
      have i3 : (nmS (decide (form = 2)) l p f j).length = j := by simp [nmS]
      have i4 : nmF (decide (form = 2)) l p f j = nmL l p f (j - 1) ++ [ltr f j] := by unfold nmF; rw [if_pos ⟨by simpa using hb1, hb2⟩]
      have c3 : (nmL l p f (j - 1) ++ [ltr f j]).length ≤ 1048576 := by simp [nmL_len hp]; omega
      rw [i4] at hs
      generalize nmS (decide (form = 2)) l p f j = N at *
      subst hb1
      simp -implicitDefEqProofs [c_law_names_b1, T.free, T.freeL, T.get, Kd.deep, T.set, T.whole, T.wholeL, T.frz, T.frzL, kidF, cmpT, eqT, binT, putT, mmT, biT, truT, itemsK, itemsI, itemsT, slT, Key.t, h6, ixR_abc h3 h4, h5, cutS_mk, cut_take hp, cut_drop hp, h7, h8, h9, capS_mk c1, capS_mk c2, capS_mk c3, capS_mk c4, hb3, i1, i2, i3, show j < 1048576 by omega]
      refine nx_ok (hR _ ⟨j + 1, some (.int j), some (.str (mk [ltr f j])), some (.str (mk (nmL l p f (j - 1) ++ [ltr f j]))), ?_, by omega, ?_⟩)
      · rw [show m - (j + 1) = n by omega]
      · rw [hs]; simp
    · have i4 : nmF (decide (form = 2)) l p f j = l.take p ++ [ltr f j] ++ l.drop p := by unfold nmF; rw [if_neg (by simpa using hb)]; rfl
      rw [i4] at hs
      generalize nmS (decide (form = 2)) l p f j = N at *
      by_cases hb1 : form = 2
      · have hb3 : ¬ (j : Int) % 2 = 1 := by omega
        subst hb1
        simp -implicitDefEqProofs [c_law_names_b1, T.free, T.freeL, T.get, Kd.deep, T.set, T.whole, T.wholeL, T.frz, T.frzL, kidF, cmpT, eqT, binT, putT, mmT, biT, truT, itemsK, itemsI, itemsT, slT, Key.t, h6, ixR_abc h3 h4, h5, cutS_mk, cut_take hp, cut_drop hp, h7, h8, h9, capS_mk c1, capS_mk c2, capS_mk c4, hb3]
        refine nx_ok (hR _ ⟨j + 1, some (.int j), some (.str (mk [ltr f j])), some (.str (mk (l.take p ++ ltr f j :: l.drop p))), ?_, by omega, ?_⟩)
        · rw [show m - (j + 1) = n by omega]
        · rw [hs]; simp
      · simp -implicitDefEqProofs [c_law_names_b1, T.free, T.freeL, T.get, Kd.deep, T.set, T.whole, T.wholeL, T.frz, T.frzL, kidF, cmpT, eqT, binT, putT, mmT, biT, truT, itemsK, itemsI, itemsT, slT, Key.t, h6, ixR_abc h3 h4, h5, cutS_mk, cut_take hp, cut_drop hp, h7, h8, h9, capS_mk c1, capS_mk c2, capS_mk c4, hb1]
        refine nx_ok (hR _ ⟨j + 1, some (.int j), some (.str (mk [ltr f j])), some (.str (mk (l.take p ++ ltr f j :: l.drop p))), ?_, by omega, ?_⟩)
        · rw [show m - (j + 1) = n by omega]
        · rw [hs]; simp
  · rintro e ⟨j, o4, o12, o13, hr, hj, rfl⟩
    have : m - j = 0 := by
      cases e : m - j with
      | zero => rfl
      | succ n => rw [e] at hr; cases hr
    have : j = m := by omega
    subst this
    exact hR _ ⟨o4, o12, o13, rfl⟩
@[simp] theorem m_names_l5 {K : Ek} {env : Env} : (ev (c_law_names_l5 ft)).m K env = bindD ((ev (c_law_names_l5 ft)).r K env) (fun x e => valR K x e) ⟨⟩ := rfl
theorem join_nil : Str.ofString "" = mk [] := rfl
theorem f_names (hP : P.fns[ft]? = some n_law_take) (hN : P.fns[fn]? = some (n_law_names ft)) {b : Bx} {m : Nat} (h1 : 1 ≤ m) (h2 : m ≤ 12) :
    Is (callT P fuel (k + 2) fn [bT b, .int m]) fun t fin => ∃ (ss : List Str) (b' : Bx), t = sL true ss ∧ fin = [bT b', .int m] ∧ ss.length = m ∧ ss.Nodup ∧ ∀ s ∈ ss, Nm s := by
  refine is_cps fun Q hQ => ?_
  rw [callT_s hN rfl]
  have f0 : 0 ≤ tkD b 5 := tkD_nn (by omega)
  have f5 : tkD b 5 < 5 := tkD_lt (by omega)
  have hw : ∀ {W : List Str} {ss zs : List Str}, (ss ++ zs).Perm W → W.Nodup → (∀ s ∈ W, Nm s) → ss.Nodup ∧ ∀ s ∈ ss, Nm s := fun {W ss zs} hp hn hm =>
    ⟨(List.nodup_append.mp (hp.nodup_iff.mpr hn)).1, fun s hs => hm s (hp.mem_iff.mp (List.mem_append_left _ hs))⟩
  have t5 := fun (b : Bx) => f_take (P := P) (fuel := fuel) (k := k) hP (b := b) (m := 5) (by omega) (by omega)
  have t26 := fun (b : Bx) => f_take (P := P) (fuel := fuel) (k := k) hP (b := b) (m := 26) (by omega) (by omega)
  have t25 := fun (b : Bx) => f_take (P := P) (fuel := fuel) (k := k) hP (b := b) (m := 25) (by omega) (by omega)
  have t2 := fun (b : Bx) => f_take (P := P) (fuel := fuel) (k := k) hP (b := b) (m := 2) (by omega) (by omega)
  by_cases c0 : tkD b 5 = 0
  · obtain ⟨x, e, he, b', ss, zs, rfl, rfl, hl, hp⟩ := names_l5 (fuel := fuel) (k := k) (P := P) (ft := ft) (s3 := none) (s5 := some abc) (s6 := some (.int 0)) (s7 := none) (s8 := none) (s9 := none) (s10 := none) (s11 := none) (s12 := none) (s13 := none) (s14 := none) hP (b := tkB b 5) (m := m) (W := W12) (by simp [W12]; omega) (by simp [W12])
    simp only [sL, W12, List.map_cons, List.map_nil] at he
    simp -implicitDefEqProofs [c_law_names, T.free, T.freeL, T.get, Kd.deep, T.set, T.whole, T.wholeL, T.frz, T.frzL, kidF, cmpT, eqT, binT, putT, mmT, biT, truT, itemsK, itemsI, itemsT, slT, Key.t, t5, c0, he]
    obtain ⟨q1, q2⟩ := hw hp W12_nd W12_nm
    exact is_ok (hQ _ _ ⟨ss, b', rfl, rfl, hl, q1, q2⟩)
  by_cases c1 : tkD b 5 = 1
  · have a0 : 0 ≤ tkD (tkB b 5) 26 := tkD_nn (by omega)
    have a1 : tkD (tkB b 5) 26 < 26 := tkD_lt (by omega)
    have d0 : 0 ≤ tkD (tkB (tkB b 5) 26) 25 := tkD_nn (by omega)
    have d1 : tkD (tkB (tkB b 5) 26) 25 < 25 := tkD_lt (by omega)
    generalize hA : tkD (tkB b 5) 26 = A at *
    generalize hD : tkD (tkB (tkB b 5) 26) 25 = D at *
    have e0 : 0 ≤ (A + 1 + D) % 26 := Int.emod_nonneg _ (by omega)
    have e1 : (A + 1 + D) % 26 < 26 := Int.emod_lt_of_pos _ (by omega)
    have e2 : 97 + A.toNat ≠ 97 + ((A + 1 + D) % 26).toNat := by omega
    have e3 : 97 ≤ 97 + A.toNat ∧ 97 + A.toNat ≤ 122 := by omega
    have e4 : 97 ≤ 97 + ((A + 1 + D) % 26).toNat ∧ 97 + ((A + 1 + D) % 26).toNat ≤ 122 := by omega
    have x1 := fun (x : RV) => ixR_abc (x := x) a0 a1
    have x2 := fun (x : RV) => ixR_abc (x := x) e0 e1
    generalize 97 + A.toNat = u at *
    generalize 97 + ((A + 1 + D) % 26).toNat = v at *
    have cs : ∀ l : List Nat, l.length ≤ 3 → capS (mk l) = some (.str (mk l)) := fun l h => capS_mk (by omega)
    obtain ⟨x, e, he, b', ss, zs, rfl, rfl, hl, hp⟩ := names_l5 (fuel := fuel) (k := k) (P := P) (ft := ft) (s3 := none) (s5 := some abc) (s6 := some (.int 1)) (s7 := some (.int A)) (s8 := some (sL true [mk [u], mk [v]])) (s9 := some (sL true [mk [u, u], mk [u, v], mk [v, u], mk [v, v]])) (s10 := none) (s11 := none) (s12 := none) (s13 := none) (s14 := none) hP (b := tkB (tkB (tkB b 5) 26) 25) (m := m) (W := W14 u v) (by simp [W14]; omega) (by simp [W14])
    simp only [sL, W14, List.map_cons, List.map_nil] at he
    simp -implicitDefEqProofs [c_law_names, c_law_names_l1, c_law_names_l2, c_law_names_l3, c_law_names_l4, c_law_names_e1, c_law_names_e2, c_law_names_e3, c_law_names_e4, T.free, T.freeL, T.get, Kd.deep, T.set, T.whole, T.wholeL, T.frz, T.frzL, kidF, cmpT, eqT, binT, putT, mmT, biT, truT, itemsK, itemsI, itemsT, slT, Key.t, t5, t26, t25, c1, hA, hD, x1, x2, lcG, compL_consD, cs, capL, he]
    obtain ⟨q1, q2⟩ := hw hp (W14_nd e2) (W14_nm e3 e4)
    exact is_ok (hQ _ _ ⟨ss, b', rfl, rfl, hl, q1, q2⟩)
  have c2 : ¬ tkD b 5 < 2 := by omega
  generalize hF : tkD b 5 = F at *
  obtain ⟨x, e, he, b1, l, rfl, rfl, hl, hm⟩ := names_l6 (fuel := fuel) (k := k) (P := P) (ft := ft) (s3 := none) (s2 := some (sL true W12)) (s6 := some (.int F)) (s7 := none) (s8 := none) (s9 := none) (s10 := none) (s11 := none) (s12 := none) (s13 := none) (s14 := none) hP (b := tkB b 5) (m := m)
  simp only [sL, W12, List.map_cons, List.map_nil, List.map_map] at he
  have hj : mtT .join (.str (Str.ofString "")) [.nd .lst true (l.map (T.str ∘ fun c => mk [c]))] = some (.str (mk l)) := by
    rw [← List.map_map, mtT_join (by rw [sum_one, join_nil, mk_len]; simp; omega), joinS_nil (sep := Str.ofString "") rfl]
  have hlen : (0 : Int) < (l.length : Int) + 1 := by omega
  have hlen2 : (l.length : Int) + 1 < 1073741824 := by omega
  have tl := f_take (P := P) (fuel := fuel) (k := k) hP (b := b1) hlen hlen2
  have p0 : 0 ≤ tkD b1 ((l.length : Int) + 1) := tkD_nn hlen
  have p1 : tkD b1 ((l.length : Int) + 1) < (l.length : Int) + 1 := tkD_lt hlen
  generalize tkD b1 ((l.length : Int) + 1) = p at *
  generalize tkB b1 ((l.length : Int) + 1) = b2 at *
  obtain ⟨p, rfl⟩ := Int.eq_ofNat_of_zero_le p0
  have g0 : 0 ≤ tkD b2 26 := tkD_nn (by omega)
  have g1 : tkD b2 26 < 26 := tkD_lt (by omega)
  have tf := t26 b2
  generalize tkD b2 26 = f at *
  generalize tkB b2 26 = b3 at *
  obtain ⟨f, rfl⟩ := Int.eq_ofNat_of_zero_le g0
  have fin : ∀ (l : List Nat) (p : Nat), p ≤ l.length → l.length ≤ (if decide (F = 2) = true then 4 else 5) → (∀ c ∈ l, 97 ≤ c ∧ c ≤ 122) → ∀ b4 : Bx, ∃ o4 o12 o13, (ev c_law_names_f1).s (KK P fuel (k + 1) [] [0]) [some (bT b4), some (.int m), some (sL true W12), some (.str (mk l)), none, some abc, some (.int F), some (.int f), none, none, some (.int p), some (.nd .lst true []), none, none, none] = .nx [some (bT b4), some (.int m), some (sL true W12), some (.str (mk l)), o4, some abc, some (.int F), some (.int f), none, none, some (.int p), some (sL true (nmS (decide (F = 2)) l p f m)), o12, o13, none] ∧
      (nmS (decide (F = 2)) l p f m).Nodup ∧ (∀ s ∈ nmS (decide (F = 2)) l p f m, Nm s) ∧ (nmS (decide (F = 2)) l p f m).length = m := fun l p hp hl hm b4 => by
    have hl6 : l.length ≤ 6 := by split at hl <;> omega
    obtain ⟨e, he, o4, o12, o13, rfl⟩ := names_f1 (P := P) (fuel := fuel) (k := k + 1) (s8 := none) (s9 := none) (s14 := none) (m := m) (f := f) (form := F) (b := b4) (s2 := some (sL true W12)) (by omega) hp hl6 (by omega)
    exact ⟨o4, o12, o13, he, nmS_nd hp (by omega), nmS_nm hp hl hm, by simp [nmS]⟩
  have out : ∀ (N : List Str) (b4 : Bx), N.Nodup → (∀ s ∈ N, Nm s) → N.length = m → ∀ (s2 s3 s4 s5 s6 s7 s8 s9 s10 s12 s13 s14 : Option T), Is (finC [bT b, .int m] [0] (nextD ((ev (.ret (.sls (.var 11) (.ix (.lst (.cons (.int 1) (.cons (.bin .sub (.int 0) (.int 1)) .nil))) (.call ft (.cons (.var 0) (.cons (.int 2) .nil))))))).s (KK P fuel (k + 1) [] [0]) [some (bT b4), some (.int m), s2, s3, s4, s5, s6, s7, s8, s9, s10, some (sL true N), s12, s13, s14]) (fun e => SO.nx e) ⟨⟩)) Q := by
    intro N b4 q1 q2 q3 s2 s3 s4 s5 s6 s7 s8 s9 s10 s12 s13 s14
    have r0 : 0 ≤ tkD b4 2 := tkD_nn (by omega)
    have r1 : tkD b4 2 < 2 := tkD_lt (by omega)
    have hN : N.length ≤ 1048576 := by omega
    have tt := t2 b4
    rcases (show tkD b4 2 = 0 ∨ tkD b4 2 = 1 by omega) with r | r
    · rw [r] at tt
      simp -implicitDefEqProofs [T.free, T.freeL, T.get, Kd.deep, T.set, T.whole, T.wholeL, T.frz, T.frzL, kidF, cmpT, eqT, binT, putT, mmT, biT, truT, itemsK, itemsI, itemsT, slT, Key.t, tt, slsT, capL, hN]
      exact is_ok (hQ _ _ ⟨N, tkB b4 2, rfl, rfl, q3, q1, q2⟩)
    · rw [r] at tt
      have hf : T.freeL ((N.map T.str).reverse) = true := by rw [← List.map_reverse]; exact freeL_str
      simp -implicitDefEqProofs [T.free, T.freeL, T.get, Kd.deep, T.set, T.whole, T.wholeL, T.frz, T.frzL, kidF, cmpT, eqT, binT, putT, mmT, biT, truT, itemsK, itemsI, itemsT, slT, Key.t, tt, slsT, capL, hN, hf]
      refine is_ok (hQ _ _ ⟨N.reverse, tkB b4 2, ?_, rfl, by simpa using q3, nodup_rev q1, fun s hs => q2 s (List.mem_reverse.mp hs)⟩)
      simp
  have hj' : mtT .join (.str (Str.ofString "")) [.nd .lst true (l.map (T.str ∘ fun c => mk [c]))] = some (.str (mk l)) := hj
  have u3 := t2 b3
  have u0 : 0 ≤ tkD b3 2 := tkD_nn (by omega)
  have u1 : tkD b3 2 < 2 := tkD_lt (by omega)
  generalize tkD b3 2 = q at *
  generalize tkB b3 2 = b4 at *
  by_cases z : F = 3 ∧ l.length = 4
  · obtain ⟨rfl, z⟩ := z
    obtain ⟨q, rfl⟩ := Int.eq_ofNat_of_zero_le u0
    have hq : Str.ofString "q" = mk [113] := rfl
    have z' : (l.length : Int) = 4 := by omega
    obtain ⟨o4, o12, o13, f1, f2, f3, f4⟩ := fin (l ++ [113]) (p + q) (by simp; omega) (by simp; omega) (by
      intro c hc
      rcases List.mem_append.mp hc with hc | hc
      · exact hm c hc
      · simp at hc; omega) b4
    simp only [sL, W12, List.map_cons, List.map_nil, Int.natCast_add] at f1
    rw [show (l.length : Int) + 1 = 5 by omega] at tl
    simp -implicitDefEqProofs [c_law_names, T.free, T.freeL, T.get, Kd.deep, T.set, T.whole, T.wholeL, T.frz, T.frzL, kidF, cmpT, eqT, binT, putT, mmT, biT, truT, itemsK, itemsI, itemsT, slT, Key.t, t5 b, c0, c1, c2, hF, he, hj', z, z', tl, tf, u3, hq, capS_mk (l := l ++ [113]) (by simp; omega), f1, -s_ret]
    exact out _ _ f2 f3 f4 _ _ _ _ _ _ _ _ _ _ _ _
  · obtain ⟨o4, o12, o13, f1, f2, f3, f4⟩ := fin l p (by omega) (by split <;> omega) hm b3
    simp only [sL, W12, List.map_cons, List.map_nil] at f1
    by_cases zF : F = 3
    · subst zF
      have z' : ¬ l.length = 4 := by omega
      have z2 : ¬ (l.length : Int) = 4 := by omega
      simp -implicitDefEqProofs [c_law_names, T.free, T.freeL, T.get, Kd.deep, T.set, T.whole, T.wholeL, T.frz, T.frzL, kidF, cmpT, eqT, binT, putT, mmT, biT, truT, itemsK, itemsI, itemsT, slT, Key.t, t5 b, c0, c1, c2, hF, he, hj', z', z2, show l.length ≤ 1048576 by omega, tl, tf, f1, -s_ret]
      exact out _ _ f2 f3 f4 _ _ _ _ _ _ _ _ _ _ _ _
    · simp -implicitDefEqProofs [c_law_names, T.free, T.freeL, T.get, Kd.deep, T.set, T.whole, T.wholeL, T.frz, T.frzL, kidF, cmpT, eqT, binT, putT, mmT, biT, truT, itemsK, itemsI, itemsT, slT, Key.t, t5 b, c0, c1, c2, hF, he, hj', zF, show l.length ≤ 1048576 by omega, tl, tf, f1, -s_ret]
      exact out _ _ f2 f3 f4 _ _ _ _ _ _ _ _ _ _ _ _
end
end TI.M
end
section
set_option maxHeartbeats 4000000
/-! TP4: drawn yards. Plain Lean. -/
namespace TI.M
open PySem
/-- _law_yard: 0 _law_box_here 1 _law_many 2 _law_most 3 _law_names_here 4 _law_turn 5 _law_left 6 _law_paths -/
def c_law_yard_b1 (f_law_take : Nat) : C := (.cons (.expr (.mm .append (.var 6) (.cons (.mm .pop1 (.var 5) (.cons (.call f_law_take (.cons (.var 0) (.cons (.bi .len (.cons (.var 5) .nil)) .nil))) .nil)) .nil))) .nil)
def c_law_yard_f1 (f_law_take : Nat) : C := (.forS (.tv 4) (.itR1 (.bi .min2 (.cons (.bi .len (.cons (.var 5) .nil)) (.cons (.call f_law_take (.cons (.var 0) (.cons (.bin .add (.var 2) (.int 1)) .nil))) .nil)))) (c_law_yard_b1 f_law_take))
def c_law_yard (f_law_names f_law_take f_law_pairs : Nat) : C := (.cons (.asg (.tv 3) (.call f_law_names (.cons (.var 0) (.cons (.bin .add (.int 1) (.call f_law_take (.cons (.var 0) (.cons (.var 1) .nil)))) .nil)))) (.cons (.par (.cons (.tv 5) (.cons (.tv 6) .nil)) (.cons (.call f_law_pairs (.cons (.var 3) .nil)) (.cons (.lst .nil) .nil))) (.cons (c_law_yard_f1 f_law_take) (.cons (.ret (.tup (.cons (.bi .tuple (.cons (.var 3) .nil)) (.cons (.bi .tuple (.cons (.var 6) .nil)) .nil)))) .nil))))
abbrev n_law_yard (f_law_names f_law_take f_law_pairs : Nat) : Fn := ⟨3, 7, c_law_yard f_law_names f_law_take f_law_pairs⟩

abbrev yT (ss : List Str) (ps : List (Str × Str)) : T := .nd .tup false [sT ss, .nd .tup false (ps.map pT)]
/-- a yard of names -/
structure Yd (ss : List Str) (ps : List (Str × Str)) (most : Nat) : Prop where
  l1 : 1 ≤ ss.length
  nd : ss.Nodup
  nm : ∀ s ∈ ss, Nm s
  pl : ps.length ≤ most
  pn : ps.Nodup
  pm : ∀ p ∈ ps, p.1 ∈ ss ∧ p.2 ∈ ss ∧ p.1 ≠ p.2
theorem pairsOf_mem {ss : List Str} {p : Str × Str} (h : p ∈ pairsOf ss) : p.1 ∈ ss ∧ p.2 ∈ ss ∧ p.1 ≠ p.2 := by
  unfold pairsOf others at h
  simp only [List.mem_flatMap, List.mem_map, List.mem_filter, decide_eq_true_eq] at h
  obtain ⟨a, ha, b, ⟨hb, hne⟩, rfl⟩ := h
  exact ⟨ha, hb, Ne.symm hne⟩
theorem pairsOf_nd {ss : List Str} (h : ss.Nodup) : (pairsOf ss).Nodup := by
  unfold pairsOf others
  rw [List.Nodup, List.pairwise_flatMap]
  refine ⟨fun a ha => ?_, ?_⟩
  · rw [List.pairwise_map]
    exact (List.Pairwise.filter _ h).imp fun hne e => hne (by simpa using e)
  · refine List.Pairwise.imp ?_ h
    intro a b hne x hx y hy e
    obtain ⟨u, _, rfl⟩ := List.mem_map.mp hx
    obtain ⟨v, _, rfl⟩ := List.mem_map.mp hy
    simp at e
    exact hne e.1
theorem pairsOf_le {ss : List Str} : (pairsOf ss).length ≤ ss.length * ss.length := flat_le ss
/-- a drawn item of any list is taken out -/
theorem popA {α : Type} {xs : List α} {b : Bx} (hn : 0 < xs.length) : ∃ y, ixNat xs.length (tkD b xs.length) = some (tkD b xs.length).toNat ∧ xs[(tkD b xs.length).toNat]? = some y ∧ (y :: xs.eraseIdx (tkD b xs.length).toNat).Perm xs ∧ (xs.eraseIdx (tkD b xs.length).toNat).length + 1 = xs.length := by
  have h0 : 0 ≤ tkD b xs.length := tkD_nn (by omega)
  have h1 : tkD b xs.length < xs.length := tkD_lt (by omega)
  have h2 : (tkD b xs.length).toNat < xs.length := by omega
  refine ⟨_, ixNat_nn h0 h1, List.getElem?_eq_getElem h2, ?_, ?_⟩
  · rw [List.eraseIdx_eq_take_drop_succ]
    have e : xs = xs.take (tkD b xs.length).toNat ++ xs[(tkD b xs.length).toNat] :: xs.drop ((tkD b xs.length).toNat + 1) := by rw [← List.drop_eq_getElem_cons h2, List.take_append_drop]
    exact List.perm_middle.symm.trans (List.Perm.of_eq e.symm)
  · rw [List.length_eraseIdx_of_lt h2]; omega
section
variable {P : Prg} {fuel k ft fn fp fy : Nat} {s1 s2 s3 : Option T}
theorem yard_f1 (hP : P.fns[ft]? = some n_law_take) {b : Bx} {most : Nat} {ls : List (Str × Str)} (hm : most ≤ 1000) (hl : ls.length ≤ 100000) :
    Nx ((ev (c_law_yard_f1 ft)).s (KK P fuel (k + 1) [] [0]) [some (bT b), s1, some (.int most), s3, none, some (.nd .lst true (ls.map pT)), some (.nd .lst true [])]) fun e => ∃ (b' : Bx) (o : Option T) (zs ys : List (Str × Str)), e = [some (bT b'), s1, some (.int most), s3, o, some (.nd .lst true (zs.map pT)), some (.nd .lst true (ys.map pT))] ∧ (ys ++ zs).Perm ls ∧ ys.length ≤ most := by
  refine nx_cps fun R hR => ?_
  have d0 : 0 ≤ tkD b ((most : Int) + 1) := tkD_nn (by omega)
  have d1 : tkD b ((most : Int) + 1) < (most : Int) + 1 := tkD_lt (by omega)
  have tt := f_take (P := P) (fuel := fuel) (k := k) hP (b := b) (m := (most : Int) + 1) (by omega) (by omega)
  generalize tkD b ((most : Int) + 1) = D at *
  generalize tkB b ((most : Int) + 1) = b1 at *
  obtain ⟨D, rfl⟩ := Int.eq_ofNat_of_zero_le d0
  obtain ⟨n, hn, hn2, hn3⟩ : ∃ n : Nat, (if (D : Int) < (ls.length : Int) then (D : Int) else ls.length) = n ∧ n ≤ ls.length ∧ n ≤ most := by
    by_cases h : (D : Int) < (ls.length : Int)
    · exact ⟨D, by rw [if_pos h], by omega, by omega⟩
    · exact ⟨ls.length, by rw [if_neg h], by omega, by omega⟩
  have h1 : (n : Int) < 1000000 := by omega
  have h2 : (-1000000 : Int) < n := by omega
  simp -implicitDefEqProofs [c_law_yard_f1, T.free, T.freeL, T.get, Kd.deep, T.set, T.whole, T.wholeL, T.frz, T.frzL, kidF, cmpT, eqT, binT, putT, mmT, biT, truT, itemsK, itemsI, itemsT, slT, Key.t, tt, hn, -Int.ofNat_lt, h1, h2]
  refine nx_mono (forL_inv (fun r e => ∃ (b' : Bx) (o : Option T) (zs ys : List (Str × Str)), e = [some (bT b'), s1, some (.int most), s3, o, some (.nd .lst true (zs.map pT)), some (.nd .lst true (ys.map pT))] ∧ (ys ++ zs).Perm ls ∧ ys.length + r.length = n) ?_ _ _ ⟨b1, none, ls, [], rfl, by simp, by simp [rangeT]⟩) ?_
  · rintro x r _ ⟨b', o, zs, ys, rfl, hp, hr⟩ R hR
    have hlen := hp.length_eq
    simp at hlen hr
    have hz : 0 < zs.length := by omega
    obtain ⟨y, p1, p2, p3, p4⟩ := popA (b := b') hz
    have h5 : (zs.length : Int) < 1073741824 := by omega
    have h6 : ys.length < 1048576 := by omega
    simp -implicitDefEqProofs [c_law_yard_b1, T.free, T.freeL, T.get, Kd.deep, T.set, T.whole, T.wholeL, T.frz, T.frzL, kidF, cmpT, eqT, binT, putT, mmT, biT, truT, itemsK, itemsI, itemsT, slT, Key.t, f_take hP (b := b') (m := zs.length) (by omega) h5, p1, p2, h6]
    refine nx_ok (hR _ ⟨tkB b' zs.length, some x, zs.eraseIdx (tkD b' zs.length).toNat, ys ++ [y], by simp [erase_map], ?_, by simp; omega⟩)
    refine List.Perm.trans ?_ hp
    rw [List.append_assoc]
    exact List.Perm.append_left ys p3
  · rintro e ⟨b', o, zs, ys, rfl, hp, hr⟩
    exact hR _ ⟨b', o, zs, ys, rfl, hp, by simp at hr; omega⟩
theorem f_yard (hT : P.fns[ft]? = some n_law_take) (hN : P.fns[fn]? = some (n_law_names ft)) (hPr : P.fns[fp]? = some n_law_pairs) (hY : P.fns[fy]? = some (n_law_yard fn ft fp)) {b : Bx} {many most : Nat} (h1 : 1 ≤ many) (h2 : many ≤ 12) (h3 : most ≤ 1000) :
    Is (callT P fuel (k + 3) fy [bT b, .int many, .int most]) fun t fin => ∃ (ss : List Str) (ps : List (Str × Str)) (b' : Bx), t = yT ss ps ∧ fin = [bT b', .int many, .int most] ∧ ss.length ≤ many ∧ Yd ss ps most := by
  refine is_cps fun Q hQ => ?_
  rw [callT_s hY rfl]
  have d0 : 0 ≤ tkD b many := tkD_nn (by omega)
  have d1 : tkD b many < many := tkD_lt (by omega)
  have tt := f_take (P := P) (fuel := fuel) (k := k + 1) hT (b := b) (m := (many : Int)) (by omega) (by omega)
  generalize tkD b many = D at *
  generalize tkB b many = b1 at *
  obtain ⟨D, rfl⟩ := Int.eq_ofNat_of_zero_le d0
  obtain ⟨t, fin, hn, ss, b2, rfl, rfl, hl, q1, q2⟩ := f_names (P := P) (fuel := fuel) (k := k) hT hN (b := b1) (m := 1 + D) (by omega) (by omega)
  rw [show ((1 + D : Nat) : Int) = 1 + (D : Int) by omega] at hn
  have hs : ss.length ≤ 100 := by omega
  have pp := f_pairs (P := P) (fuel := fuel) (k := k + 1) hPr hs
  have hle := pairsOf_le (ss := ss)
  have hmul : ss.length * ss.length ≤ 100 * 100 := Nat.mul_le_mul hs hs
  obtain ⟨e, he, b3, o, zs, ys, rfl, hp, hy⟩ := yard_f1 (P := P) (fuel := fuel) (k := k + 1) (s1 := some (.int many)) (s3 := some (sL true ss)) (b := b2) (most := most) hT (ls := pairsOf ss) h3 (by omega)
  have hs2 : ss.length ≤ 1048576 := by omega
  have hy2 : ys.length ≤ 1048576 := by omega
  simp -implicitDefEqProofs [c_law_yard, T.free, T.freeL, T.get, Kd.deep, T.set, T.whole, T.wholeL, T.frz, T.frzL, kidF, cmpT, eqT, binT, putT, mmT, biT, truT, itemsK, itemsI, itemsT, slT, Key.t, tt, hn, pp, he, capT, hs2, hy2]
  refine is_ok (hQ _ _ ⟨ss, ys, b3, rfl, rfl, by omega, ⟨by omega, q1, q2, hy, ?_, ?_⟩⟩)
  · exact (List.nodup_append.mp (hp.nodup_iff.mpr (pairsOf_nd q1))).1
  · exact fun p hm => pairsOf_mem (hp.mem_iff.mp (List.mem_append_left _ hm))
end
end TI.M
end
section
set_option maxHeartbeats 400000
/-! TQ0: words, lines; data compared. Plain Lean. -/
namespace TI.M
open PySem
abbrev L (s : Str) : List Nat := s.cps.toList
theorem mk_L (s : Str) : mk (L s) = s := rfl
theorem L_inj {s t : Str} (h : L s = L t) : s = t := by rw [← mk_L s, ← mk_L t, h]
theorem L_len (s : Str) : s.length = (L s).length := rfl
def joinL (c : Nat) : List (List Nat) → List Nat
  | [] => []
  | [x] => x
  | x :: r => x ++ [c] ++ joinL c r
@[simp] theorem app_l {l : List Nat} {s : Str} : mk l ++ s = mk (l ++ s.cps.toList) := by
  conv => lhs; rw [← mk_L s]
  rw [mk_app]
@[simp] theorem app_r {l : List Nat} {s : Str} : s ++ mk l = mk (s.cps.toList ++ l) := by
  conv => lhs; rw [← mk_L s]
  rw [mk_app]
theorem app_s {s t : Str} : s ++ t = mk (L s ++ L t) := by
  conv => lhs; rw [← mk_L s, ← mk_L t]
  rw [mk_app]
theorem joinS_mk {c : Nat} : ∀ (ws : List Str), joinS (mk [c]) ws = mk (joinL c (ws.map L))
  | [] => rfl
  | [x] => (mk_L x).symm
  | x :: y :: r => by
    show x ++ mk [c] ++ joinS (mk [c]) (y :: r) = _
    rw [joinS_mk (y :: r)]
    simp [joinL]
theorem joinL_len {c : Nat} : ∀ (ws : List (List Nat)), (joinL c ws).length ≤ (ws.map fun w => w.length + 1).sum
  | [] => by simp [joinL]
  | [x] => by simp [joinL]
  | x :: y :: r => by
    have := joinL_len (c := c) (y :: r)
    simp only [joinL, List.length_append, List.length_singleton, List.map_cons, List.sum_cons] at this ⊢
    omega
theorem sum_le {α : Type} {f : α → Nat} {B : Nat} : ∀ {ws : List α}, (∀ w ∈ ws, f w ≤ B) → (ws.map f).sum ≤ ws.length * B
  | [], _ => by simp
  | a :: r, h => by
    have h1 := h a List.mem_cons_self
    have h2 := sum_le (ws := r) fun w hw => h w (List.mem_cons_of_mem _ hw)
    rw [List.map_cons, List.sum_cons, List.length_cons, Nat.succ_mul]
    omega
theorem split_none {c : Nat} : ∀ {w : List Nat}, c ∉ w → splitL c w = [w]
  | [], _ => rfl
  | a :: r, h => by
    have h1 : ¬ a = c := fun e => h (by rw [e]; exact List.mem_cons_self)
    have h2 : c ∉ r := fun e => h (List.mem_cons_of_mem _ e)
    show (if a = c then [] :: splitL c r else match splitL c r with | [] => [[a]] | w :: ws => (a :: w) :: ws) = _
    rw [if_neg h1, split_none h2]
theorem split_app {c : Nat} : ∀ {w l : List Nat}, c ∉ w → splitL c (w ++ [c] ++ l) = w :: splitL c l
  | [], l, _ => by
    show (if c = c then [] :: splitL c l else _) = _
    rw [if_pos rfl]
  | a :: r, l, h => by
    have h1 : ¬ a = c := fun e => h (by rw [e]; exact List.mem_cons_self)
    have h2 : c ∉ r := fun e => h (List.mem_cons_of_mem _ e)
    show (if a = c then [] :: splitL c (r ++ [c] ++ l) else match splitL c (r ++ [c] ++ l) with | [] => [[a]] | w :: ws => (a :: w) :: ws) = _
    rw [if_neg h1, split_app h2]
theorem split_join {c : Nat} : ∀ {ws : List (List Nat)}, ws ≠ [] → (∀ w ∈ ws, c ∉ w) → splitL c (joinL c ws) = ws
  | [], h, _ => absurd rfl h
  | [x], _, h => split_none (h x List.mem_cons_self)
  | x :: y :: r, _, h => by
    show splitL c (x ++ [c] ++ joinL c (y :: r)) = _
    rw [split_app (h x List.mem_cons_self), split_join (List.cons_ne_nil _ _) fun w hw => h w (List.mem_cons_of_mem _ hw)]
theorem split_len {c : Nat} : ∀ {l : List Nat}, (splitL c l).length ≤ l.length + 1
  | [] => by simp [splitL]
  | a :: r => by
    have ih := split_len (c := c) (l := r)
    show (if a = c then [] :: splitL c r else match splitL c r with | [] => [[a]] | w :: ws => (a :: w) :: ws).length ≤ _
    split
    · simp; omega
    · split
      · simp
      · rename_i e; rw [e] at ih; simp at ih ⊢; omega
theorem mtT_split {c : Nat} {l : List Nat} (h : l.length < 1048576) : mtT .split (.str (mk l)) [.str (mk [c])] = some (sL true ((splitL c l).map mk)) := by
  show (match splitS (mk [c]) (mk l) with | some ws => if (mk l).length ≤ lim then capL (ws.map T.str) else none | none => none) = _
  have e : splitS (mk [c]) (mk l) = some ((splitL c l).map mk) := rfl
  rw [e]
  dsimp only
  have h1 : (mk l).length ≤ lim := by rw [mk_len]; exact Nat.le_of_lt h
  rw [if_pos h1]
  unfold capL
  have h2 : (((splitL c l).map mk).map T.str).length ≤ lim ∧ T.freeL (((splitL c l).map mk).map T.str) = true := ⟨by rw [List.length_map, List.length_map]; exact Nat.le_trans split_len h, freeL_str⟩
  rw [if_pos h2]
/-! ### data compared -/
theorem memT_str {x : Str} : ∀ {ss : List Str}, memT (.str x) (ss.map .str) = some (decide (x ∈ ss))
  | [] => by simp [memT]
  | y :: r => by
    show (match T.eqv (.str y) (.str x), memT (.str x) (r.map .str) with | some b, some c => some (b || c) | _, _ => none) = _
    rw [memT_str (ss := r), eqv_str]
    simp [eq_comm (a := x)]
@[simp] theorem eqv_pT {p q : Str × Str} : T.eqv (pT p) (pT q) = some (decide (p = q)) := by
  obtain ⟨a, b⟩ := p
  obtain ⟨c, d⟩ := q
  show eqvN 30 _ _ = _
  simp [pT, eqvN, eqvL]
theorem memT_pT {x : Str × Str} : ∀ {ps : List (Str × Str)}, memT (pT x) (ps.map pT) = some (decide (x ∈ ps))
  | [] => by simp [memT]
  | y :: r => by
    show (match T.eqv (pT y) (pT x), memT (pT x) (r.map pT) with | some b, some c => some (b || c) | _, _ => none) = _
    rw [memT_pT (ps := r), eqv_pT]
    simp [eq_comm (a := x)]
@[simp] theorem inT_strT {x : Str} {ss : List Str} : inT (.str x) (.nd .tup false (ss.map .str)) = some (decide (x ∈ ss)) := by
  show (if (T.free (.str x) && T.freeL (ss.map .str)) = true then memT (.str x) (ss.map .str) else none) = _
  rw [memT_str, freeL_str]; rfl
@[simp] theorem inT_strL {x : Str} {f : Bool} {ss : List Str} : inT (.str x) (.nd .lst f (ss.map .str)) = some (decide (x ∈ ss)) := by
  show (if (T.free (.str x) && T.freeL (ss.map .str)) = true then memT (.str x) (ss.map .str) else none) = _
  rw [memT_str, freeL_str]; rfl
@[simp] theorem inT_pT {a b : Str} {f : Bool} {ps : List (Str × Str)} : inT (.nd .tup false [.str a, .str b]) (.nd .lst f (ps.map pT)) = some (decide ((a, b) ∈ ps)) := by
  show (if (T.free (pT (a, b)) && T.freeL (ps.map pT)) = true then memT (pT (a, b)) (ps.map pT) else none) = _
  rw [memT_pT, freeL_pT]; rfl
@[simp] theorem inT_pTT {a b : Str} {ps : List (Str × Str)} : inT (.nd .tup false [.str a, .str b]) (.nd .tup false (ps.map pT)) = some (decide ((a, b) ∈ ps)) := by
  show (if (T.free (pT (a, b)) && T.freeL (ps.map pT)) = true then memT (pT (a, b)) (ps.map pT) else none) = _
  rw [memT_pT, freeL_pT]; rfl
/-- one sign in a text -/
theorem inT_sign {c : Nat} {l : List Nat} : inT (.str (mk [c])) (.str (mk l)) = some (decide (c ∈ l)) := rfl
theorem eqvL_map {α : Type} [DecidableEq α] {f : α → T} {n : Nat} (h : ∀ a b, eqvN n (f a) (f b) = some (decide (a = b))) : ∀ (xs ys : List α), eqvL (eqvN n) (xs.map f) (ys.map f) = some (decide (xs = ys))
  | [], [] => rfl
  | [], _ :: _ => rfl
  | _ :: _, [] => rfl
  | a :: r, b :: s => by
    show (match eqvN n (f a) (f b), eqvL (eqvN n) (r.map f) (s.map f) with | some x, some y => some (x && y) | _, _ => none) = _
    rw [h, eqvL_map h r s]
    simp
theorem eqvN_sT {n : Nat} {xs ys : List Str} : eqvN (n + 1) (sT xs) (sT ys) = some (decide (xs = ys)) := by
  show eqvL (eqvN n) (xs.map T.str) (ys.map T.str) = _
  exact eqvL_map (fun a b => by cases n <;> rfl) xs ys
theorem eqvN_pT {n : Nat} {p q : Str × Str} : eqvN (n + 1) (pT p) (pT q) = some (decide (p = q)) := by
  obtain ⟨a, b⟩ := p
  obtain ⟨c, d⟩ := q
  cases n <;> simp [pT, eqvN, eqvL]
theorem eqv_yT {a c : List Str} {b d : List (Str × Str)} : T.eqv (yT a b) (yT c d) = some (decide (a = c ∧ b = d)) := by
  show eqvN (28 + 2) (yT a b) (yT c d) = _
  show eqvL (eqvN 29) [sT a, .nd .tup false (b.map pT)] [sT c, .nd .tup false (d.map pT)] = _
  have h1 : eqvN 29 (sT a) (sT c) = some (decide (a = c)) := eqvN_sT
  have h2 : eqvN 29 (.nd .tup false (b.map pT)) (.nd .tup false (d.map pT)) = some (decide (b = d)) := eqvL_map (n := 28) (fun p q => eqvN_pT) b d
  simp [eqvL, h1, h2]
theorem dd_iff : ∀ {ws : List Str}, (ws.eraseDups.length = ws.length) ↔ ws.Nodup := by
  have le : ∀ (n : Nat) (xs : List Str), xs.length ≤ n → xs.eraseDups.length ≤ xs.length := by
    intro n
    induction n with
    | zero => intro xs h; cases xs with
      | nil => exact Nat.le_refl _
      | cons _ _ => simp at h
    | succ n ih =>
      intro xs h
      cases xs with
      | nil => exact Nat.le_refl _
      | cons x xs =>
        rw [List.eraseDups_cons]
        have h1 : (xs.filter fun b => !b == x).length ≤ xs.length := List.length_filter_le ..
        have h2 := ih (xs.filter fun b => !b == x) (by simp at h; omega)
        simp only [List.length_cons]
        omega
  intro ws
  induction ws with
  | nil => simp
  | cons x xs ih =>
    rw [List.eraseDups_cons, List.nodup_cons]
    simp only [List.length_cons, Nat.add_right_cancel_iff]
    have h1 : (xs.filter fun b => !b == x).length ≤ xs.length := List.length_filter_le ..
    have h2 := le _ (xs.filter fun b => !b == x) (Nat.le_refl _)
    constructor
    · intro h
      have h3 : (xs.filter fun b => !b == x).length = xs.length := by omega
      have h4 : ∀ b ∈ xs, (!b == x) = true := by
        rw [List.length_filter_eq_length_iff] at h3
        exact h3
      refine ⟨fun hm => by have := h4 x hm; simp at this, ih.mp ?_⟩
      have h5 : xs.filter (fun b => !b == x) = xs := List.filter_eq_self.mpr h4
      rw [h5] at h
      exact h
    · rintro ⟨hm, hn⟩
      have h5 : xs.filter (fun b => !b == x) = xs := List.filter_eq_self.mpr fun b hb => by
        have : b ≠ x := fun e => hm (e ▸ hb)
        simpa using this
      rw [h5]
      exact ih.mpr hn
end TI.M
end
section
set_option maxHeartbeats 4000000
/-! TQ1: the program's texts of yards. Plain Lean. -/
namespace TI.M
open PySem
/-- is_name: 0 text 1 letter -/
def c_is_name_e1 : C := (.cmp .inn (.var 1) (.glb (Str.ofString "LETTERS") (.inr (Str.ofString "abcdefghijklmnopqrstuvwxyz"))))
def c_is_name_l1 : C := (.lc [1] (.tv 1) (.var 0) .nil (c_is_name_e1))
def c_is_name : C := (.cons (.ret (.andv (.chain .le .le (.int 1) (.bi .len (.cons (.var 0) .nil)) (.glb (Str.ofString "NAME_LENGTH") (.inl 6))) (.bi .all (.cons (c_is_name_l1) .nil)))) .nil)
abbrev n_is_name : Fn := ⟨1, 2, c_is_name⟩
/-- are_names: 0 words 1 word -/
def c_are_names_e1 (f_is_name : Nat) : C := (.call f_is_name (.cons (.var 1) .nil))
def c_are_names_l1 (f_is_name : Nat) : C := (.lc [1] (.tv 1) (.var 0) .nil (c_are_names_e1 f_is_name))
def c_are_names (f_is_name : Nat) : C := (.cons (.ret (.andv (.bi .all (.cons (c_are_names_l1 f_is_name) .nil)) (.cmp .eq (.bi .setlen (.cons (.var 0) .nil)) (.bi .len (.cons (.var 0) .nil))))) .nil)
abbrev n_are_names (f_is_name : Nat) : Fn := ⟨1, 2, c_are_names f_is_name⟩
/-- show_yard: 0 yard 1 lines 2 places 3 paths 4 tail 5 head -/
def c_show_yard_e1 : C := (.fstr (.cons (.str (Str.ofString "path ")) (.cons (.var 4) (.cons (.str (Str.ofString " ")) (.cons (.var 5) .nil)))))
def c_show_yard_l1 : C := (.lc [4, 5] (.tt (.cons (.tv 4) (.cons (.tv 5) .nil))) (.var 3) .nil (c_show_yard_e1))
def c_show_yard : C := (.cons (.asg (.tt (.cons (.tv 2) (.cons (.tv 3) .nil))) (.var 0)) (.cons (.asg (.tv 1) (.lst (.cons (.mt .join (.str (Str.ofString " ")) (.cons (.bin .add (.tup (.cons (.str (Str.ofString "places")) .nil)) (.var 2)) .nil)) .nil))) (.cons (.expr (.mm .extend (.var 1) (.cons (c_show_yard_l1) .nil))) (.cons (.ret (.mt .join (.str (Str.ofString "\n")) (.cons (.var 1) .nil))) .nil))))
abbrev n_show_yard : Fn := ⟨1, 6, c_show_yard⟩
/-- read_places: 0 line 1 words -/
def c_read_places (f_are_names : Nat) : C := (.cons (.asg (.tv 1) (.mt .split (.var 0) (.cons (.str (Str.ofString " ")) .nil))) (.cons (.ifS (.orv (.cmp .ne (.ix (.var 1) (.int 0)) (.str (Str.ofString "places"))) (.orv (.notv (.chain .le .le (.int 1) (.bin .sub (.bi .len (.cons (.var 1) .nil)) (.int 1)) (.glb (Str.ofString "PLACES") (.inl 8)))) (.notv (.call f_are_names (.cons (.sl (.var 1) (.cons (.int 1) .nil) .nil) .nil))))) (.cons (.ret .non) .nil) .nil) (.cons (.ret (.bi .tuple (.cons (.sl (.var 1) (.cons (.int 1) .nil) .nil) .nil))) .nil)))
abbrev n_read_places (f_are_names : Nat) : Fn := ⟨1, 2, c_read_places f_are_names⟩
/-- read_path: 0 places 1 paths 2 line 3 words 4 word 5 tail 6 head -/
def c_read_path : C := (.cons (.asg (.tv 3) (.mt .split (.var 2) (.cons (.str (Str.ofString " ")) .nil))) (.cons (.ifS (.orv (.cmp .ne (.ix (.var 3) (.int 0)) (.str (Str.ofString "path"))) (.orv (.cmp .ne (.bi .len (.cons (.var 3) .nil)) (.int 3)) (.cmp .eq (.bi .len (.cons (.var 1) .nil)) (.glb (Str.ofString "PATHS") (.inl 24))))) (.cons (.ret .non) .nil) .nil) (.cons (.asg (.tt (.cons (.tv 4) (.cons (.tv 5) (.cons (.tv 6) .nil)))) (.var 3)) (.cons (.ifS (.orv (.cmp .nin (.var 5) (.var 0)) (.orv (.cmp .nin (.var 6) (.var 0)) (.orv (.cmp .eq (.var 5) (.var 6)) (.cmp .inn (.tup (.cons (.var 5) (.cons (.var 6) .nil))) (.var 1))))) (.cons (.ret .non) .nil) .nil) (.cons (.ret (.tup (.cons (.var 5) (.cons (.var 6) .nil)))) .nil)))))
abbrev n_read_path : Fn := ⟨3, 7, c_read_path⟩
/-- read_yard: 0 text 1 places 2 lines 3 paths 4 index 5 line 6 path -/
def c_read_yard_b1 (f_read_path x_NoText : Nat) : C := (.cons (.asg (.tv 6) (.call f_read_path (.cons (.var 1) (.cons (.var 3) (.cons (.var 5) .nil))))) (.cons (.ifS (.cmp .isN (.var 6) .non) (.cons (.rai x_NoText (.cons (.bin .add (.var 4) (.int 1)) .nil)) .nil) .nil) (.cons (.expr (.mm .append (.var 3) (.cons (.var 6) .nil))) .nil)))
def c_read_yard_f1 (f_read_path x_NoText : Nat) : C := (.forS (.tt (.cons (.tv 4) (.cons (.tv 5) .nil))) (.itE (.sl (.var 2) (.cons (.int 1) .nil) .nil)) (c_read_yard_b1 f_read_path x_NoText))
def c_read_yard (f_read_places x_NoText f_read_path : Nat) : C := (.cons (.par (.cons (.tv 2) (.cons (.tv 3) .nil)) (.cons (.mt .split (.var 0) (.cons (.str (Str.ofString "\n")) .nil)) (.cons (.lst .nil) .nil))) (.cons (.asg (.tv 1) (.call f_read_places (.cons (.ix (.var 2) (.int 0)) .nil))) (.cons (.ifS (.cmp .isN (.var 1) .non) (.cons (.rai x_NoText (.cons (.int 0) .nil)) .nil) .nil) (.cons (c_read_yard_f1 f_read_path x_NoText) (.cons (.ret (.tup (.cons (.var 1) (.cons (.bi .tuple (.cons (.var 3) .nil)) .nil)))) .nil)))))
abbrev n_read_yard (f_read_places x_NoText f_read_path : Nat) : Fn := ⟨1, 7, c_read_yard f_read_places x_NoText f_read_path⟩

theorem nm_iff {s : Str} : Nm s ↔ (1 ≤ s.length ∧ s.length ≤ 6) ∧ ∀ c ∈ L s, (decide (97 ≤ c) && decide (c < 123)) = true := by
  unfold Nm
  rw [L_len]
  constructor
  · rintro ⟨h1, h2, h3⟩
    exact ⟨⟨h1, h2⟩, fun c hc => by have := h3 c hc; simp; omega⟩
  · rintro ⟨⟨h1, h2⟩, h3⟩
    exact ⟨h1, h2, fun c hc => by have := h3 c hc; simp at this; omega⟩
section
variable {P : Prg} {fuel k f0 f1 xe : Nat}
theorem is_name_l1 {s : Str} (hl : s.length ≤ 1048576) :
    (ev c_is_name_l1).r (KK P fuel k [] []) [some (.str s), none] = .ok (.tmp (.nd .lst true ((L s).map fun c => T.bl (decide (97 ≤ c) && decide (c < 123))))) [some (.str s), none] := by
  simp -implicitDefEqProofs [c_is_name_l1, T.free, T.freeL, T.get, Kd.deep, T.set, T.whole, T.wholeL, T.frz, T.frzL, kidF, cmpT, eqT, binT, putT, mmT, biT, truT, itemsK, itemsI, itemsT, slT, Key.t, hl]
  have hl2 : (L s).length ≤ 1048576 := by rw [← L_len]; exact hl
  have hfr : T.freeL (s.cps.toList.map fun c => T.str ⟨#[c]⟩) = true := by
    rw [freeL_all]; intro x hx; obtain ⟨c, _, rfl⟩ := List.mem_map.mp hx; rfl
  rw [hfr]
  simp -implicitDefEqProofs []
  rw [lcG_map (fun _ => true) (fun x => match x with | .str c => T.bl (decide (97 ≤ (L c).headD 0) && decide ((L c).headD 0 < 123)) | _ => .non) (by simpa using hl2) (by simp) (by simp)]
  · rw [List.filter_eq_self.mpr (fun _ _ => rfl), List.map_map]
    rfl
  · intro x hx acc ha R h1 h2
    obtain ⟨c, hc, rfl⟩ := List.mem_map.mp hx
    simp -implicitDefEqProofs [c_is_name_e1, T.free, T.freeL, T.get, Kd.deep, T.set, T.whole, T.wholeL, T.frz, T.frzL, kidF, cmpT, eqT, binT, putT, mmT, biT, truT, itemsK, itemsI, itemsT, slT, Key.t, ha, abc_eq, mk_one, inT_sign]
    exact ok_ok (h1 rfl _ rfl)
theorem f_is_name (hP : P.fns[f0]? = some n_is_name) {s : Str} (hl : s.length ≤ 1048576) : callT P fuel (k + 1) f0 [.str s] = .ok (.bl (decide (Nm s))) [.str s] := by
  rw [callT_s hP rfl]
  have e0 : blsL ((L s).map fun c => T.bl (decide (97 ≤ c) && decide (c < 123))) = some ((L s).map fun c => (decide (97 ≤ c) && decide (c < 123))) := by
    rw [← blsL_map, List.map_map]; rfl
  have e1 := is_name_l1 (P := P) (fuel := fuel) (k := k) hl
  by_cases h1 : 1 ≤ s.length
  · have h1' : (1 : Int) ≤ s.length := by omega
    by_cases h2 : s.length ≤ 6
    · have h2' : (s.length : Int) ≤ 6 := by omega
      simp -implicitDefEqProofs [c_is_name, T.free, T.freeL, T.get, Kd.deep, T.set, T.whole, T.wholeL, T.frz, T.frzL, kidF, cmpT, eqT, binT, putT, mmT, biT, truT, itemsK, itemsI, itemsT, slT, Key.t, hl, h1', h2', e1, e0]
      rw [Bool.eq_iff_iff, decide_eq_true_eq, nm_iff]
      simp only [h1, h2, true_and, and_self]
      rw [← Array.all_toList, List.all_eq_true]
    · have h2' : ¬ (s.length : Int) ≤ 6 := by omega
      simp -implicitDefEqProofs [c_is_name, T.free, T.freeL, T.get, Kd.deep, T.set, T.whole, T.wholeL, T.frz, T.frzL, kidF, cmpT, eqT, binT, putT, mmT, biT, truT, itemsK, itemsI, itemsT, slT, Key.t, hl, h1', h2']
      intro h; exact h2 (nm_iff.mp h).1.2
  · have h1' : ¬ (1 : Int) ≤ s.length := by omega
    simp -implicitDefEqProofs [c_is_name, T.free, T.freeL, T.get, Kd.deep, T.set, T.whole, T.wholeL, T.frz, T.frzL, kidF, cmpT, eqT, binT, putT, mmT, biT, truT, itemsK, itemsI, itemsT, slT, Key.t, hl, h1']
    intro h; exact h1 (nm_iff.mp h).1.1
theorem are_names_l1 (hP : P.fns[f0]? = some n_is_name) {ws : List Str} {f : Bool} {pn : List Nat} (hp : 1 ∉ pn) (hw : ∀ s ∈ ws, s.length ≤ 1048576) (hl : ws.length ≤ 1048576) :
    (ev (c_are_names_l1 f0)).r (KK P fuel (k + 1) [] pn) [some (sL true ws), none] = .ok (.tmp (.nd .lst true ((ws.map fun s => decide (Nm s)).map .bl))) [some (sL true ws), none] := by
  simp -implicitDefEqProofs [c_are_names_l1, T.free, T.freeL, T.get, Kd.deep, T.set, T.whole, T.wholeL, T.frz, T.frzL, kidF, cmpT, eqT, binT, putT, mmT, biT, truT, itemsK, itemsI, itemsT, slT, Key.t]
  rw [lcG_map (fun _ => true) (fun x => match x with | .str c => T.bl (decide (Nm c)) | _ => .non) (by simpa using hl) (by simp [hp]) (by simp)]
  · rw [List.filter_eq_self.mpr (fun _ _ => rfl), List.map_map]
    rfl
  · intro x hx acc ha R h1 h2
    obtain ⟨c, hc, rfl⟩ := List.mem_map.mp hx
    simp -implicitDefEqProofs [c_are_names_e1, T.free, T.freeL, T.get, Kd.deep, T.set, T.whole, T.wholeL, T.frz, T.frzL, kidF, cmpT, eqT, binT, putT, mmT, biT, truT, itemsK, itemsI, itemsT, slT, Key.t, ha, f_is_name (P := P) (fuel := fuel) (k := k) hP (hw c hc)]
    exact ok_ok (h1 rfl _ rfl)
theorem f_are_names (h0 : P.fns[f0]? = some n_is_name) (h1 : P.fns[f1]? = some (n_are_names f0)) {ws : List Str} (hw : ∀ s ∈ ws, s.length ≤ 1048576) (hl : ws.length ≤ 1000) :
    callT P fuel (k + 2) f1 [sL true ws] = .ok (.bl (decide ((∀ s ∈ ws, Nm s) ∧ ws.Nodup))) [sL true ws] := by
  rw [callT_s h1 rfl]
  have e1 := are_names_l1 (P := P) (fuel := fuel) (k := k) (f := true) (pn := [0]) h0 (by simp) hw (by omega)
  have h3 : (ws.map fun s => decide (Nm s)).all id = decide (∀ s ∈ ws, Nm s) := by
    rw [Bool.eq_iff_iff, decide_eq_true_eq, List.all_map, List.all_eq_true]
    simp
  generalize ws.map (fun s => decide (Nm s)) = bs at *
  have h4 : ((ws.eraseDups.length : Int) = (ws.length : Int)) ↔ ws.Nodup := by rw [← dd_iff]; omega
  by_cases h2 : ∀ s ∈ ws, Nm s
  · rw [decide_eq_true h2] at h3
    by_cases h5 : ws.Nodup
    · have h6 := h4.mpr h5
      simp -implicitDefEqProofs [c_are_names, T.free, T.freeL, T.get, Kd.deep, T.set, T.whole, T.wholeL, T.frz, T.frzL, kidF, cmpT, eqT, binT, putT, mmT, biT, truT, itemsK, itemsI, itemsT, slT, Key.t, e1, hl, h3, h6, h5]
      exact h2
    · have h6 := fun z => h5 (h4.mp z)
      simp -implicitDefEqProofs [c_are_names, T.free, T.freeL, T.get, Kd.deep, T.set, T.whole, T.wholeL, T.frz, T.frzL, kidF, cmpT, eqT, binT, putT, mmT, biT, truT, itemsK, itemsI, itemsT, slT, Key.t, e1, hl, h3, h5]
      exact h6
  · rw [decide_eq_false h2] at h3
    simp -implicitDefEqProofs [c_are_names, T.free, T.freeL, T.get, Kd.deep, T.set, T.whole, T.wholeL, T.frz, T.frzL, kidF, cmpT, eqT, binT, putT, mmT, biT, truT, itemsK, itemsI, itemsT, slT, Key.t, e1, hl, h3]
    intro z
    exact absurd z h2
/-! ### texts -/
abbrev wPlaces : List Nat := [112, 108, 97, 99, 101, 115]
abbrev wPath : List Nat := [112, 97, 116, 104]
def lineP (ss : List Str) : List Nat := joinL 32 (wPlaces :: ss.map L)
def lineQ (p : Str × Str) : List Nat := joinL 32 [wPath, L p.1, L p.2]
def linesY (ss : List Str) (ps : List (Str × Str)) : List (List Nat) := lineP ss :: ps.map lineQ
def textY (ss : List Str) (ps : List (Str × Str)) : List Nat := joinL 10 (linesY ss ps)
theorem nm_no {s : Str} {c : Nat} (h : Nm s) (hc : c < 97) : c ∉ L s := fun hm => by have := h.2.2 c hm; omega
theorem joinL_no {c d : Nat} (hcd : c ≠ d) : ∀ {ws : List (List Nat)}, (∀ w ∈ ws, d ∉ w) → d ∉ joinL c ws
  | [], _ => by simp [joinL]
  | [x], h => h x List.mem_cons_self
  | x :: y :: r, h => by
    have ih := joinL_no hcd (ws := y :: r) fun w hw => h w (List.mem_cons_of_mem _ hw)
    have h1 := h x List.mem_cons_self
    simp only [joinL, List.mem_append, List.mem_singleton, not_or]
    exact ⟨⟨h1, fun e => hcd e.symm⟩, ih⟩
/-- what the texts want of a yard -/
structure Yt (ss : List Str) (ps : List (Str × Str)) : Prop where
  nm : ∀ s ∈ ss, Nm s
  sl : ss.length ≤ 100
  pl : ps.length ≤ 100
  pm : ∀ p ∈ ps, Nm p.1 ∧ Nm p.2
theorem Yd.yt {ss : List Str} {ps : List (Str × Str)} {m : Nat} (h : Yd ss ps m) (hs : ss.length ≤ 100) (hm : m ≤ 100) : Yt ss ps :=
  ⟨h.nm, hs, Nat.le_trans h.pl hm, fun p hp => ⟨h.nm _ (h.pm p hp).1, h.nm _ (h.pm p hp).2.1⟩⟩
theorem lineP_len {ss : List Str} {ps : List (Str × Str)} (h : Yt ss ps) : (lineP ss).length ≤ 707 := by
  refine Nat.le_trans (joinL_len _) ?_
  have h1 : ((ss.map L).map fun w => w.length + 1).sum ≤ (ss.map L).length * 7 := sum_le fun w hw => by
    obtain ⟨s, hs, rfl⟩ := List.mem_map.mp hw
    have : (L s).length ≤ 6 := (h.nm s hs).2.1
    omega
  have := h.sl
  rw [List.length_map] at h1
  rw [List.map_cons, List.sum_cons]
  have : wPlaces.length = 6 := rfl
  omega
theorem lineQ_len {p : Str × Str} (h : Nm p.1 ∧ Nm p.2) : (lineQ p).length ≤ 18 := by
  have h1 := h.1.2.1
  have h2 := h.2.2.1
  simp [lineQ, joinL]
  simp at h1 h2
  omega
theorem textY_len {ss : List Str} {ps : List (Str × Str)} (h : Yt ss ps) : (textY ss ps).length ≤ 3000 := by
  refine Nat.le_trans (joinL_len _) ?_
  have h1 : ((ps.map lineQ).map fun w => w.length + 1).sum ≤ (ps.map lineQ).length * 19 := sum_le fun w hw => by
    obtain ⟨s, hs, rfl⟩ := List.mem_map.mp hw
    have := lineQ_len (h.pm s hs)
    omega
  have h2 := lineP_len h
  have := h.pl
  simp only [linesY, List.map_cons, List.sum_cons, List.length_map] at h1 ⊢
  omega
theorem split_lines {ss : List Str} {ps : List (Str × Str)} (h : Yt ss ps) : splitL 10 (textY ss ps) = linesY ss ps := by
  refine split_join (List.cons_ne_nil _ _) fun w hw => ?_
  rcases List.mem_cons.mp hw with rfl | hw
  · refine joinL_no (by omega) fun w hw => ?_
    rcases List.mem_cons.mp hw with rfl | hw
    · simp
    · obtain ⟨s, hs, rfl⟩ := List.mem_map.mp hw
      exact nm_no (h.nm s hs) (by omega)
  · obtain ⟨p, hp, rfl⟩ := List.mem_map.mp hw
    refine joinL_no (by omega) fun w hw => ?_
    simp only [List.mem_cons, List.not_mem_nil, or_false] at hw
    rcases hw with rfl | rfl | rfl
    · simp
    · exact nm_no (h.pm p hp).1 (by omega)
    · exact nm_no (h.pm p hp).2 (by omega)
theorem split_lineP {ss : List Str} (h : ∀ s ∈ ss, Nm s) : splitL 32 (lineP ss) = wPlaces :: ss.map L := by
  refine split_join (List.cons_ne_nil _ _) fun w hw => ?_
  rcases List.mem_cons.mp hw with rfl | hw
  · simp
  · obtain ⟨s, hs, rfl⟩ := List.mem_map.mp hw
    exact nm_no (h s hs) (by omega)
theorem split_lineQ {p : Str × Str} (h : Nm p.1 ∧ Nm p.2) : splitL 32 (lineQ p) = [wPath, L p.1, L p.2] := by
  refine split_join (List.cons_ne_nil _ _) fun w hw => ?_
  simp only [List.mem_cons, List.not_mem_nil, or_false] at hw
  rcases hw with rfl | rfl | rfl
  · simp
  · exact nm_no h.1 (by omega)
  · exact nm_no h.2 (by omega)
theorem map_L_inj {ss ts : List Str} (h : ss.map L = ts.map L) : ss = ts := by
  have := congrArg (List.map mk) h
  simpa [Function.comp_def, mk_L] using this
theorem textY_inj {ss ts : List Str} {ps qs : List (Str × Str)} (h1 : Yt ss ps) (h2 : Yt ts qs) (h : textY ss ps = textY ts qs) : ss = ts ∧ ps = qs := by
  have e := congrArg (splitL 10) h
  rw [split_lines h1, split_lines h2] at e
  simp only [linesY, List.cons.injEq] at e
  obtain ⟨e1, e2⟩ := e
  constructor
  · have e3 := congrArg (splitL 32) e1
    rw [split_lineP h1.nm, split_lineP h2.nm, List.cons.injEq] at e3
    exact map_L_inj e3.2
  · clear h e1
    have g1 := h1.pm
    have g2 := h2.pm
    clear h1 h2
    induction ps generalizing qs with
    | nil => cases qs with
      | nil => rfl
      | cons _ _ => cases e2
    | cons p ps ih =>
      cases qs with
      | nil => cases e2
      | cons q qs =>
        simp only [List.map_cons, List.cons.injEq] at e2
        obtain ⟨e3, e4⟩ := e2
        have e5 := congrArg (splitL 32) e3
        rw [split_lineQ (g1 p List.mem_cons_self), split_lineQ (g2 q List.mem_cons_self)] at e5
        simp only [List.cons.injEq, and_true, true_and] at e5
        have : p = q := by
          obtain ⟨a, b⟩ := p
          obtain ⟨c, d⟩ := q
          rw [show a = c from L_inj e5.1, show b = d from L_inj e5.2]
        rw [this, ih e4 (fun x hx => g1 x (List.mem_cons_of_mem _ hx)) fun x hx => g2 x (List.mem_cons_of_mem _ hx)]
theorem show_yard_l1 {ss : List Str} {ps : List (Str × Str)} {s0 s1 s2 : Option T} (h : Yt ss ps) :
    (ev c_show_yard_l1).r (KK P fuel k [] []) [s0, s1, s2, some (.nd .tup false (ps.map pT)), none, none] = .ok (.tmp (sL true (ps.map fun p => mk (lineQ p)))) [s0, s1, s2, some (.nd .tup false (ps.map pT)), none, none] := by
  have hl := h.pl
  simp -implicitDefEqProofs [c_show_yard_l1, T.free, T.freeL, T.get, Kd.deep, T.set, T.whole, T.wholeL, T.frz, T.frzL, kidF, cmpT, eqT, binT, putT, mmT, biT, truT, itemsK, itemsI, itemsT, slT, Key.t]
  rw [lcG_map (fun _ => true) (fun x => match x with | .nd .tup false [.str a, .str b] => T.str (mk (lineQ (a, b))) | _ => .non) (by simp; omega) (by simp) (by simp)]
  · rw [List.filter_eq_self.mpr (fun _ _ => rfl), List.map_map]
    rw [sL, List.map_map]
    rfl
  · intro x hx acc ha R h1 h2
    obtain ⟨⟨a, b⟩, hp, rfl⟩ := List.mem_map.mp hx
    have q1 := (h.pm _ hp).1.2.1
    have q2 := (h.pm _ hp).2.2.1
    have w1 : Str.ofString "path " = mk [112, 97, 116, 104, 32] := rfl
    have w2 : Str.ofString " " = mk [32] := rfl
    have w3 : (⟨#[]⟩ : Str) = mk [] := rfl
    dsimp only at q1 q2
    have z1 : a.length ≤ 6 := q1
    have z2 : b.length ≤ 6 := q2
    simp at q1 q2
    simp -implicitDefEqProofs [c_show_yard_e1, T.free, T.freeL, T.get, Kd.deep, T.set, T.whole, T.wholeL, T.frz, T.frzL, kidF, cmpT, eqT, binT, putT, mmT, biT, truT, itemsK, itemsI, itemsT, slT, Key.t, ha, pT, w1, w2, w3, show a.length ≤ 1048576 by omega, show b.length ≤ 1048576 by omega, show a.cps.size + 1 + 1 + 1 + 1 + 1 ≤ 1048576 by omega, show a.cps.size + 1 + 1 + 1 + 1 + 1 + 1 ≤ 1048576 by omega, show a.cps.size + (b.cps.size + 1) + 1 + 1 + 1 + 1 + 1 ≤ 1048576 by omega]
    have e : (match pT (a, b) with | .nd .tup false [.str a, .str b] => T.str (mk (lineQ (a, b))) | _ => .non) = T.str (mk (112 :: 97 :: 116 :: 104 :: 32 :: (a.cps.toList ++ 32 :: b.cps.toList))) := by
      simp [pT, lineQ, joinL]
    rw [e] at h1
    exact ok_ok (h1 rfl _ rfl)
theorem yT_eq {ss : List Str} {ps : List (Str × Str)} : yT ss ps = .nd .tup false [sT ss, .nd .tup false (ps.map pT)] := rfl
theorem f_show_yard (hP : P.fns[f0]? = some n_show_yard) {ss : List Str} {ps : List (Str × Str)} (h : Yt ss ps) : callT P fuel (k + 1) f0 [yT ss ps] = .ok (.str (mk (textY ss ps))) [yT ss ps] := by
  rw [callT_s hP rfl]
  have e1 := show_yard_l1 (P := P) (fuel := fuel) (k := k) (ss := ss) (ps := ps) (s0 := some (yT ss ps)) (s1 := some (sL true [mk (lineP ss)])) (s2 := some (sT ss)) h
  have hs := h.sl
  have hl := h.pl
  have w1 : Str.ofString "places" = mk wPlaces := rfl
  have w2 : Str.ofString " " = mk [32] := rfl
  have w3 : Str.ofString "\n" = mk [10] := rfl
  have j1 : mtT .join (.str (mk [32])) [.nd .tup false (T.str (mk wPlaces) :: ss.map T.str)] = some (.str (mk (lineP ss))) := by
    have e := mtT_joinT (sep := mk [32]) (f := false) (ss := mk wPlaces :: ss) (by
      have h1 : (ss.map Str.length).sum ≤ ss.length * 6 := sum_le fun s hs => (h.nm s hs).2.1
      rw [List.map_cons, List.sum_cons, List.length_cons, mk_len, mk_len]
      have : wPlaces.length = 6 := rfl
      simp only [List.length_singleton]
      omega)
    rw [List.map_cons] at e
    rw [e, joinS_mk]
    rfl
  have j2 : mtT .join (.str (mk [10])) [.nd .lst true (T.str (mk (lineP ss)) :: (ps.map fun p => mk (lineQ p)).map T.str)] = some (.str (mk (textY ss ps))) := by
    have e := mtT_join (sep := mk [10]) (f := true) (ss := mk (lineP ss) :: ps.map fun p => mk (lineQ p)) (by
      have h1 : ((ps.map fun p => mk (lineQ p)).map Str.length).sum ≤ (ps.map fun p => mk (lineQ p)).length * 18 := sum_le fun s hs => by
        obtain ⟨p, hp, rfl⟩ := List.mem_map.mp hs
        rw [mk_len]
        exact lineQ_len (h.pm p hp)
      have h2 := lineP_len h
      rw [List.length_map] at h1
      rw [List.map_cons, List.sum_cons, List.length_cons, mk_len, mk_len, List.length_map]
      simp only [List.length_singleton]
      omega)
    rw [List.map_cons] at e
    rw [e, joinS_mk]
    simp only [List.map_cons, List.map_map, textY, linesY, Function.comp_def, mk_list]
  simp only [sL, List.map_cons, List.map_nil] at e1
  generalize hQ : ps.map (fun p => mk (lineQ p)) = Q at *
  have hq : Q.length ≤ 1000 := by rw [← hQ, List.length_map]; omega
  simp -implicitDefEqProofs [c_show_yard, T.free, T.freeL, T.get, Kd.deep, T.set, T.whole, T.wholeL, T.frz, T.frzL, kidF, cmpT, eqT, binT, putT, mmT, biT, truT, itemsK, itemsI, itemsT, slT, Key.t, w1, w2, w3, j1, j2, e1, capT, show ss.length + 1 ≤ 1048576 by omega, show 1 + Q.length ≤ 1048576 by omega]
theorem cut1 {α : Type} {x : α} {l : List α} : cut (x :: l) (some 1) none = l := by
  have := cut_drop (l := x :: l) (p := 1) (by simp)
  simpa using this
theorem f_read_places {f2 : Nat} (h0 : P.fns[f0]? = some n_is_name) (h1 : P.fns[f1]? = some (n_are_names f0)) (h2 : P.fns[f2]? = some (n_read_places f1)) {ss : List Str} (hn : ∀ s ∈ ss, Nm s) (hd : ss.Nodup) (hl : 1 ≤ ss.length ∧ ss.length ≤ 8) :
    callT P fuel (k + 3) f2 [.str (mk (lineP ss))] = .ok (sT ss) [.str (mk (lineP ss))] := by
  rw [callT_s h2 rfl]
  have w1 : Str.ofString "places" = mk wPlaces := rfl
  have w2 : Str.ofString " " = mk [32] := rfl
  have hlen := lineP_len (ss := ss) (ps := []) ⟨hn, by omega, by simp, by simp⟩
  have e1 := mtT_split (c := 32) (l := lineP ss) (by omega)
  rw [split_lineP hn, List.map_cons, List.map_map, show ss.map (mk ∘ L) = ss by simp [Function.comp_def, mk_L]] at e1
  have e2 := f_are_names (P := P) (fuel := fuel) (k := k) h0 h1 (ws := ss) (fun s hs => by have := (hn s hs).2.1; rw [L_len]; simp at this ⊢; omega) (by omega)
  rw [decide_eq_true ⟨hn, hd⟩] at e2
  have e3 : ixNat (ss.length + 1) 0 = some 0 := ixNat_nn (by omega) (by omega)
  have c1 : (1 : Int) ≤ ss.length := by omega
  have c2 : (ss.length : Int) ≤ 8 := by omega
  have c3 : ss.length ≤ 1048576 := by omega
  simp -implicitDefEqProofs [c_read_places, T.free, T.freeL, T.get, Kd.deep, T.set, T.whole, T.wholeL, T.frz, T.frzL, kidF, cmpT, eqT, binT, putT, mmT, biT, truT, itemsK, itemsI, itemsT, slT, Key.t, w1, w2, e1, e2, e3, cut1, c1, c2, c3, capL, capT]
theorem f_read_path {f2 : Nat} (h2 : P.fns[f2]? = some n_read_path) {ss : List Str} {qs : List (Str × Str)} {p : Str × Str} (hn : Nm p.1 ∧ Nm p.2) (hm : p.1 ∈ ss ∧ p.2 ∈ ss ∧ p.1 ≠ p.2) (hq : p ∉ qs) (hl : qs.length < 24) :
    callT P fuel (k + 1) f2 [sT ss, .nd .lst true (qs.map pT), .str (mk (lineQ p))] = .ok (pT p) [sT ss, .nd .lst true (qs.map pT), .str (mk (lineQ p))] := by
  rw [callT_s h2 rfl]
  obtain ⟨a, b⟩ := p
  have w1 : Str.ofString "path" = mk wPath := rfl
  have w2 : Str.ofString " " = mk [32] := rfl
  have hlen := lineQ_len hn
  have e1 := mtT_split (c := 32) (l := lineQ (a, b)) (by omega)
  rw [split_lineQ hn] at e1
  simp only [List.map_cons, List.map_nil, mk_L] at e1
  have c1 : ¬ (qs.length : Int) = 24 := by omega
  have c2 : ¬ qs.length = 24 := by omega
  simp -implicitDefEqProofs [c_read_path, T.free, T.freeL, T.get, Kd.deep, T.set, T.whole, T.wholeL, T.frz, T.frzL, kidF, cmpT, eqT, binT, putT, mmT, biT, truT, itemsK, itemsI, itemsT, slT, Key.t, w1, w2, e1, c1, c2, hm.1, hm.2.1, hm.2.2, hq, pT]
theorem enum_map {α : Type} {f : α → T} : ∀ {n : Nat} {l : List α}, enumF n (l.map f) = (l.zipIdx n).map fun p => T.tup [.int (p.2 : Nat), f p.1]
  | _, [] => rfl
  | n, a :: r => by
    show T.tup [.int n, f a] :: enumF (n + 1) (r.map f) = _
    rw [enum_map, List.zipIdx_cons, List.map_cons]
theorem enum_len : ∀ {n : Nat} {l : List T}, (enumF n l).length = l.length
  | _, [] => rfl
  | n, a :: r => by simp [enumF, enum_len (l := r)]
theorem enum_free : ∀ {n : Nat} {l : List T}, T.freeL l = true → T.freeL (enumF n l) = true
  | _, [], _ => rfl
  | n, a :: r, h => by
    have h' : (a.free && T.freeL r) = true := h
    rw [Bool.and_eq_true] at h'
    simp [enumF, T.freeL, T.free, h'.1, enum_free h'.2]
theorem read_yard_f1 {f2 : Nat} (h2 : P.fns[f2]? = some n_read_path) {ss : List Str} {ps : List (Str × Str)} {s0 : Option T} {x0 : Str} (hm : ∀ p ∈ ps, p.1 ∈ ss ∧ p.2 ∈ ss ∧ p.1 ≠ p.2) (hn : ps.Nodup) (hl : ps.length ≤ 24) (h : Yt ss ps) :
    Nx ((ev (c_read_yard_f1 f2 xe)).s (KK P fuel (k + 1) [] []) [s0, some (sT ss), some (sL true (x0 :: ps.map fun p => mk (lineQ p))), some (.nd .lst true []), none, none, none]) fun e => ∃ o4 o5 o6, e = [s0, some (sT ss), some (sL true (x0 :: ps.map fun p => mk (lineQ p))), some (.nd .lst true (ps.map pT)), o4, o5, o6] := by
  refine nx_cps fun R hR => ?_
  have c1 : T.freeL ((ps.map fun p => mk (lineQ p)).map T.str) = true := freeL_str
  have c2 : (ps.map fun p => mk (lineQ p)).length ≤ 1048576 := by rw [List.length_map]; omega
  generalize hQ : ps.map (fun p => mk (lineQ p)) = Q at *
  simp -implicitDefEqProofs [c_read_yard_f1, T.free, T.freeL, T.get, Kd.deep, T.set, T.whole, T.wholeL, T.frz, T.frzL, kidF, cmpT, eqT, binT, putT, mmT, biT, truT, itemsK, itemsI, itemsT, slT, Key.t, cut1, capL, c1, c2]
  refine nx_mono (forL_inv (fun r e => ∃ (pre rest : List (Str × Str)) (o4 o5 o6 : Option T), ps = pre ++ rest ∧ r = enumF pre.length ((rest.map fun p => mk (lineQ p)).map T.str) ∧ e = [s0, some (sT ss), some (sL true (x0 :: Q)), some (.nd .lst true (pre.map pT)), o4, o5, o6]) ?_ _ _ ⟨[], ps, none, none, none, rfl, by rw [hQ]; rfl, rfl⟩) ?_
  · rintro x r _ ⟨pre, rest, o4, o5, o6, hp, hr, rfl⟩ R hR
    cases rest with
    | nil => cases hr
    | cons p rest =>
      cases hr
      have m1 : p ∈ ps := by rw [hp]; simp
      have m2 : p ∉ pre := by
        intro hm'
        rw [hp] at hn
        exact (List.nodup_append.mp hn).2.2 p hm' p List.mem_cons_self rfl
      have m3 : pre.length < 24 := by rw [hp] at hl; simp at hl; omega
      have e1 := f_read_path (P := P) (fuel := fuel) (k := k) h2 (ss := ss) (qs := pre) (h.pm p m1) (hm p m1) m2 m3
      have m4 : pre.length < 1048576 := by omega
      have e2 : ∀ t : T, cmpT .isN (pT p) .non = some false := fun _ => rfl
      simp -implicitDefEqProofs [c_read_yard_b1, T.free, T.freeL, T.get, T.set, T.whole, T.wholeL, T.frz, T.frzL, mmT, truT, e1, e2 .non, m4]
      refine nx_ok (hR _ ⟨pre ++ [p], rest, some (.int pre.length), some (.str (mk (lineQ p))), some (pT p), by simp [hp], by simp, by simp⟩)
  · rintro e ⟨pre, rest, o4, o5, o6, hp, hr, rfl⟩
    cases rest with
    | cons _ _ => cases hr
    | nil =>
      rw [List.append_nil] at hp
      subst hp
      exact hR _ ⟨o4, o5, o6, rfl⟩
theorem f_read_yard {f2 f3 f4 : Nat} (h0 : P.fns[f0]? = some n_is_name) (h1 : P.fns[f1]? = some (n_are_names f0)) (h2 : P.fns[f2]? = some (n_read_places f1)) (h3 : P.fns[f3]? = some n_read_path) (h4 : P.fns[f4]? = some (n_read_yard f2 xe f3))
    {ss : List Str} {ps : List (Str × Str)} (h : Yd ss ps 24) (hs : ss.length ≤ 8) : callT P fuel (k + 4) f4 [.str (mk (textY ss ps))] = .ok (yT ss ps) [.str (mk (textY ss ps))] := by
  rw [callT_s h4 rfl]
  have hy : Yt ss ps := h.yt (by omega) (by omega)
  have w3 : Str.ofString "\n" = mk [10] := rfl
  have hlen := textY_len hy
  have e1 := mtT_split (c := 10) (l := textY ss ps) (by omega)
  rw [split_lines hy] at e1
  simp only [linesY, List.map_cons, List.map_map] at e1
  have e2 := f_read_places (P := P) (fuel := fuel) (k := k) h0 h1 h2 h.nm h.nd ⟨h.l1, hs⟩
  obtain ⟨e, he, o4, o5, o6, rfl⟩ := read_yard_f1 (xe := xe) (P := P) (fuel := fuel) (k := k + 2) (s0 := some (.str (mk (textY ss ps)))) (x0 := mk (lineP ss)) h3 h.pm h.pn h.pl hy
  have c1 : ps.length ≤ 1048576 := by have := h.pl; omega
  have e3 : ∀ n : Nat, ixNat (n + 1) 0 = some 0 := fun n => ixNat_nn (by omega) (by omega)
  have hq : ps.map (fun p => mk (lineQ p)) = ps.map (mk ∘ lineQ) := rfl
  rw [hq] at he
  generalize hQ : ps.map (mk ∘ lineQ) = Q at *
  have he : (ev (c_read_yard_f1 f3 xe)).s (KK P fuel (k + 3) [] []) _ = _ := he
  simp -implicitDefEqProofs [c_read_yard, T.free, T.freeL, T.get, Kd.deep, T.set, T.whole, T.wholeL, T.frz, T.frzL, kidF, cmpT, eqT, binT, putT, mmT, biT, truT, itemsK, itemsI, itemsT, slT, Key.t, w3, e1, e2, e3, he, c1, capT]
end
end TI.M
end
section
set_option maxHeartbeats 400000
/-! TM3: try, except, fields of a caught error, list.index for simp. Plain Lean. -/
namespace TI.M
open PySem
variable {K : Ek} {env : Env}
def tryD (hd : Nat → List T → Env → SO) (o : SO) : SO := match o with
  | .err c xs e => hd c xs e
  | o => o
@[simp] theorem tryD_nx {hd : Nat → List T → Env → SO} {e : Env} : tryD hd (.nx e) = .nx e := rfl
@[simp] theorem tryD_rt {hd : Nat → List T → Env → SO} {t : T} {e : Env} : tryD hd (.rt t e) = .rt t e := rfl
@[simp] theorem tryD_err {hd : Nat → List T → Env → SO} {c : Nat} {xs : List T} {e : Env} : tryD hd (.err c xs e) = hd c xs e := rfl
@[simp] theorem s_try {b h : C} : (ev (.tryS b h)).s K env = tryD ((ev h).hd K) ((ev b).bl K env) := by
  show (match (ev b).bl K env with
    | .err c xs e => (ev h).hd K c xs e
    | o => o) = _
  cases (ev b).bl K env <;> rfl
def hdlD (K : Ek) (body : C) (i c : Nat) (xs : List T) (env : Env) : Option Bool → SO
  | some true => if i < env.length ∧ K.open_ i = true ∧ K.pn.contains i = false ∧ xs ≠ [] then endH i ((ev body).bl (K.lock i) (env.set i (some (.nd (.exn c (K.xf c)) true xs)))) else .stuck
  | some false => .err c xs env
  | none => .stuck
@[simp] theorem hd_hdl {c c' i : Nat} {xs : List T} {body : C} : (ev (.hdl c' (some i) body)).hd K c xs env = hdlD K body i c xs env (K.xm c c') := by
  unfold hdlD
  show (match K.xm c c' with
    | some true => (match (some i : Option Nat) with
      | some i => if i < env.length ∧ K.open_ i = true ∧ K.pn.contains i = false ∧ xs ≠ [] then endH i ((ev body).bl (K.lock i) (env.set i (some (.nd (.exn c (K.xf c)) true xs)))) else .stuck
      | none => .stuck)
    | some false => .err c xs env
    | none => .stuck) = _
  cases K.xm c c' with
  | none => rfl
  | some b => cases b <;> rfl
@[simp] theorem hdlD_t {body : C} {i c : Nat} {xs : List T} : hdlD K body i c xs env (some true) = if i < env.length ∧ K.open_ i = true ∧ K.pn.contains i = false ∧ xs ≠ [] then endH i ((ev body).bl (K.lock i) (env.set i (some (.nd (.exn c (K.xf c)) true xs)))) else .stuck := rfl
@[simp] theorem hdlD_f {body : C} {i c : Nat} {xs : List T} : hdlD K body i c xs env (some false) = .err c xs env := rfl
@[simp] theorem endH_nx {i : Nat} {e : Env} : endH i (.nx e) = if noexE (e.set i none) = true then .nx (e.set i none) else .stuck := rfl
@[simp] theorem endH_rt {i : Nat} {t : T} {e : Env} : endH i (.rt t e) = if noexE (e.set i none) = true ∧ t.noex = true then .rt t (e.set i none) else .stuck := rfl
def xfO (f : Str) (o : Option (Option T)) (env : Env) : Out RV := match o with
  | some (some (.nd (.exn _ ns) _ xs)) => (match (ns.zip xs).lookup f with
    | some x => if x.free = true then .ok (.tmp x) env else .stuck
    | none => .stuck)
  | _ => .stuck
@[simp] theorem r_xf {i : Nat} {f : Str} : (ev (.xf i f)).r K env = xfO f env[i]? env := rfl
@[simp] theorem xfO_s {f : Str} {c : Nat} {ns : List Str} {b : Bool} {xs : List T} {env : Env} : xfO f (some (some (.nd (.exn c ns) b xs))) env = (match (ns.zip xs).lookup f with
    | some x => if x.free = true then .ok (.tmp x) env else .stuck
    | none => .stuck) := rfl
theorem mtOk_index {x : RV} {e : Env} {f : Bool} {xs : List T} (h : lookR e x = some (.nd .lst f xs)) : mtOk .index x e = true := by
  show (match lookR e x with | some (.nd .lst _ _) => true | _ => false) = true
  rw [h]
end TI.M
end
section
set_option maxHeartbeats 4000000
/-! TQ2: the program's readers of texts, on every text. Plain Lean. -/
namespace TI.M
open PySem
theorem splitL_wlen {c : Nat} : ∀ {l : List Nat} {w : List Nat}, w ∈ splitL c l → w.length ≤ l.length
  | [], w, h => by
    have e : w = [] := by simpa [splitL] using h
    rw [e]; simp
  | x :: r, w, h => by
    have h' : w ∈ (if x = c then [] :: splitL c r else match splitL c r with | [] => [[x]] | w :: ws => (x :: w) :: ws) := h
    split at h'
    · rcases List.mem_cons.mp h' with rfl | h1
      · simp
      · have := splitL_wlen h1; simp; omega
    · split at h'
      · have e : w = [x] := by simpa using h'
        rw [e]; simp
      · rename_i w1 ws e
        rcases List.mem_cons.mp h' with rfl | h1
        · have := splitL_wlen (c := c) (l := r) (w := w1) (by rw [e]; exact List.mem_cons_self)
          simp; omega
        · have := splitL_wlen (c := c) (l := r) (w := w) (by rw [e]; exact List.mem_cons_of_mem _ h1)
          simp; omega
theorem splitL_ne {c : Nat} : ∀ {l : List Nat}, splitL c l ≠ []
  | [] => by simp [splitL]
  | x :: r => by
    show (if x = c then [] :: splitL c r else match splitL c r with | [] => [[x]] | w :: ws => (x :: w) :: ws) ≠ []
    split
    · simp
    · split <;> simp
/-- the places of a first line, if it is allowed -/
def rdW : List Str → Option (List Str)
  | [] => none
  | w :: ws => if w = mk wPlaces ∧ 1 ≤ ws.length ∧ ws.length ≤ 8 ∧ (∀ s ∈ ws, Nm s) ∧ ws.Nodup then some ws else none
theorem rdW_c {w : Str} {ws : List Str} : rdW (w :: ws) = if w = mk wPlaces ∧ 1 ≤ ws.length ∧ ws.length ≤ 8 ∧ (∀ s ∈ ws, Nm s) ∧ ws.Nodup then some ws else none := rfl
def rdP (l : List Nat) : Option (List Str) := rdW ((splitL 32 l).map mk)
def oP : Option (List Str) → T
  | some ss => sT ss
  | none => .non
section
variable {P : Prg} {fuel k f0 f1 f2 : Nat}
theorem f_read_placesA (h0 : P.fns[f0]? = some n_is_name) (h1 : P.fns[f1]? = some (n_are_names f0)) (h2 : P.fns[f2]? = some (n_read_places f1)) {l : List Nat} (hl : l.length < 1048576) :
    callT P fuel (k + 3) f2 [.str (mk l)] = .ok (oP (rdP l)) [.str (mk l)] := by
  rw [callT_s h2 rfl]
  have w1 : Str.ofString "places" = mk wPlaces := rfl
  have w2 : Str.ofString " " = mk [32] := rfl
  have e1 := mtT_split (c := 32) hl
  have hw : ∀ s ∈ (splitL 32 l).map mk, s.length ≤ 1048576 := fun s hs => by
    obtain ⟨w, hw, rfl⟩ := List.mem_map.mp hs
    have := splitL_wlen hw
    rw [mk_len]; omega
  have hn : (splitL 32 l).map mk ≠ [] := by simpa using splitL_ne
  have hc : ((splitL 32 l).map mk).length ≤ 1048576 := by rw [List.length_map]; exact Nat.le_trans split_len hl
  have hr : rdP l = rdW ((splitL 32 l).map mk) := rfl
  rw [hr]
  clear hr
  generalize (splitL 32 l).map mk = ws at *
  cases ws with
  | nil => exact absurd rfl hn
  | cons w ws =>
    have e3 : ixNat (ws.length + 1) 0 = some 0 := ixNat_nn (by omega) (by omega)
    have c3 : ws.length ≤ 1048576 := by simp at hc; omega
    by_cases b1 : w = mk wPlaces
    · by_cases b2 : 1 ≤ ws.length ∧ ws.length ≤ 8
      · have e2 := f_are_names (P := P) (fuel := fuel) (k := k) h0 h1 (ws := ws) (fun s hs => hw s (List.mem_cons_of_mem _ hs)) (by omega)
        have c1 : (1 : Int) ≤ ws.length := by omega
        have c2 : (ws.length : Int) ≤ 8 := by omega
        by_cases b3 : (∀ s ∈ ws, Nm s) ∧ ws.Nodup
        · rw [decide_eq_true b3] at e2
          rw [rdW_c, if_pos ⟨b1, b2.1, b2.2, b3⟩]
          simp -implicitDefEqProofs [c_read_places, T.free, T.freeL, T.get, Kd.deep, T.set, T.whole, T.wholeL, T.frz, T.frzL, kidF, cmpT, eqT, binT, putT, mmT, biT, truT, itemsK, itemsI, itemsT, slT, Key.t, w1, w2, e1, e2, e3, cut1, c1, c2, c3, capL, capT, b1, oP]
        · rw [decide_eq_false b3] at e2
          rw [rdW_c, if_neg fun z => b3 z.2.2.2]
          simp -implicitDefEqProofs [c_read_places, T.free, T.freeL, T.get, Kd.deep, T.set, T.whole, T.wholeL, T.frz, T.frzL, kidF, cmpT, eqT, binT, putT, mmT, biT, truT, itemsK, itemsI, itemsT, slT, Key.t, w1, w2, e1, e2, e3, cut1, c1, c2, c3, capL, capT, b1, oP]
      · rw [rdW_c, if_neg fun z => b2 ⟨z.2.1, z.2.2.1⟩]
        by_cases b4 : 1 ≤ ws.length
        · have c1 : (1 : Int) ≤ ws.length := by omega
          have c2 : ¬ (ws.length : Int) ≤ 8 := by omega
          simp -implicitDefEqProofs [c_read_places, T.free, T.freeL, T.get, Kd.deep, T.set, T.whole, T.wholeL, T.frz, T.frzL, kidF, cmpT, eqT, binT, putT, mmT, biT, truT, itemsK, itemsI, itemsT, slT, Key.t, w1, w2, e1, e3, c1, c2, c3, capL, capT, b1, oP]
        · have c1 : ¬ (1 : Int) ≤ ws.length := by omega
          simp -implicitDefEqProofs [c_read_places, T.free, T.freeL, T.get, Kd.deep, T.set, T.whole, T.wholeL, T.frz, T.frzL, kidF, cmpT, eqT, binT, putT, mmT, biT, truT, itemsK, itemsI, itemsT, slT, Key.t, w1, w2, e1, e3, c1, c3, capL, capT, b1, oP]
    · rw [rdW_c, if_neg fun z => b1 z.1]
      simp -implicitDefEqProofs [c_read_places, T.free, T.freeL, T.get, Kd.deep, T.set, T.whole, T.wholeL, T.frz, T.frzL, kidF, cmpT, eqT, binT, putT, mmT, biT, truT, itemsK, itemsI, itemsT, slT, Key.t, w1, w2, e1, e3, c3, capL, capT, b1, oP]
/-- the path of a line behind some paths, if it is allowed -/
def rqW (ss : List Str) (qs : List (Str × Str)) : List Str → Option (Str × Str)
  | [w, a, b] => if w = mk wPath ∧ qs.length ≠ 24 ∧ a ∈ ss ∧ b ∈ ss ∧ a ≠ b ∧ (a, b) ∉ qs then some (a, b) else none
  | _ => none
theorem rqW_c {ss : List Str} {qs : List (Str × Str)} {w a b : Str} : rqW ss qs [w, a, b] = if w = mk wPath ∧ qs.length ≠ 24 ∧ a ∈ ss ∧ b ∈ ss ∧ a ≠ b ∧ (a, b) ∉ qs then some (a, b) else none := rfl
def rdQ (ss : List Str) (qs : List (Str × Str)) (l : List Nat) : Option (Str × Str) := rqW ss qs ((splitL 32 l).map mk)
def oQ : Option (Str × Str) → T
  | some p => pT p
  | none => .non
theorem rqW_n {ss : List Str} {qs : List (Str × Str)} {ws : List Str} (h : ws.length ≠ 3) : rqW ss qs ws = none := by
  unfold rqW
  split
  · exact absurd rfl h
  · rfl
theorem f_read_pathA (h2 : P.fns[f2]? = some n_read_path) {ss : List Str} {qs : List (Str × Str)} {l : List Nat} (hl : l.length < 1048576) (hq : qs.length ≤ 24) :
    callT P fuel (k + 1) f2 [sT ss, .nd .lst true (qs.map pT), .str (mk l)] = .ok (oQ (rdQ ss qs l)) [sT ss, .nd .lst true (qs.map pT), .str (mk l)] := by
  rw [callT_s h2 rfl]
  have w1 : Str.ofString "path" = mk wPath := rfl
  have w2 : Str.ofString " " = mk [32] := rfl
  have e1 := mtT_split (c := 32) hl
  have hn : (splitL 32 l).map mk ≠ [] := by simpa using splitL_ne
  have hc : ((splitL 32 l).map mk).length ≤ 1048576 := by rw [List.length_map]; exact Nat.le_trans split_len hl
  have hr : rdQ ss qs l = rqW ss qs ((splitL 32 l).map mk) := rfl
  rw [hr]
  clear hr
  generalize (splitL 32 l).map mk = ws at *
  cases ws with
  | nil => exact absurd rfl hn
  | cons w ws =>
    have e3 : ixNat (ws.length + 1) 0 = some 0 := ixNat_nn (by omega) (by omega)
    by_cases b1 : w = mk wPath
    · by_cases b2 : ws.length = 2
      · match ws, b2 with
        | [a, b], _ =>
        rw [rqW_c]
        by_cases b3 : qs.length = 24
        · have c1 : (qs.length : Int) = 24 := by omega
          rw [if_neg fun z => z.2.1 b3]
          simp -implicitDefEqProofs [c_read_path, T.free, T.freeL, T.get, Kd.deep, T.set, T.whole, T.wholeL, T.frz, T.frzL, kidF, cmpT, eqT, binT, putT, mmT, biT, truT, itemsK, itemsI, itemsT, slT, Key.t, w1, w2, e1, c1, b3, b1, oQ]
        · have c1 : ¬ (qs.length : Int) = 24 := by omega
          by_cases b4 : a ∈ ss
          · by_cases b5 : b ∈ ss
            · by_cases b6 : a = b
              · rw [if_neg fun z => z.2.2.2.2.1 b6]
                simp -implicitDefEqProofs [c_read_path, T.free, T.freeL, T.get, Kd.deep, T.set, T.whole, T.wholeL, T.frz, T.frzL, kidF, cmpT, eqT, binT, putT, mmT, biT, truT, itemsK, itemsI, itemsT, slT, Key.t, w1, w2, e1, c1, b3, b1, b4, b5, b6, oQ]
              · by_cases b7 : (a, b) ∈ qs
                · rw [if_neg fun z => z.2.2.2.2.2 b7]
                  simp -implicitDefEqProofs [c_read_path, T.free, T.freeL, T.get, Kd.deep, T.set, T.whole, T.wholeL, T.frz, T.frzL, kidF, cmpT, eqT, binT, putT, mmT, biT, truT, itemsK, itemsI, itemsT, slT, Key.t, w1, w2, e1, c1, b3, b1, b4, b5, b6, b7, oQ]
                · rw [if_pos ⟨b1, b3, b4, b5, b6, b7⟩]
                  simp -implicitDefEqProofs [c_read_path, T.free, T.freeL, T.get, Kd.deep, T.set, T.whole, T.wholeL, T.frz, T.frzL, kidF, cmpT, eqT, binT, putT, mmT, biT, truT, itemsK, itemsI, itemsT, slT, Key.t, w1, w2, e1, c1, b3, b1, b4, b5, b6, b7, oQ, pT]
            · rw [if_neg fun z => b5 z.2.2.2.1]
              simp -implicitDefEqProofs [c_read_path, T.free, T.freeL, T.get, Kd.deep, T.set, T.whole, T.wholeL, T.frz, T.frzL, kidF, cmpT, eqT, binT, putT, mmT, biT, truT, itemsK, itemsI, itemsT, slT, Key.t, w1, w2, e1, c1, b3, b1, b4, b5, oQ]
          · rw [if_neg fun z => b4 z.2.2.1]
            simp -implicitDefEqProofs [c_read_path, T.free, T.freeL, T.get, Kd.deep, T.set, T.whole, T.wholeL, T.frz, T.frzL, kidF, cmpT, eqT, binT, putT, mmT, biT, truT, itemsK, itemsI, itemsT, slT, Key.t, w1, w2, e1, c1, b3, b1, b4, oQ]
      · rw [rqW_n (by simpa using b2)]
        have c1 : ¬ (ws.length : Int) + 1 = 3 := by omega
        simp -implicitDefEqProofs [c_read_path, T.free, T.freeL, T.get, Kd.deep, T.set, T.whole, T.wholeL, T.frz, T.frzL, kidF, cmpT, eqT, binT, putT, mmT, biT, truT, itemsK, itemsI, itemsT, slT, Key.t, w1, w2, e1, e3, c1, b2, b1, oQ]
    · have hz : rqW ss qs (w :: ws) = none := by
        unfold rqW
        split
        · rename_i h; cases h; rw [if_neg fun z => b1 z.1]
        · rfl
      rw [hz]
      simp -implicitDefEqProofs [c_read_path, T.free, T.freeL, T.get, Kd.deep, T.set, T.whole, T.wholeL, T.frz, T.frzL, kidF, cmpT, eqT, binT, putT, mmT, biT, truT, itemsK, itemsI, itemsT, slT, Key.t, w1, w2, e1, e3, b1, oQ]
end
end TI.M
end
section
set_option maxHeartbeats 400000
/-! TM4: loops with any end, branches let through. Plain Lean. -/
namespace TI.M
open PySem
theorem forL_ind {g : T → Env → Out Unit} {b : Env → SO} (I : List T → Env → Prop) (Q : SO → Prop)
    (h : ∀ x r e, I (x :: r) e → ∀ S : SO → Prop, (∀ e', I r e' → S (.nx e')) → (∀ t e', Q (.rt t e') → S (.rt t e')) → (∀ c xs e', Q (.err c xs e') → S (.err c xs e')) → S (stE g b x e))
    (h0 : ∀ e, I [] e → Q (.nx e)) : ∀ (its : List T) (e : Env), I its e → Q (forL g b its e)
  | [], e, hi => h0 e hi
  | x :: r, e, hi => by
    have h1 := h x r e hi (fun o => (∃ e', o = .nx e' ∧ I r e') ∨ (∃ t e', o = .rt t e' ∧ Q o) ∨ (∃ c xs e', o = .err c xs e' ∧ Q o)) (fun e' z => .inl ⟨e', rfl, z⟩) (fun t e' z => .inr (.inl ⟨t, e', rfl, z⟩)) (fun c xs e' z => .inr (.inr ⟨c, xs, e', rfl, z⟩))
    rcases h1 with ⟨e', h1, h2⟩ | ⟨t, e', h1, h2⟩ | ⟨c, xs, e', h1, h2⟩
    · rw [forL_step h1]; exact forL_ind I Q h h0 r e' h2
    · rw [forL_rt h1]; rw [h1] at h2; exact h2
    · rw [forL_err h1]; rw [h1] at h2; exact h2
section
variable {α β : Type} {c : Prop} [Decidable c]
theorem bindD_ite {x y : Out α} {f : α → Env → Out β} {t : Tg f} : bindD (if c then x else y) f t = if c then bindD x f t else bindD y f t := by split <;> rfl
theorem runD_ite {x y : Out α} {f : α → Env → SO} {t : Tg f} : runD (if c then x else y) f t = if c then runD x f t else runD y f t := by split <;> rfl
theorem nextD_ite {x y : SO} {f : Env → SO} {t : Tg f} : nextD (if c then x else y) f t = if c then nextD x f t else nextD y f t := by split <;> rfl
theorem finC_ite {args : List T} {pn : List Nat} {x y : SO} : finC args pn (if c then x else y) = if c then finC args pn x else finC args pn y := by split <;> rfl
theorem liftR_ite {x y : Option T} {e : Env} : liftR (if c then x else y) e = if c then liftR x e else liftR y e := by split <;> rfl
theorem lift_ite {x y : Option α} {e : Env} : lift (if c then x else y) e = if c then lift x e else lift y e := by split <;> rfl
theorem callE_ite {rvs : List RV} {us : List (Option T)} {e : Env} {x y : CO} : callE rvs us e (if c then x else y) = if c then callE rvs us e x else callE rvs us e y := by split <;> rfl
theorem tryD_ite {hd : Nat → List T → Env → SO} {x y : SO} : tryD hd (if c then x else y) = if c then tryD hd x else tryD hd y := by split <;> rfl
end
theorem compL_ty {α : Type} {own : List Nat} {g : T → Env → Out Unit} {t : Env → Out Bool} {b : List T → Env → Out (List T)} {env : Env} (enc : α → T) (p : α → Bool) (f : α → T) :
    ∀ (its : List α) (acc : List T), acc.length + its.length ≤ lim →
    (∀ x ∈ its, ∀ acc : List T, acc.length < lim → ∃ e', turn g t b (enc x) acc env = .ok (if p x = true then acc ++ [f x] else acc) e' ∧ wipeE own e' = env) →
    compL own g t b (its.map enc) acc env = .ok (acc ++ (its.filter p).map f) env
  | [], acc, _, _ => by simp [compL]
  | x :: r, acc, hl, h => by
    simp only [List.length_cons] at hl
    obtain ⟨e', h1, h2⟩ := h x List.mem_cons_self acc (by omega)
    rw [List.map_cons, compL_turn h1, h2]
    cases hp : p x with
    | true =>
      rw [if_pos rfl, compL_ty enc p f r (acc ++ [f x]) (by simp; omega) fun y hy => h y (List.mem_cons_of_mem _ hy)]
      rw [List.filter_cons_of_pos hp, List.map_cons, List.append_assoc]; rfl
    | false =>
      rw [if_neg (by simp), compL_ty enc p f r acc (by omega) fun y hy => h y (List.mem_cons_of_mem _ hy)]
      rw [List.filter_cons_of_neg (by simp [hp])]
/-- a comprehension over what is told by plain data -/
theorem lcG_ty {α : Type} {own : List Nat} {K : Ek} {tg tst elt : C} {e : Env} (enc : α → T) (xs : List α) (p : α → Bool) (f : α → T) (hl : xs.length ≤ 1048576) (ho : ownOk K own e = true) (hb : backE own e (wipeE own e) = e)
    (h : ∀ x ∈ xs, ∀ acc : List T, acc.length < 1048576 → ∀ R : List T → Env → Prop, (p x = true → ∀ e', wipeE own e' = wipeE own e → R (acc ++ [f x]) e') → (p x = false → ∀ e', wipeE own e' = wipeE own e → R acc e') → Ok (turn ((ev tg).a (K.pinO own e.length)) ((ev tst).t K) (lcB K elt) (enc x) acc (wipeE own e)) R) :
    lcG own K tg tst elt (xs.map enc) e = .ok (.tmp (.lst true ((xs.filter p).map f))) e := by
  unfold lcG
  rw [if_pos ho, compL_ty enc p f xs [] (by simpa [lim] using hl) (fun x hx acc ha => by
    obtain ⟨a, e', h1, h2, h3⟩ := h x hx acc ha (fun a e' => a = (if p x = true then acc ++ [f x] else acc) ∧ wipeE own e' = wipeE own e) (fun hp e' h => ⟨by rw [if_pos hp], h⟩) (fun hp e' h => ⟨by rw [if_neg (by rw [hp]; simp)], h⟩)
    exact ⟨e', by rw [h1, h2], h3⟩)]
  rw [lcE_s, hb, List.nil_append]
/-- .. that keeps all -/
theorem lcG_all {α : Type} {own : List Nat} {K : Ek} {tg tst elt : C} {e : Env} (enc : α → T) (xs : List α) (f : α → T) (hl : xs.length ≤ 1048576) (ho : ownOk K own e = true) (hb : backE own e (wipeE own e) = e)
    (h : ∀ x ∈ xs, ∀ acc : List T, acc.length < 1048576 → ∀ R : List T → Env → Prop, (∀ e', wipeE own e' = wipeE own e → R (acc ++ [f x]) e') → Ok (turn ((ev tg).a (K.pinO own e.length)) ((ev tst).t K) (lcB K elt) (enc x) acc (wipeE own e)) R) :
    lcG own K tg tst elt (xs.map enc) e = .ok (.tmp (.lst true (xs.map f))) e := by
  rw [lcG_ty enc xs (fun _ => true) f hl ho hb fun x hx acc ha R h1 _ => h x hx acc ha R (h1 rfl)]
  rw [List.filter_eq_self.mpr fun _ _ => rfl]
def kidE (x : RV) : Option T → Option RV
  | some t => if t.free then some (.tmp t) else match x with
    | .tmp _ => some (.tmp t)
    | .plc _ _ => none
  | none => none
theorem kidE_s {x : RV} {t : T} (h : t.free = true) : kidE x (some t) = some (.tmp t) := by
  show (if t.free = true then _ else _) = _
  rw [if_pos h]
theorem kidF_n {x : RV} {xs : List T} {i : Nat} (h : i < xs.length) : kidF x xs (i : Int) = kidE x xs[i]? := by
  unfold kidF
  rw [ixNat_nn (by omega) (by omega)]
  dsimp only
  rw [Int.toNat_natCast]
  cases xs[i]? <;> rfl
theorem kidF_0 {x : RV} {a : T} {r : List T} : kidF x (a :: r) 0 = kidE x (some a) := kidF_n (i := 0) (by simp)
theorem kidF_1 {x : RV} {a b : T} {r : List T} : kidF x (a :: b :: r) 1 = kidE x (some b) := kidF_n (i := 1) (by simp)
theorem kidF_2 {x : RV} {a b c : T} {r : List T} : kidF x (a :: b :: c :: r) 2 = kidE x (some c) := kidF_n (i := 2) (by simp)
@[simp] theorem kidE_str {x : RV} {s : Str} : kidE x (some (.str s)) = some (.tmp (.str s)) := rfl
@[simp] theorem kidE_int {x : RV} {s : Int} : kidE x (some (.int s)) = some (.tmp (.int s)) := rfl
theorem kidF_str {x : RV} {ws : List Str} {i : Nat} {w : Str} (h : ws[i]? = some w) : kidF x (ws.map .str) (i : Int) = some (.tmp (.str w)) := by
  have hlt : i < ws.length := by
    rw [List.getElem?_eq_some_iff] at h
    exact h.1
  rw [kidF_n (by simpa using hlt), List.getElem?_map, h]
  rfl
theorem biT_all {f : Bool} {bs : List Bool} : biT .all [.nd .lst f (bs.map .bl)] = some (.bl (bs.all id)) := by
  show (blsL (bs.map .bl)).map _ = _
  rw [blsL_map]; rfl
theorem biT_any {f : Bool} {bs : List Bool} : biT .any [.nd .lst f (bs.map .bl)] = some (.bl (bs.any id)) := by
  show (blsL (bs.map .bl)).map _ = _
  rw [blsL_map]; rfl
theorem biT_sum {f : Bool} {bs : List Int} : biT .sum [.nd .lst f (bs.map .int)] = some (.int bs.sum) := by
  show (intsL (bs.map .int)).map _ = _
  rw [intsL_map]; rfl
theorem biT_lenL {f : Bool} {xs : List T} : biT .len [.nd .lst f xs] = some (.int xs.length) := rfl
theorem biT_lenT {f : Bool} {xs : List T} : biT .len [.nd .tup f xs] = some (.int xs.length) := rfl
theorem biT_lenC {f : Bool} {xs : List T} : biT .len [.nd .scr f xs] = some (.int xs.length) := rfl
theorem biT_tup {f : Bool} {xs : List T} (h : T.freeL xs = true) (hl : xs.length ≤ 1048576) : biT .tuple [.nd .lst f xs] = some (.tup xs) := by
  show capT xs = _
  unfold capT
  rw [if_pos ⟨hl, h⟩]
theorem biT_tupT {f : Bool} {xs : List T} (h : T.freeL xs = true) (hl : xs.length ≤ 1048576) : biT .tuple [.nd .tup f xs] = some (.tup xs) := by
  show capT xs = _
  unfold capT
  rw [if_pos ⟨hl, h⟩]
theorem biT_list {f : Bool} {xs : List T} (h : T.freeL xs = true) (hl : xs.length ≤ 1048576) : biT .list [.nd .lst f xs] = some (.lst true xs) := by
  show capL xs = _
  unfold capL
  rw [if_pos ⟨hl, h⟩]
theorem biT_listT {f : Bool} {xs : List T} (h : T.freeL xs = true) (hl : xs.length ≤ 1048576) : biT .list [.nd .tup f xs] = some (.lst true xs) := by
  show capL xs = _
  unfold capL
  rw [if_pos ⟨hl, h⟩]
@[simp] theorem mtOk_ix {x : RV} {e : Env} : mtOk .index x e = isLst (lookR e x) := rfl
/-- a class's fields; is it caught as the other -/
def xfs (P : Prg) (c : Nat) : List Str := (P.xf[c]?).getD []
def xms (P : Prg) (c c' : Nat) : Option Bool := (P.xm[c]?).bind fun l => l[c']?
@[simp] theorem KK_xf {P : Prg} {fuel k c : Nat} {lc pn : List Nat} : (KK P fuel k lc pn).xf c = xfs P c := rfl
@[simp] theorem KK_xm {P : Prg} {fuel k c c' : Nat} {lc pn : List Nat} : (KK P fuel k lc pn).xm c c' = xms P c c' := rfl
end TI.M
end
section
set_option maxHeartbeats 4000000
/-! TQ3: reading a yard, on every text. Plain Lean. -/
namespace TI.M
open PySem
abbrev Yard := List Str × List (Str × Str)
abbrev yP (y : Yard) : T := yT y.1 y.2
/-- the paths of some lines behind some paths, or the line that is refused -/
def rdQs (ss : List Str) : List (Str × Str) → Nat → List (List Nat) → Except Nat (List (Str × Str))
  | acc, _, [] => .ok acc
  | acc, i, l :: r => match rdQ ss acc l with
    | none => .error i
    | some p => rdQs ss (acc ++ [p]) (i + 1) r
def rdL : List (List Nat) → Except Nat Yard
  | [] => .error 0
  | h :: r => match rdP h with
    | none => .error 0
    | some ss => match rdQs ss [] 1 r with
      | .error i => .error i
      | .ok ps => .ok (ss, ps)
/-- the yard of a text, or the line that is refused -/
def rdY (l : List Nat) : Except Nat Yard := rdL (splitL 10 l)
theorem rdQ_len {ss : List Str} {qs : List (Str × Str)} {l : List Nat} {p : Str × Str} (h : rdQ ss qs l = some p) : qs.length ≠ 24 ∧ p.1 ∈ ss ∧ p.2 ∈ ss ∧ p.1 ≠ p.2 ∧ p ∉ qs := by
  unfold rdQ rqW at h
  split at h
  · split at h
    · rename_i h1
      cases h
      exact h1.2
    · cases h
  · cases h
theorem rdQs_len {ss : List Str} : ∀ {ls : List (List Nat)} {acc : List (Str × Str)} {i : Nat} {ps : List (Str × Str)}, acc.length ≤ 24 → rdQs ss acc i ls = .ok ps → ps.length ≤ 24
  | [], acc, i, ps, h, e => by cases e; exact h
  | l :: r, acc, i, ps, h, e => by
    unfold rdQs at e
    split at e
    · cases e
    · rename_i p hp
      have := (rdQ_len hp).1
      exact rdQs_len (by simp; omega) e
section
variable {P : Prg} {fuel k f0 f1 f2 f3 f4 xe : Nat}
def rdS (xe : Nat) (s0 s1 s2 : Option T) (S : SO → Prop) : Except Nat (List (Str × Str)) → Prop
  | .ok ps => ∀ o4 o5 o6, S (.nx [s0, s1, s2, some (.nd .lst true (ps.map pT)), o4, o5, o6])
  | .error i => ∀ e, S (.err xe [.int i] (s0 :: e))
theorem read_yard_f1A (h2 : P.fns[f2]? = some n_read_path) (hx : xfs P xe = [Str.ofString "line"]) {ss : List Str} {lines : List (List Nat)} {s0 : Option T} {x0 : Str} (hn : lines.length ≤ 1048000) (hl : ∀ l ∈ lines, l.length < 1048576) {S : SO → Prop}
    (hS : rdS xe s0 (some (sT ss)) (some (sL true (x0 :: lines.map mk))) S (rdQs ss [] 1 lines)) :
    S ((ev (c_read_yard_f1 f2 xe)).s (KK P fuel (k + 1) [] []) [s0, some (sT ss), some (sL true (x0 :: lines.map mk)), some (.nd .lst true []), none, none, none]) := by
  have c2 : (lines.map mk).length ≤ 1048576 := by rw [List.length_map]; omega
  have c1 : T.freeL ((lines.map mk).map T.str) = true := freeL_str
  generalize hQ : lines.map mk = Q at *
  simp -implicitDefEqProofs [c_read_yard_f1, T.free, T.freeL, T.get, Kd.deep, T.set, T.whole, T.wholeL, T.frz, T.frzL, kidF, cmpT, eqT, binT, putT, mmT, biT, truT, itemsK, itemsI, itemsT, slT, Key.t, cut1, capL, c1, c2]
  refine forL_ind (fun r e => ∃ (acc : List (Str × Str)) (rest : List (List Nat)) (i : Nat) (o4 o5 o6 : Option T), r = enumF i ((rest.map mk).map T.str) ∧ e = [s0, some (sT ss), some (sL true (x0 :: Q)), some (.nd .lst true (acc.map pT)), o4, o5, o6] ∧ acc.length ≤ 24 ∧ (∀ l ∈ rest, l.length < 1048576) ∧ rdS xe s0 (some (sT ss)) (some (sL true (x0 :: Q))) S (rdQs ss acc (i + 1) rest)) S ?_ ?_ _ _ ⟨[], lines, 0, none, none, none, by rw [hQ], rfl, by simp, hl, hS⟩
  · rintro x r _ ⟨acc, rest, i, o4, o5, o6, hr, rfl, ha, hrl, hSS⟩ S' hnx hrt herr
    cases rest with
    | nil => cases hr
    | cons l rest =>
      cases hr
      have e1 := f_read_pathA (P := P) (fuel := fuel) (k := k) h2 (ss := ss) (qs := acc) (hrl l List.mem_cons_self) ha
      have e2 : ∀ p : Str × Str, cmpT .isN (pT p) .non = some false := fun _ => rfl
      have m4 : acc.length < 1048576 := by omega
      cases hq : rdQ ss acc l with
      | none =>
        rw [hq] at e1
        have hz : rdQs ss acc (i + 1) (l :: rest) = .error (i + 1) := by unfold rdQs; rw [hq]
        rw [hz] at hSS
        have e3 : cmpT .isN .non .non = some true := rfl
        simp -implicitDefEqProofs [c_read_yard_b1, T.free, T.freeL, T.get, T.set, T.whole, T.wholeL, T.frz, T.frzL, mmT, truT, binT, e1, oQ, e3, m4, hx]
        exact herr _ _ _ (hSS _)
      | some p =>
        rw [hq] at e1
        have hz : rdQs ss acc (i + 1) (l :: rest) = rdQs ss (acc ++ [p]) (i + 1 + 1) rest := by conv => lhs; unfold rdQs; rw [hq]
        rw [hz] at hSS
        have hq2 := (rdQ_len hq).1
        simp -implicitDefEqProofs [c_read_yard_b1, T.free, T.freeL, T.get, T.set, T.whole, T.wholeL, T.frz, T.frzL, mmT, truT, binT, e1, oQ, e2 p, m4, hx]
        exact hnx _ ⟨acc ++ [p], rest, i + 1, some (.int i), some (.str (mk l)), some (pT p), rfl, by simp, by simp; omega, fun l h => hrl l (List.mem_cons_of_mem _ h), hSS⟩
  · rintro e ⟨acc, rest, i, o4, o5, o6, hr, rfl, ha, hrl, hSS⟩
    cases rest with
    | cons _ _ => cases hr
    | nil => exact hSS _ _ _
def oY (xe : Nat) (l : List Nat) : Except Nat Yard → CO
  | .ok y => .ok (yP y) [.str (mk l)]
  | .error i => .err xe [.int i] [.str (mk l)]
theorem f_read_yardA (h0 : P.fns[f0]? = some n_is_name) (h1 : P.fns[f1]? = some (n_are_names f0)) (h2 : P.fns[f2]? = some (n_read_places f1)) (h3 : P.fns[f3]? = some n_read_path) (h4 : P.fns[f4]? = some (n_read_yard f2 xe f3)) (hx : xfs P xe = [Str.ofString "line"])
    {l : List Nat} (hl : l.length < 1048000) : callT P fuel (k + 4) f4 [.str (mk l)] = oY xe l (rdY l) := by
  rw [callT_s h4 rfl]
  have w3 : Str.ofString "\n" = mk [10] := rfl
  have e1 := mtT_split (c := 10) (show l.length < 1048576 by omega)
  have hw : ∀ w ∈ splitL 10 l, w.length < 1048576 := fun w hw => by have := splitL_wlen hw; omega
  have hc : (splitL 10 l).length ≤ 1048000 := Nat.le_trans split_len (by omega)
  have hn : splitL 10 l ≠ [] := splitL_ne
  unfold rdY
  generalize splitL 10 l = ws at *
  cases ws with
  | nil => exact absurd rfl hn
  | cons w ws =>
    have e2 := f_read_placesA (P := P) (fuel := fuel) (k := k) h0 h1 h2 (hw w List.mem_cons_self)
    have e3 : ∀ n : Nat, ixNat (n + 1) 0 = some 0 := fun n => ixNat_nn (by omega) (by omega)
    have e4 : ∀ t, cmpT .isN (sT t) .non = some false := fun _ => rfl
    have e5 : cmpT .isN .non .non = some true := rfl
    cases hq : rdP w with
    | none =>
      rw [hq] at e2
      rw [show rdL (w :: ws) = .error 0 by simp only [rdL, hq], oY]
      simp -implicitDefEqProofs [c_read_yard, T.free, T.freeL, T.get, T.set, T.whole, T.wholeL, T.frz, T.frzL, kidF, truT, w3, e1, e2, e3, oP, e5, hx, oY]
    | some ss =>
      rw [hq] at e2
      have key := fun (S : SO → Prop) hS => read_yard_f1A (P := P) (fuel := fuel) (k := k + 2) (xe := xe) (ss := ss) (s0 := some (.str (mk l))) (x0 := mk w) (S := S) h3 hx (lines := ws) (by simp at hc; omega) (fun l h => hw l (List.mem_cons_of_mem _ h)) hS
      cases hqs : rdQs ss [] 1 ws with
      | error i =>
        rw [show rdL (w :: ws) = .error i by simp only [rdL, hq, hqs], oY]
        obtain ⟨e, he⟩ := key (fun o => ∃ e, o = .err xe [.int i] (some (.str (mk l)) :: e)) (by rw [hqs]; exact fun e => ⟨e, rfl⟩)
        rw [List.map_cons] at e1
        generalize ws.map mk = Q at *
        have he : (ev (c_read_yard_f1 f3 xe)).s (KK P fuel (k + 3) [] []) _ = _ := he
        simp -implicitDefEqProofs [c_read_yard, T.free, T.freeL, T.get, T.set, T.whole, T.wholeL, T.frz, T.frzL, kidF, truT, w3, e1, e2, e3, oP, e4 ss, hx, oY, he]
      | ok ps =>
        rw [show rdL (w :: ws) = .ok (ss, ps) by simp only [rdL, hq, hqs], oY]
        obtain ⟨o4, o5, o6, he⟩ := key (fun o => ∃ o4 o5 o6, o = .nx [some (.str (mk l)), some (sT ss), some (sL true (mk w :: ws.map mk)), some (.nd .lst true (ps.map pT)), o4, o5, o6]) (by rw [hqs]; exact fun o4 o5 o6 => ⟨o4, o5, o6, rfl⟩)
        have c1 : ps.length ≤ 1048576 := by have := rdQs_len (by simp) hqs; omega
        rw [List.map_cons] at e1
        generalize ws.map mk = Q at *
        have he : (ev (c_read_yard_f1 f3 xe)).s (KK P fuel (k + 3) [] []) _ = _ := he
        simp -implicitDefEqProofs [c_read_yard, T.free, T.freeL, T.get, T.set, T.whole, T.wholeL, T.frz, T.frzL, kidF, biT, truT, w3, e1, e2, e3, oP, e4 ss, hx, oY, he, capT, c1, yP]
end
end TI.M
end
section
set_option maxHeartbeats 4000000
/-! TQ4: the law's own reader of yards. Plain Lean. -/
namespace TI.M
open PySem
/-- _law_is_name: 0 _law_word 1 _law_sign -/
def c_law_is_name_e1 : C := (.var 1)
def c_law_is_name_t1 : C := (.cmp .nin (.var 1) (.str (Str.ofString "abcdefghijklmnopqrstuvwxyz")))
def c_law_is_name_l1 : C := (.lc [1] (.tv 1) (.var 0) (c_law_is_name_t1) (c_law_is_name_e1))
def c_law_is_name : C := (.cons (.ret (.andv (.chain .le .le (.int 1) (.bi .len (.cons (.var 0) .nil)) (.int 6)) (.cmp .eq (c_law_is_name_l1) (.lst .nil)))) .nil)
abbrev n_law_is_name : Fn := ⟨1, 2, c_law_is_name⟩
/-- _law_yard_read: 0 _law_text 1 _law_words 2 _law_places 3 _law_k 4 _law_lines_here 5 _law_paths 6 _law_word -/
def c_law_yard_read_e1 : C := (.var 6)
def c_law_yard_read_t1 (f_law_is_name : Nat) : C := (.notv (.call f_law_is_name (.cons (.var 6) .nil)))
def c_law_yard_read_l1 (f_law_is_name : Nat) : C := (.lc [6] (.tv 6) (.var 2) (c_law_yard_read_t1 f_law_is_name) (c_law_yard_read_e1))
def c_law_yard_read_b1 : C := (.cons (.asg (.tv 1) (.mt .split (.ix (.var 4) (.var 3)) (.cons (.str (Str.ofString " ")) .nil))) (.cons (.ifS (.orv (.cmp .ne (.bi .len (.cons (.var 1) .nil)) (.int 3)) (.orv (.cmp .ne (.ix (.var 1) (.int 0)) (.str (Str.ofString "path"))) (.orv (.cmp .nin (.ix (.var 1) (.int 1)) (.var 2)) (.cmp .nin (.ix (.var 1) (.int 2)) (.var 2))))) (.cons (.ret (.var 3)) .nil) .nil) (.cons (.ifS (.orv (.cmp .eq (.ix (.var 1) (.int 1)) (.ix (.var 1) (.int 2))) (.orv (.cmp .inn (.tup (.cons (.ix (.var 1) (.int 1)) (.cons (.ix (.var 1) (.int 2)) .nil))) (.var 5)) (.cmp .eq (.bi .len (.cons (.var 5) .nil)) (.int 24)))) (.cons (.ret (.var 3)) .nil) .nil) (.cons (.expr (.mm .append (.var 5) (.cons (.tup (.cons (.ix (.var 1) (.int 1)) (.cons (.ix (.var 1) (.int 2)) .nil))) .nil))) .nil))))
def c_law_yard_read_f1 : C := (.forS (.tv 3) (.itR2 (.int 1) (.bi .len (.cons (.var 4) .nil))) (c_law_yard_read_b1))
def c_law_yard_read (f_law_is_name : Nat) : C := (.cons (.par (.cons (.tv 4) (.cons (.tv 5) .nil)) (.cons (.mt .split (.var 0) (.cons (.str (Str.ofString "\n")) .nil)) (.cons (.lst .nil) .nil))) (.cons (.asg (.tv 1) (.mt .split (.ix (.var 4) (.int 0)) (.cons (.str (Str.ofString " ")) .nil))) (.cons (.asg (.tv 2) (.sl (.var 1) (.cons (.int 1) .nil) .nil)) (.cons (.ifS (.orv (.cmp .ne (.ix (.var 1) (.int 0)) (.str (Str.ofString "places"))) (.orv (.notv (.chain .le .le (.int 1) (.bi .len (.cons (.var 2) .nil)) (.int 8))) (.cmp .ne (.bi .setlen (.cons (.var 2) .nil)) (.bi .len (.cons (.var 2) .nil))))) (.cons (.ret (.int 0)) .nil) .nil) (.cons (.ifS (.cmp .ne (c_law_yard_read_l1 f_law_is_name) (.lst .nil)) (.cons (.ret (.int 0)) .nil) .nil) (.cons (c_law_yard_read_f1) (.cons (.ret (.tup (.cons (.bi .tuple (.cons (.var 2) .nil)) (.cons (.bi .tuple (.cons (.var 5) .nil)) .nil)))) .nil)))))))
abbrev n_law_yard_read (f_law_is_name : Nat) : Fn := ⟨1, 7, c_law_yard_read f_law_is_name⟩

def oR : Except Nat Yard → T
  | .ok y => yP y
  | .error i => .int i
section
variable {P : Prg} {fuel k f0 f1 : Nat}
def lowc (c : Nat) : Bool := decide (97 ≤ c) && decide (c < 123)
theorem nm_low {s : Str} : Nm s ↔ (1 ≤ s.length ∧ s.length ≤ 6) ∧ ∀ c ∈ L s, lowc c = true := nm_iff
theorem law_is_name_l1 {s : Str} (hl : s.length ≤ 1048576) :
    (ev c_law_is_name_l1).r (KK P fuel k [] []) [some (.str s), none] = .ok (.tmp (.nd .lst true (((L s).filter fun c => !lowc c).map fun c => T.str ⟨#[c]⟩))) [some (.str s), none] := by
  have hl2 : (L s).length ≤ 1048576 := by rw [← L_len]; exact hl
  have hfr : T.freeL (s.cps.toList.map fun c => T.str ⟨#[c]⟩) = true := by
    rw [freeL_all]; intro x hx; obtain ⟨c, _, rfl⟩ := List.mem_map.mp hx; rfl
  simp -implicitDefEqProofs [c_law_is_name_l1, T.free, T.freeL, T.get, Kd.deep, T.set, T.whole, T.wholeL, T.frz, T.frzL, kidF, cmpT, eqT, binT, putT, mmT, biT, truT, itemsK, itemsI, itemsT, slT, Key.t, hl, hfr]
  refine lcG_ty (fun c => T.str ⟨#[c]⟩) (L s) (fun c => !lowc c) (fun c => T.str ⟨#[c]⟩) hl2 (by simp) (by simp) ?_
  intro c hc acc ha R h1 h2
  by_cases hp : 97 ≤ c ∧ c < 123
  · simp -implicitDefEqProofs [c_law_is_name_e1, c_law_is_name_t1, T.free, T.freeL, T.get, Kd.deep, T.set, T.whole, T.wholeL, T.frz, T.frzL, kidF, cmpT, eqT, binT, putT, mmT, biT, truT, itemsK, itemsI, itemsT, slT, Key.t, ha, abc_eq, mk_one, inT_sign, hp.1, hp.2]
    exact ok_ok (h2 (by simp [lowc, hp.1, hp.2]) _ rfl)
  · have hp' : ¬ (97 ≤ c ∧ c < 97 + 26) := hp
    simp -implicitDefEqProofs [c_law_is_name_e1, c_law_is_name_t1, T.free, T.freeL, T.get, Kd.deep, T.set, T.whole, T.wholeL, T.frz, T.frzL, kidF, cmpT, eqT, binT, putT, mmT, biT, truT, itemsK, itemsI, itemsT, slT, Key.t, ha, abc_eq, mk_one, inT_sign, hp']
    exact ok_ok (h1 (by simp [lowc]; omega) _ rfl)
theorem f_law_is_name (hP : P.fns[f0]? = some n_law_is_name) {s : Str} (hl : s.length ≤ 1048576) : callT P fuel (k + 1) f0 [.str s] = .ok (.bl (decide (Nm s))) [.str s] := by
  rw [callT_s hP rfl]
  have e1 := law_is_name_l1 (P := P) (fuel := fuel) (k := k) hl
  by_cases h1 : 1 ≤ s.length
  · have h1' : (1 : Int) ≤ s.length := by omega
    by_cases h2 : s.length ≤ 6
    · have h2' : (s.length : Int) ≤ 6 := by omega
      by_cases h3 : (L s).filter (fun c => !lowc c) = []
      · have h4 : Nm s := nm_low.mpr ⟨⟨h1, h2⟩, by
          intro c hc
          have := List.filter_eq_nil_iff.mp h3 c hc
          simpa using this⟩
        rw [h3, List.map_nil] at e1
        simp -implicitDefEqProofs [c_law_is_name, T.free, T.freeL, T.get, Kd.deep, T.set, T.whole, T.wholeL, T.frz, T.frzL, kidF, cmpT, eqT, binT, putT, mmT, biT, truT, itemsK, itemsI, itemsT, slT, Key.t, hl, h1', h2', e1, h4, show T.eqv (.nd .lst true []) (.nd .lst true []) = some true from rfl]
      · have h4 : ¬ Nm s := fun h => h3 (List.filter_eq_nil_iff.mpr fun c hc => by
          have := (nm_low.mp h).2 c hc
          simpa using this)
        generalize (L s).filter _ = fs at *
        cases fs with
        | nil => exact absurd rfl h3
        | cons c r =>
          have e5 : T.eqv (.nd .lst true ((c :: r).map fun c => T.str ⟨#[c]⟩)) (.nd .lst true []) = some false := rfl
          generalize (c :: r).map (fun c => T.str ⟨#[c]⟩) = zs at *
          simp -implicitDefEqProofs [c_law_is_name, T.free, T.freeL, T.get, Kd.deep, T.set, T.whole, T.wholeL, T.frz, T.frzL, kidF, cmpT, eqT, binT, putT, mmT, biT, truT, itemsK, itemsI, itemsT, slT, Key.t, hl, h1', h2', e1, h4, e5]
    · have h2' : ¬ (s.length : Int) ≤ 6 := by omega
      simp -implicitDefEqProofs [c_law_is_name, T.free, T.freeL, T.get, Kd.deep, T.set, T.whole, T.wholeL, T.frz, T.frzL, kidF, cmpT, eqT, binT, putT, mmT, biT, truT, itemsK, itemsI, itemsT, slT, Key.t, hl, h1', h2']
      intro h; exact h2 (nm_iff.mp h).1.2
  · have h1' : ¬ (1 : Int) ≤ s.length := by omega
    simp -implicitDefEqProofs [c_law_is_name, T.free, T.freeL, T.get, Kd.deep, T.set, T.whole, T.wholeL, T.frz, T.frzL, kidF, cmpT, eqT, binT, putT, mmT, biT, truT, itemsK, itemsI, itemsT, slT, Key.t, hl, h1']
    intro h; exact h1 (nm_iff.mp h).1.1
theorem law_yard_read_l1 (hP : P.fns[f0]? = some n_law_is_name) {ws : List Str} {s0 s1 s3 s4 s5 : Option T} (hw : ∀ s ∈ ws, s.length ≤ 1048576) (hl : ws.length ≤ 1048576) :
    (ev (c_law_yard_read_l1 f0)).r (KK P fuel (k + 1) [] []) [s0, s1, some (sL true ws), s3, s4, s5, none] = .ok (.tmp (sL true (ws.filter fun s => !decide (Nm s)))) [s0, s1, some (sL true ws), s3, s4, s5, none] := by
  simp -implicitDefEqProofs [c_law_yard_read_l1, T.free, T.freeL, T.get, Kd.deep, T.set, T.whole, T.wholeL, T.frz, T.frzL, kidF, cmpT, eqT, binT, putT, mmT, biT, truT, itemsK, itemsI, itemsT, slT, Key.t]
  rw [lcG_map (fun x => match x with | .str c => !decide (Nm c) | _ => false) (fun x => x) (by simpa using hl) (by simp) (by simp)]
  · rw [List.filter_map, List.map_map]
    rfl
  · intro x hx acc ha R h1 h2
    obtain ⟨c, hc, rfl⟩ := List.mem_map.mp hx
    by_cases hn : Nm c
    · simp -implicitDefEqProofs [c_law_yard_read_t1, c_law_yard_read_e1, T.free, T.freeL, T.get, Kd.deep, T.set, T.whole, T.wholeL, T.frz, T.frzL, kidF, cmpT, eqT, binT, putT, mmT, biT, truT, itemsK, itemsI, itemsT, slT, Key.t, ha, f_law_is_name (P := P) (fuel := fuel) (k := k) hP (hw c hc), hn]
      exact ok_ok (h2 (by simp [hn]) _ rfl)
    · simp -implicitDefEqProofs [c_law_yard_read_t1, c_law_yard_read_e1, T.free, T.freeL, T.get, Kd.deep, T.set, T.whole, T.wholeL, T.frz, T.frzL, kidF, cmpT, eqT, binT, putT, mmT, biT, truT, itemsK, itemsI, itemsT, slT, Key.t, ha, f_law_is_name (P := P) (fuel := fuel) (k := k) hP (hw c hc), hn]
      exact ok_ok (h1 (by simp [hn]) _ rfl)
/-- what remains of the lines -/
def rdN (ss : List Str) (S : SO → Prop) (s4 : Option T) : Except Nat (List (Str × Str)) → Prop
  | .ok ps => ∀ s0 o1 o3 o6, S (.nx [s0, o1, some (sL true ss), o3, s4, some (.nd .lst true (ps.map pT)), o6])
  | .error i => ∀ e, S (.rt (.int i) e)
theorem range'_len {i n : Nat} (h : i < n) : List.range' i (n - i) = i :: List.range' (i + 1) (n - (i + 1)) := by
  rw [show n - i = (n - (i + 1)) + 1 by omega, List.range'_succ]
theorem range1_T {m : Nat} : rangeT 1 m = (List.range' 1 m).map fun (i : Nat) => T.int (i : Int) := by
  unfold rangeT
  rw [List.range'_eq_map_range, List.map_map]
  refine List.map_congr_left fun i _ => ?_
  show T.int (1 + (i : Int)) = T.int (((1 + i : Nat) : Int))
  rw [Int.natCast_add]; rfl
theorem law_yard_read_f1 {ss : List Str} {lines : List (List Nat)} {s0 s1 s3 : Option T} (hn : lines.length ≤ 100000) (hl : ∀ l ∈ lines, l.length < 1048576) {S : SO → Prop} (h1 : 1 ≤ lines.length)
    (hS : rdN ss S (some (sL true (lines.map mk))) (rdQs ss [] 1 (lines.drop 1))) :
    S ((ev c_law_yard_read_f1).s (KK P fuel (k + 1) [] []) [s0, s1, some (sL true ss), s3, some (sL true (lines.map mk)), some (.nd .lst true []), none]) := by
  have z1 : ((lines.map mk).length : Int) < 1000000 := by rw [List.length_map]; omega
  have z2 : (-1000000 : Int) < (lines.map mk).length := by omega
  have z3 : (((lines.map mk).length : Int) - 1).toNat = lines.length - 1 := by rw [List.length_map]; omega
  have key : ∀ (j : Nat) (l : List Nat), lines[j]? = some l → ∀ x, kidF x ((lines.map mk).map .str) (j : Int) = some (.tmp (.str (mk l))) := fun j l h x => kidF_str (by rw [List.getElem?_map, h]; rfl)
  generalize hQ : lines.map mk = Q at *
  simp -implicitDefEqProofs [c_law_yard_read_f1, T.free, T.freeL, T.get, T.set, biT, itemsK, z1, z2, z3]
  refine forL_ind (fun r e => ∃ (acc : List (Str × Str)) (j : Nat) (o0 o1 o3 o6 : Option T), r = (List.range' j (lines.length - j)).map (fun (i : Nat) => T.int (i : Int)) ∧ e = [o0, o1, some (sL true ss), o3, some (sL true Q), some (.nd .lst true (acc.map pT)), o6] ∧ acc.length ≤ 24 ∧ rdN ss S (some (sL true Q)) (rdQs ss acc j (lines.drop j))) S ?_ ?_ _ _ ⟨[], 1, s0, s1, s3, none, by rw [range1_T], rfl, by simp, hS⟩
  · rintro x r _ ⟨acc, j, o0, o1, o3, o6, hr, rfl, ha, hSS⟩ S' hnx hrt herr
    by_cases hj : j < lines.length
    · rw [range'_len hj] at hr
      cases hr
      obtain ⟨l, hlj⟩ : ∃ l, lines[j]? = some l := ⟨lines[j], List.getElem?_eq_getElem hj⟩
      have hd : lines.drop j = l :: lines.drop (j + 1) := by
        rw [List.drop_eq_getElem_cons hj]
        rw [List.getElem?_eq_getElem hj] at hlj
        cases hlj; rfl
      rw [hd] at hSS
      have k1 := key j l hlj
      have e1 := mtT_split (c := 32) (hl l (List.mem_of_getElem? hlj))
      have w1 : Str.ofString "path" = mk wPath := rfl
      have w2 : Str.ofString " " = mk [32] := rfl
      have m4 : acc.length < 1048576 := by omega
      have hq : rdQ ss acc l = rqW ss acc ((splitL 32 l).map mk) := rfl
      have hz : rdQs ss acc j (l :: lines.drop (j + 1)) = match rdQ ss acc l with
        | none => .error j
        | some p => rdQs ss (acc ++ [p]) (j + 1) (lines.drop (j + 1)) := by cases h : rdQ ss acc l <;> simp [rdQs, h]
      rw [hz, hq] at hSS
      have hne : (splitL 32 l).map mk ≠ [] := by simpa using splitL_ne
      generalize (splitL 32 l).map mk = ws at *
      by_cases b1 : ws.length = 3
      · match ws, b1 with
        | [w, a, b], _ =>
        rw [rqW_c] at hSS
        by_cases b2 : w = mk wPath
        · by_cases b3 : a ∈ ss
          · by_cases b4 : b ∈ ss
            · by_cases b5 : a = b
              · rw [if_neg fun z => z.2.2.2.2.1 b5] at hSS
                simp -implicitDefEqProofs [c_law_yard_read_b1, T.free, T.freeL, T.get, Kd.deep, T.set, T.whole, T.wholeL, T.frz, T.frzL, cmpT, eqT, binT, putT, mmT, biT, truT, itemsK, itemsI, itemsT, slT, Key.t, kidF_0, kidF_1, kidF_2, k1, e1, w1, w2, b2, b3, b4, b5, m4]
                exact hrt _ _ (hSS _)
              · by_cases b6 : (a, b) ∈ acc
                · rw [if_neg fun z => z.2.2.2.2.2 b6] at hSS
                  simp -implicitDefEqProofs [c_law_yard_read_b1, T.free, T.freeL, T.get, Kd.deep, T.set, T.whole, T.wholeL, T.frz, T.frzL, cmpT, eqT, binT, putT, mmT, biT, truT, itemsK, itemsI, itemsT, slT, Key.t, kidF_0, kidF_1, kidF_2, k1, e1, w1, w2, b2, b3, b4, b5, b6, m4]
                  exact hrt _ _ (hSS _)
                · by_cases b7 : acc.length = 24
                  · rw [if_neg fun z => z.2.1 b7] at hSS
                    have c7 : (acc.length : Int) = 24 := by omega
                    simp -implicitDefEqProofs [c_law_yard_read_b1, T.free, T.freeL, T.get, Kd.deep, T.set, T.whole, T.wholeL, T.frz, T.frzL, cmpT, eqT, binT, putT, mmT, biT, truT, itemsK, itemsI, itemsT, slT, Key.t, kidF_0, kidF_1, kidF_2, k1, e1, w1, w2, b2, b3, b4, b5, b6, b7, c7, m4]
                    exact hrt _ _ (hSS _)
                  · rw [if_pos ⟨b2, b7, b3, b4, b5, b6⟩] at hSS
                    have c7 : ¬ (acc.length : Int) = 24 := by omega
                    simp -implicitDefEqProofs [c_law_yard_read_b1, T.free, T.freeL, T.get, Kd.deep, T.set, T.whole, T.wholeL, T.frz, T.frzL, cmpT, eqT, binT, putT, mmT, biT, truT, itemsK, itemsI, itemsT, slT, Key.t, kidF_0, kidF_1, kidF_2, k1, e1, w1, w2, b2, b3, b4, b5, b6, b7, c7, m4]
                    exact hnx _ ⟨acc ++ [(a, b)], j + 1, _, _, _, _, rfl, by simp [pT]; exact ⟨rfl, rfl, rfl, rfl⟩, by simp; omega, hSS⟩
            · rw [if_neg fun z => b4 z.2.2.2.1] at hSS
              simp -implicitDefEqProofs [c_law_yard_read_b1, T.free, T.freeL, T.get, Kd.deep, T.set, T.whole, T.wholeL, T.frz, T.frzL, cmpT, eqT, binT, putT, mmT, biT, truT, itemsK, itemsI, itemsT, slT, Key.t, kidF_0, kidF_1, kidF_2, k1, e1, w1, w2, b2, b3, b4, m4]
              exact hrt _ _ (hSS _)
          · rw [if_neg fun z => b3 z.2.2.1] at hSS
            simp -implicitDefEqProofs [c_law_yard_read_b1, T.free, T.freeL, T.get, Kd.deep, T.set, T.whole, T.wholeL, T.frz, T.frzL, cmpT, eqT, binT, putT, mmT, biT, truT, itemsK, itemsI, itemsT, slT, Key.t, kidF_0, kidF_1, kidF_2, k1, e1, w1, w2, b2, b3, m4]
            exact hrt _ _ (hSS _)
        · rw [if_neg fun z => b2 z.1] at hSS
          simp -implicitDefEqProofs [c_law_yard_read_b1, T.free, T.freeL, T.get, Kd.deep, T.set, T.whole, T.wholeL, T.frz, T.frzL, cmpT, eqT, binT, putT, mmT, biT, truT, itemsK, itemsI, itemsT, slT, Key.t, kidF_0, kidF_1, kidF_2, k1, e1, w1, w2, b2, m4]
          exact hrt _ _ (hSS _)
      · rw [rqW_n b1] at hSS
        have c1 : ¬ (ws.length : Int) = 3 := by omega
        simp -implicitDefEqProofs [c_law_yard_read_b1, T.free, T.freeL, T.get, Kd.deep, T.set, T.whole, T.wholeL, T.frz, T.frzL, cmpT, eqT, binT, putT, mmT, biT, truT, itemsK, itemsI, itemsT, slT, Key.t, kidF_0, kidF_1, kidF_2, k1, e1, w1, w2, b1, c1, m4]
        exact hrt _ _ (hSS _)
    · rw [show lines.length - j = 0 by omega] at hr
      cases hr
  · rintro e ⟨acc, j, o0, o1, o3, o6, hr, rfl, ha, hSS⟩
    by_cases hj : j < lines.length
    · rw [range'_len hj] at hr; cases hr
    · rw [List.drop_eq_nil_of_le (by omega)] at hSS
      exact hSS _ _ _ _
theorem f_law_yard_read (h0 : P.fns[f0]? = some n_law_is_name) (h1 : P.fns[f1]? = some (n_law_yard_read f0)) {l : List Nat} (hl : l.length < 90000) : callT P fuel (k + 2) f1 [.str (mk l)] = .ok (oR (rdY l)) [.str (mk l)] := by
  rw [callT_s h1 rfl]
  have w1 : Str.ofString "places" = mk wPlaces := rfl
  have w2 : Str.ofString " " = mk [32] := rfl
  have w3 : Str.ofString "\n" = mk [10] := rfl
  have e1 := mtT_split (c := 10) (show l.length < 1048576 by omega)
  have hw : ∀ w ∈ splitL 10 l, w.length < 90000 := fun w hw => by have := splitL_wlen hw; omega
  have hc : (splitL 10 l).length ≤ 90000 := Nat.le_trans split_len (by omega)
  have hn : splitL 10 l ≠ [] := splitL_ne
  unfold rdY
  generalize splitL 10 l = ls at *
  cases ls with
  | nil => exact absurd rfl hn
  | cons h ls =>
    have key := fun (ss : List Str) (S : SO → Prop) hS => law_yard_read_f1 (P := P) (fuel := fuel) (k := k) (ss := ss) (s0 := some (.str (mk l))) (s1 := some (sL true ((splitL 32 h).map mk))) (s3 := none) (lines := h :: ls) (S := S) (by omega) (fun w h => by have := hw w h; omega) (by simp) hS
    have e2 := mtT_split (c := 32) (l := h) (by have := hw h List.mem_cons_self; omega)
    have hww : ∀ s ∈ (splitL 32 h).map mk, s.length ≤ 1048576 := fun s hs => by
      obtain ⟨w, hw', rfl⟩ := List.mem_map.mp hs
      have := splitL_wlen hw'
      have := hw h List.mem_cons_self
      rw [mk_len]; omega
    have hne : (splitL 32 h).map mk ≠ [] := by simpa using splitL_ne
    have hcc : ((splitL 32 h).map mk).length ≤ 100000 := by rw [List.length_map]; exact Nat.le_trans split_len (by have := hw h List.mem_cons_self; omega)
    have hr : rdP h = rdW ((splitL 32 h).map mk) := rfl
    generalize (splitL 32 h).map mk = ws at *
    rw [List.map_cons] at e1 key
    generalize ls.map mk = Q at *
    cases ws with
    | nil => exact absurd rfl hne
    | cons w ws =>
      have e3 : ∀ n : Nat, ixNat (n + 1) 0 = some 0 := fun n => ixNat_nn (by omega) (by omega)
      have c3 : ws.length ≤ 1048576 := by simp at hcc; omega
      rw [rdW_c] at hr
      have e9 : ∀ xs : List Str, T.eqv (sL true xs) (.nd .lst true []) = some (decide (xs = [])) := fun xs => by cases xs <;> rfl
      by_cases b1 : w = mk wPlaces
      · subst b1
        have b1 : mk wPlaces = mk wPlaces := rfl
        by_cases b2 : 1 ≤ ws.length ∧ ws.length ≤ 8
        · have c1 : (1 : Int) ≤ ws.length := by omega
          have c2 : (ws.length : Int) ≤ 8 := by omega
          have c4 : ws.length ≤ 1000 := by omega
          by_cases b3 : ws.Nodup
          · have c5 : (ws.eraseDups.length : Int) = ws.length := by rw [dd_iff.mpr b3]
            have e4 := law_yard_read_l1 (P := P) (fuel := fuel) (k := k) (ws := ws) (s0 := some (.str (mk l))) (s1 := some (sL true (mk wPlaces :: ws))) (s3 := none) (s4 := some (sL true (mk h :: Q))) (s5 := some (.nd .lst true [])) h0 (fun s hs => hww s (List.mem_cons_of_mem _ hs)) (by omega)
            by_cases b4 : ∀ s ∈ ws, Nm s
            · rw [List.filter_eq_nil_iff.mpr (fun s hs => by simp [b4 s hs])] at e4
              rw [if_pos ⟨b1, b2.1, b2.2, b4, b3⟩] at hr
              cases hqs : rdQs ws [] 1 ls with
              | error i =>
                rw [show rdL (h :: ls) = .error i by simp only [rdL, hr, hqs], oR]
                obtain ⟨e, he⟩ := key ws (fun o => ∃ e, o = .rt (.int i) e) (by
                  rw [show (h :: ls).drop 1 = ls from rfl, hqs]
                  exact fun e => ⟨e, rfl⟩)
                simp -implicitDefEqProofs [c_law_yard_read, T.free, T.freeL, T.get, Kd.deep, T.set, T.whole, T.wholeL, T.frz, T.frzL, kidF, cmpT, eqT, binT, putT, mmT, biT, truT, itemsK, itemsI, itemsT, slT, Key.t, w1, w2, w3, e1, e2, e3, cut1, c1, c2, c3, c4, c5, capL, e4, show T.eqv (sL true []) (.nd .lst true []) = some true from rfl, he]
              | ok ps =>
                rw [show rdL (h :: ls) = .ok (ws, ps) by simp only [rdL, hr, hqs], oR]
                have c7 : ps.length ≤ 1048576 := by have := rdQs_len (by simp) hqs; omega
                obtain ⟨o0, o1, o3, o6, he⟩ := key ws (fun o => ∃ o0 o1 o3 o6, o = .nx [o0, o1, some (sL true ws), o3, some (sL true (mk h :: Q)), some (.nd .lst true (ps.map pT)), o6]) (by
                  rw [show (h :: ls).drop 1 = ls from rfl, hqs]
                  exact fun o0 o1 o3 o6 => ⟨o0, o1, o3, o6, rfl⟩)
                simp -implicitDefEqProofs [c_law_yard_read, T.free, T.freeL, T.get, Kd.deep, T.set, T.whole, T.wholeL, T.frz, T.frzL, kidF, cmpT, eqT, binT, putT, mmT, biT, truT, itemsK, itemsI, itemsT, slT, Key.t, w1, w2, w3, e1, e2, e3, cut1, c1, c2, c3, c4, c5, capL, capT, e4, show T.eqv (sL true []) (.nd .lst true []) = some true from rfl, he, c7, yP]
            · have b5 : ws.filter (fun s => !decide (Nm s)) ≠ [] := fun z => b4 fun s hs => by simpa using List.filter_eq_nil_iff.mp z s hs
              rw [if_neg fun z => b4 z.2.2.2.1] at hr
              rw [show rdL (h :: ls) = .error 0 by simp only [rdL, hr], oR]
              generalize ws.filter _ = fs at *
              have e5 := e9 fs
              rw [decide_eq_false b5] at e5
              simp -implicitDefEqProofs [c_law_yard_read, T.free, T.freeL, T.get, Kd.deep, T.set, T.whole, T.wholeL, T.frz, T.frzL, kidF, cmpT, eqT, binT, putT, mmT, biT, truT, itemsK, itemsI, itemsT, slT, Key.t, w1, w2, w3, e1, e2, e3, cut1, c1, c2, c3, c4, c5, b1, capL, e4, e5]
          · have c5 : ¬ (ws.eraseDups.length : Int) = ws.length := fun z => b3 (dd_iff.mp (by omega))
            rw [if_neg fun z => b3 z.2.2.2.2] at hr
            rw [show rdL (h :: ls) = .error 0 by simp only [rdL, hr], oR]
            simp -implicitDefEqProofs [c_law_yard_read, T.free, T.freeL, T.get, Kd.deep, T.set, T.whole, T.wholeL, T.frz, T.frzL, kidF, cmpT, eqT, binT, putT, mmT, biT, truT, itemsK, itemsI, itemsT, slT, Key.t, w1, w2, w3, e1, e2, e3, cut1, c1, c2, c3, c4, c5, b1, capL]
        · rw [if_neg fun z => b2 ⟨z.2.1, z.2.2.1⟩] at hr
          rw [show rdL (h :: ls) = .error 0 by simp only [rdL, hr], oR]
          by_cases b4 : 1 ≤ ws.length
          · have c1 : (1 : Int) ≤ ws.length := by omega
            have c2 : ¬ (ws.length : Int) ≤ 8 := by omega
            simp -implicitDefEqProofs [c_law_yard_read, T.free, T.freeL, T.get, Kd.deep, T.set, T.whole, T.wholeL, T.frz, T.frzL, kidF, cmpT, eqT, binT, putT, mmT, biT, truT, itemsK, itemsI, itemsT, slT, Key.t, w1, w2, w3, e1, e2, e3, cut1, c1, c2, c3, b1, capL]
          · have c1 : ¬ (1 : Int) ≤ ws.length := by omega
            simp -implicitDefEqProofs [c_law_yard_read, T.free, T.freeL, T.get, Kd.deep, T.set, T.whole, T.wholeL, T.frz, T.frzL, kidF, cmpT, eqT, binT, putT, mmT, biT, truT, itemsK, itemsI, itemsT, slT, Key.t, w1, w2, w3, e1, e2, e3, cut1, c1, c3, b1, capL]
      · rw [if_neg fun z => b1 z.1] at hr
        rw [show rdL (h :: ls) = .error 0 by simp only [rdL, hr], oR]
        simp -implicitDefEqProofs [c_law_yard_read, T.free, T.freeL, T.get, Kd.deep, T.set, T.whole, T.wholeL, T.frz, T.frzL, kidF, cmpT, eqT, binT, putT, mmT, biT, truT, itemsK, itemsI, itemsT, slT, Key.t, w1, w2, w3, e1, e2, e3, cut1, c3, b1, capL]
end
end TI.M
end
section
set_option maxHeartbeats 4000000
/-! TQ5: what is a yard; paths from a place. Plain Lean. -/
namespace TI.M
open PySem
/-- are_strings: 0 value 1 item -/
def c_are_strings_e1 : C := (.isi (.var 1) [.str])
def c_are_strings_l1 : C := (.lc [1] (.tv 1) (.var 0) .nil (c_are_strings_e1))
def c_are_strings : C := (.cons (.ret (.andv (.isi (.var 0) [.tuple]) (.bi .all (.cons (c_are_strings_l1) .nil)))) .nil)
abbrev n_are_strings : Fn := ⟨1, 2, c_are_strings⟩
/-- has_form: 0 value 1 path -/
def c_has_form_e1 (f_are_strings : Nat) : C := (.andv (.call f_are_strings (.cons (.var 1) .nil)) (.cmp .eq (.bi .len (.cons (.var 1) .nil)) (.int 2)))
def c_has_form_l1 (f_are_strings : Nat) : C := (.lc [1] (.tv 1) (.ix (.var 0) (.int 1)) .nil (c_has_form_e1 f_are_strings))
def c_has_form (f_are_strings : Nat) : C := (.cons (.ifS (.orv (.notv (.isi (.var 0) [.tuple])) (.orv (.cmp .ne (.bi .len (.cons (.var 0) .nil)) (.int 2)) (.notv (.isi (.ix (.var 0) (.int 1)) [.tuple])))) (.cons (.ret (.bl false)) .nil) .nil) (.cons (.ret (.andv (.call f_are_strings (.cons (.ix (.var 0) (.int 0)) .nil)) (.bi .all (.cons (c_has_form_l1 f_are_strings) .nil)))) .nil))
abbrev n_has_form (f_are_strings : Nat) : Fn := ⟨1, 2, c_has_form f_are_strings⟩
/-- require: 0 condition 1 word 2 at -/
def c_require (x_NoYard : Nat) : C := (.cons (.ifS (.notv (.var 0)) (.cons (.rai x_NoYard (.cons (.var 1) (.cons (.var 2) .nil))) .nil) .nil) .nil)
abbrev n_require (x_NoYard : Nat) : Fn := ⟨3, 3, c_require x_NoYard⟩
/-- check_yard: 0 value 1 places 2 paths 3 index 4 place 5 is_new 6 tail 7 head -/
def c_check_yard_b1 (f_require f_is_name : Nat) : C := (.cons (.expr (.call f_require (.cons (.andv (.call f_is_name (.cons (.var 4) .nil)) (.cmp .nin (.var 4) (.sl (.var 1) .nil (.cons (.var 3) .nil)))) (.cons (.str (Str.ofString "place")) (.cons (.var 3) .nil))))) .nil)
def c_check_yard_f1 (f_require f_is_name : Nat) : C := (.forS (.tt (.cons (.tv 3) (.cons (.tv 4) .nil))) (.itE (.var 1)) (c_check_yard_b1 f_require f_is_name))
def c_check_yard_b2 (f_require : Nat) : C := (.cons (.asg (.tv 5) (.cmp .nin (.tup (.cons (.var 6) (.cons (.var 7) .nil))) (.sl (.var 2) .nil (.cons (.var 3) .nil)))) (.cons (.expr (.call f_require (.cons (.andv (.cmp .inn (.var 6) (.var 1)) (.andv (.cmp .inn (.var 7) (.var 1)) (.andv (.cmp .ne (.var 6) (.var 7)) (.var 5)))) (.cons (.str (Str.ofString "path")) (.cons (.var 3) .nil))))) .nil))
def c_check_yard_f2 (f_require : Nat) : C := (.forS (.tt (.cons (.tv 3) (.cons (.tt (.cons (.tv 6) (.cons (.tv 7) .nil))) .nil))) (.itE (.var 2)) (c_check_yard_b2 f_require))
def c_check_yard (f_require f_has_form f_is_name : Nat) : C := (.cons (.expr (.call f_require (.cons (.call f_has_form (.cons (.var 0) .nil)) (.cons (.str (Str.ofString "form")) (.cons (.int 0) .nil))))) (.cons (.asg (.tt (.cons (.tv 1) (.cons (.tv 2) .nil))) (.var 0)) (.cons (.expr (.call f_require (.cons (.chain .le .le (.int 1) (.bi .len (.cons (.var 1) .nil)) (.glb (Str.ofString "PLACES") (.inl 8))) (.cons (.str (Str.ofString "places")) (.cons (.int 0) .nil))))) (.cons (.expr (.call f_require (.cons (.cmp .le (.bi .len (.cons (.var 2) .nil)) (.glb (Str.ofString "PATHS") (.inl 24))) (.cons (.str (Str.ofString "paths")) (.cons (.int 0) .nil))))) (.cons (c_check_yard_f1 f_require f_is_name) (.cons (c_check_yard_f2 f_require) (.cons (.ret (.bl true)) .nil)))))))
abbrev n_check_yard (f_require f_has_form f_is_name : Nat) : Fn := ⟨1, 8, c_check_yard f_require f_has_form f_is_name⟩
/-- require_place: 0 yard 1 place -/
def c_require_place : C := (.cons (.ifS (.cmp .nin (.var 1) (.ix (.var 0) (.int 0))) (.cons (.tst 0) .nil) .nil) .nil)
abbrev n_require_place : Fn := ⟨2, 2, c_require_place⟩
/-- paths_from: 0 yard 1 place 2 tail 3 head -/
def c_paths_from_e1 : C := (.var 3)
def c_paths_from_t1 : C := (.cmp .eq (.var 2) (.var 1))
def c_paths_from_l1 : C := (.lc [2, 3] (.tt (.cons (.tv 2) (.cons (.tv 3) .nil))) (.ix (.var 0) (.int 1)) (c_paths_from_t1) (c_paths_from_e1))
def c_paths_from (f_require_place : Nat) : C := (.cons (.expr (.call f_require_place (.cons (.var 0) (.cons (.var 1) .nil)))) (.cons (.ret (.bi .tuple (.cons (c_paths_from_l1) .nil))) .nil))
abbrev n_paths_from (f_require_place : Nat) : Fn := ⟨2, 4, c_paths_from f_require_place⟩

/-- plain data -/
inductive Dv : T → Prop
  | non : Dv .non
  | bl (b) : Dv (.bl b)
  | int (i) : Dv (.int i)
  | str (s) : Dv (.str s)
  | tup (xs) : (∀ x ∈ xs, Dv x) → Dv (.nd .tup false xs)
theorem Dv.free {t : T} (h : Dv t) : t.free = true := by
  induction h with
  | tup xs h ih => simp only [T.free, Bool.not_false, Bool.true_and]; exact freeL_all.mpr ih
  | _ => rfl
def isS : T → Bool
  | .str _ => true
  | _ => false
def isT : T → Bool
  | .nd .tup _ _ => true
  | _ => false
theorem Dv.isStr {t : T} (h : Dv t) : clT .str t = some (isS t) := by cases h <;> rfl
theorem Dv.isTup {t : T} (h : Dv t) : clT .tuple t = some (isT t) := by cases h <;> rfl
def areS : T → Bool
  | .nd .tup _ xs => xs.all isS
  | _ => false
def twoS (t : T) : Bool := areS t && (match t with
  | .nd .tup _ xs => xs.length == 2
  | _ => false)
def twoP : T → Bool
  | .nd .tup _ ps => ps.all twoS
  | _ => false
def hasF : T → Bool
  | .nd .tup _ xs => (match xs with
    | [a, b] => areS a && twoP b
    | _ => false)
  | _ => false
theorem allS : ∀ {xs : List T}, (∀ x ∈ xs, isS x = true) → ∃ ss : List Str, xs = ss.map .str
  | [], _ => ⟨[], rfl⟩
  | x :: r, h => by
    obtain ⟨ss, e⟩ := allS (xs := r) fun y hy => h y (List.mem_cons_of_mem _ hy)
    have h1 := h x List.mem_cons_self
    cases x with
    | str s => exact ⟨s :: ss, by rw [e]; rfl⟩
    | _ => cases h1
theorem areS_of {t : T} (hd : Dv t) (h : areS t = true) : ∃ ss, t = sT ss := by
  cases hd with
  | tup xs hx =>
    obtain ⟨ss, e⟩ := allS (List.all_eq_true.mp h)
    exact ⟨ss, by rw [e]⟩
  | _ => cases h
theorem twoS_of {t : T} (hd : Dv t) (h : twoS t = true) : ∃ p, t = pT p := by
  unfold twoS at h
  rw [Bool.and_eq_true] at h
  obtain ⟨ss, rfl⟩ := areS_of hd h.1
  have h2 : (ss.map T.str).length = 2 := by simpa using h.2
  rw [List.length_map] at h2
  match ss, h2 with
  | [a, b], _ => exact ⟨(a, b), rfl⟩
theorem all2 : ∀ {xs : List T}, (∀ x ∈ xs, Dv x) → (∀ x ∈ xs, twoS x = true) → ∃ ps : List (Str × Str), xs = ps.map pT
  | [], _, _ => ⟨[], rfl⟩
  | x :: r, hd, h => by
    obtain ⟨ps, e⟩ := all2 (xs := r) (fun y hy => hd y (List.mem_cons_of_mem _ hy)) fun y hy => h y (List.mem_cons_of_mem _ hy)
    obtain ⟨p, e2⟩ := twoS_of (hd x List.mem_cons_self) (h x List.mem_cons_self)
    exact ⟨p :: ps, by rw [e, e2]; rfl⟩
theorem hasF_of {t : T} (hd : Dv t) (h : hasF t = true) : ∃ ss ps, t = yT ss ps := by
  cases hd with
  | tup xs hx =>
    match xs, hx, h with
    | [a, b], hx, h =>
      have hb := hx b (by simp)
      cases hb with
      | tup ps hp =>
        have h' : (areS a && ps.all twoS) = true := h
        rw [Bool.and_eq_true] at h'
        obtain ⟨ss, rfl⟩ := areS_of (hx a (by simp)) h'.1
        obtain ⟨qs, rfl⟩ := all2 hp (List.all_eq_true.mp h'.2)
        exact ⟨ss, qs, rfl⟩
      | _ => simp [hasF, twoP] at h
    | [], _, h => cases h
    | [_], _, h => cases h
    | _ :: _ :: _ :: _, _, h => cases h
  | _ => cases h
theorem hasF_yT {ss : List Str} {ps : List (Str × Str)} : hasF (yT ss ps) = true := by
  show ((ss.map T.str).all isS && (ps.map pT).all twoS) = true
  rw [Bool.and_eq_true, List.all_eq_true, List.all_eq_true]
  refine ⟨fun x hx => ?_, fun x hx => ?_⟩
  · obtain ⟨s, _, rfl⟩ := List.mem_map.mp hx; rfl
  · obtain ⟨s, _, rfl⟩ := List.mem_map.mp hx; rfl
section
variable {P : Prg} {fuel k f0 f1 f2 f3 f4 xe : Nat}
theorem are_strings_l1 {xs : List T} {pn : List Nat} (hd : ∀ x ∈ xs, Dv x) (hl : xs.length ≤ 1048576) :
    (ev c_are_strings_l1).r (KK P fuel k [] []) [some (.nd .tup false xs), none] = .ok (.tmp (.nd .lst true ((xs.map isS).map .bl))) [some (.nd .tup false xs), none] := by
  have hf : T.freeL xs = true := freeL_all.mpr fun x hx => (hd x hx).free
  simp -implicitDefEqProofs [c_are_strings_l1, T.free, T.freeL, T.get, Kd.deep, T.set, T.whole, T.wholeL, T.frz, T.frzL, kidF, cmpT, eqT, binT, putT, mmT, biT, truT, itemsK, itemsI, itemsT, slT, Key.t, hf]
  have := lcG_all (own := [1]) (K := KK P fuel k [] []) (tg := .tv 1) (tst := .nil) (elt := c_are_strings_e1) (e := [some (.nd .tup false xs), none]) id xs (fun x => T.bl (isS x)) hl (by simp) (by simp) (by
    intro x hx acc ha R h1
    have fx := (hd x hx).free
    have cx := (hd x hx).isStr
    cases hb : isS x <;> rw [hb] at h1 cx <;> simp -implicitDefEqProofs [c_are_strings_e1, T.free, T.freeL, T.get, Kd.deep, T.set, T.whole, T.wholeL, T.frz, T.frzL, kidF, cmpT, eqT, binT, putT, mmT, biT, truT, itemsK, itemsI, itemsT, slT, Key.t, ha, fx, anyO, cx] <;> exact ok_ok (h1 _ rfl))
  rw [List.map_id] at this
  rw [this]
  rfl
theorem f_are_strings (hP : P.fns[f0]? = some n_are_strings) {t : T} (hd : Dv t) (hl : ∀ xs, t = .nd .tup false xs → xs.length ≤ 1048576) : callT P fuel (k + 1) f0 [t] = .ok (.bl (areS t)) [t] := by
  rw [callT_s hP rfl]
  have ft := hd.free
  cases hd with
  | tup xs hx =>
    have e1 := are_strings_l1 (P := P) (fuel := fuel) (k := k) (pn := []) hx (hl xs rfl)
    have hf : T.freeL xs = true := freeL_all.mpr fun x hx' => (hx x hx').free
    have e2 : (xs.map isS).all id = areS (.nd .tup false xs) := by rw [List.all_map]; rfl
    generalize xs.map isS = bs at *
    generalize areS (.nd .tup false xs) = z at *
    simp -implicitDefEqProofs [c_are_strings, T.free, T.freeL, T.get, Kd.deep, T.set, T.whole, T.wholeL, T.frz, T.frzL, kidF, cmpT, eqT, binT, putT, mmT, biT, truT, itemsK, itemsI, itemsT, slT, Key.t, hf, anyO, clT, tyT, clY, subY, e1]
    rw [← e2]
  | _ => simp -implicitDefEqProofs [c_are_strings, T.free, T.freeL, T.get, Kd.deep, T.set, T.whole, T.wholeL, T.frz, T.frzL, kidF, cmpT, eqT, binT, putT, mmT, biT, truT, itemsK, itemsI, itemsT, slT, Key.t, anyO, clT, tyT, clY, subY, areS]
def Ld (t : T) : Prop := ∀ xs, t = .nd .tup false xs → xs.length ≤ 1048576 ∧ ∀ x ∈ xs, ∀ ys, x = .nd .tup false ys → ys.length ≤ 1048576 ∧ ∀ y ∈ ys, ∀ zs, y = .nd .tup false zs → zs.length ≤ 1048576
theorem has_form_l1 (hP : P.fns[f0]? = some n_are_strings) {a : T} {xs : List T} (ha : Dv a) (hd : ∀ x ∈ xs, Dv x) (hl : xs.length ≤ 1048576) (hll : ∀ x ∈ xs, ∀ ys, x = .nd .tup false ys → ys.length ≤ 1048576) :
    (ev (c_has_form_l1 f0)).r (KK P fuel (k + 1) [] []) [some (.nd .tup false [a, .nd .tup false xs]), none] = .ok (.tmp (.nd .lst true ((xs.map twoS).map .bl))) [some (.nd .tup false [a, .nd .tup false xs]), none] := by
  have hf : T.freeL xs = true := freeL_all.mpr fun x hx => (hd x hx).free
  have fa := ha.free
  have e0 : T.free (.nd .tup false xs) = true := by simp [T.free, hf]
  have e9 : T.free (.nd .tup false [a, .nd .tup false xs]) = true := by simp [T.free, T.freeL, hf, fa]
  generalize hv : T.nd .tup false [a, .nd .tup false xs] = v at *
  have e8 : ∀ x, ixR x v (.int 1) = some (.tmp (.nd .tup false xs)) := fun x => by
    rw [← hv, ixR_tup, kidF_1, kidE_s e0]
  simp -implicitDefEqProofs [c_has_form_l1, T.free, T.freeL, T.get, Kd.deep, T.set, T.whole, T.wholeL, T.frz, T.frzL, cmpT, eqT, binT, putT, mmT, biT, truT, itemsK, itemsI, itemsT, slT, Key.t, kidF_0, kidF_1, kidF_2, hf, fa, e9, e8, e0]
  have := lcG_all (own := [1]) (K := KK P fuel (k + 1) [] []) (tg := .tv 1) (tst := .nil) (elt := c_has_form_e1 f0) (e := [some v, none]) id xs (fun x => T.bl (twoS x)) hl (by simp [e9]) (by simp) (by
    intro x hx acc ha R h1
    have fx := (hd x hx).free
    have e1 := f_are_strings (P := P) (fuel := fuel) (k := k) hP (hd x hx) (hll x hx)
    have hdx := hd x hx
    cases hb : areS x with
    | false =>
      rw [show twoS x = false by unfold twoS; rw [hb]; rfl] at h1
      rw [hb] at e1
      simp -implicitDefEqProofs [c_has_form_e1, T.free, T.freeL, T.get, Kd.deep, T.set, T.whole, T.wholeL, T.frz, T.frzL, kidF, cmpT, eqT, binT, putT, mmT, biT, truT, itemsK, itemsI, itemsT, slT, Key.t, ha, fx, e1]
      exact ok_ok (h1 _ rfl)
    | true =>
      obtain ⟨ss, rfl⟩ := areS_of hdx hb
      rw [hb] at e1
      by_cases h2 : ss.length = 2
      · have h2' : (ss.length : Int) = 2 := by omega
        simp -implicitDefEqProofs [c_has_form_e1, T.free, T.freeL, T.get, Kd.deep, T.set, T.whole, T.wholeL, T.frz, T.frzL, kidF, cmpT, eqT, binT, putT, mmT, biT, truT, itemsK, itemsI, itemsT, slT, Key.t, ha, fx, e1, h2, h2']
        rw [show twoS (sT ss) = true by unfold twoS; rw [hb]; simp [h2]] at h1
        exact ok_ok (h1 _ rfl)
      · have h2' : ¬ (ss.length : Int) = 2 := by omega
        simp -implicitDefEqProofs [c_has_form_e1, T.free, T.freeL, T.get, Kd.deep, T.set, T.whole, T.wholeL, T.frz, T.frzL, kidF, cmpT, eqT, binT, putT, mmT, biT, truT, itemsK, itemsI, itemsT, slT, Key.t, ha, fx, e1, h2, h2']
        rw [show twoS (sT ss) = false by unfold twoS; rw [hb]; simp [h2]] at h1
        exact ok_ok (h1 _ rfl))
  rw [List.map_id] at this
  rw [this]
  rfl
theorem f_has_form (h0 : P.fns[f0]? = some n_are_strings) (h1 : P.fns[f1]? = some (n_has_form f0)) {t : T} (hd : Dv t) (hl : Ld t) : callT P fuel (k + 2) f1 [t] = .ok (.bl (hasF t)) [t] := by
  rw [callT_s h1 rfl]
  have ft := hd.free
  cases hd with
  | tup xs hx =>
    by_cases hl2 : xs.length = 2
    · match xs, hl2 with
      | [a, b], _ =>
      have da := hx a (by simp)
      have db := hx b (by simp)
      have fa := da.free
      have fb := db.free
      have cb := db.isTup
      have e8 : ∀ x, ixR x (.nd .tup false [a, b]) (.int 1) = some (.tmp b) := fun x => by rw [ixR_tup, kidF_1, kidE_s fb]
      have e7 : ∀ x, ixR x (.nd .tup false [a, b]) (.int 0) = some (.tmp a) := fun x => by rw [ixR_tup, kidF_0, kidE_s fa]
      cases db with
      | tup ps hp =>
        have e1 := f_are_strings (P := P) (fuel := fuel) (k := k) h0 da fun ys hy => ((hl _ rfl).2 a (by simp) ys hy).1
        have e2 := has_form_l1 (P := P) (fuel := fuel) (k := k) h0 da hp ((hl _ rfl).2 _ (by simp) ps rfl).1 fun x hx => ((hl _ rfl).2 _ (by simp) ps rfl).2 x hx
        have e3 : hasF (.nd .tup false [a, .nd .tup false ps]) = (areS a && (ps.map twoS).all id) := by rw [List.all_map]; rfl
        rw [e3]
        generalize ps.map twoS = bs at *
        generalize hv : T.nd .tup false [a, .nd .tup false ps] = v at *
        have e4 : biT .len [v] = some (.int 2) := by rw [← hv]; rfl
        have e5 : clT .tuple v = some true := by rw [← hv]; rfl
        cases hb : areS a <;> rw [hb] at e1 <;> simp -implicitDefEqProofs [c_has_form, T.free, T.freeL, T.get, T.set, cmpT, eqT, truT, biT_all, fa, fb, ft, e1, e2, e4, e5, e7, e8, anyO, cb, isT]
      | _ => simp -implicitDefEqProofs [c_has_form, T.free, T.freeL, T.get, Kd.deep, T.set, T.whole, T.wholeL, T.frz, T.frzL, kidF, cmpT, eqT, binT, putT, mmT, biT, truT, itemsK, itemsI, itemsT, slT, Key.t, ft, fa, fb, e7, e8, anyO, clT, tyT, clY, subY, hasF, twoP]
    · have h2 : ¬ (xs.length : Int) = 2 := by omega
      have h3 : hasF (.nd .tup false xs) = false := by
        match xs, hl2 with
        | [], _ => rfl
        | [_], _ => rfl
        | [_, _], h => exact absurd rfl h
        | _ :: _ :: _ :: _, _ => rfl
      have hf : T.freeL xs = true := freeL_all.mpr fun x hx' => (hx x hx').free
      simp -implicitDefEqProofs [c_has_form, T.free, T.freeL, T.get, Kd.deep, T.set, T.whole, T.wholeL, T.frz, T.frzL, kidF, cmpT, eqT, binT, putT, mmT, biT, truT, itemsK, itemsI, itemsT, slT, Key.t, ft, anyO, clT, tyT, clY, subY, h2, h3, hf]
  | _ => simp -implicitDefEqProofs [c_has_form, T.free, T.freeL, T.get, Kd.deep, T.set, T.whole, T.wholeL, T.frz, T.frzL, kidF, cmpT, eqT, binT, putT, mmT, biT, truT, itemsK, itemsI, itemsT, slT, Key.t, anyO, clT, tyT, clY, subY, hasF]
theorem f_require (hP : P.fns[f0]? = some (n_require xe)) (hx : xfs P xe = [Str.ofString "word", Str.ofString "at"]) {b : Bool} {w : Str} {i : Int} : callT P fuel (k + 1) f0 [.bl b, .str w, .int i] = if b = true then .ok .non [.bl b, .str w, .int i] else .err xe [.str w, .int i] [.bl b, .str w, .int i] := by
  rw [callT_s hP rfl]
  cases b <;> simp -implicitDefEqProofs [c_require, T.free, T.freeL, T.get, Kd.deep, T.set, T.whole, T.wholeL, T.frz, T.frzL, kidF, cmpT, eqT, binT, putT, mmT, biT, truT, itemsK, itemsI, itemsT, slT, Key.t, hx]
end
/-- the first place that is not allowed; the first path -/
def ckA (ss : List Str) : Nat → List Str → Option Nat
  | _, [] => none
  | i, s :: r => if Nm s ∧ s ∉ ss.take i then ckA ss (i + 1) r else some i
def ckB (ss : List Str) (ps : List (Str × Str)) : Nat → List (Str × Str) → Option Nat
  | _, [] => none
  | i, p :: r => if p.1 ∈ ss ∧ p.2 ∈ ss ∧ p.1 ≠ p.2 ∧ p ∉ ps.take i then ckB ss ps (i + 1) r else some i
/-- why it is no yard -/
def ckY (ss : List Str) (ps : List (Str × Str)) : Option (Str × Nat) :=
  if 1 ≤ ss.length ∧ ss.length ≤ 8 then (if ps.length ≤ 24 then (match ckA ss 0 ss with
    | some i => some (Str.ofString "place", i)
    | none => match ckB ss ps 0 ps with
      | some i => some (Str.ofString "path", i)
      | none => none) else some (Str.ofString "paths", 0)) else some (Str.ofString "places", 0)
/-- what remains of a walk that may raise -/
def rdE (xe : Nat) (w : Str) (E : Env → Prop) (S : SO → Prop) : Option Nat → Prop
  | none => ∀ e, E e → S (.nx e)
  | some i => ∀ e, E e → S (.err xe [.str w, .int i] e)
def oE (xe : Nat) (t : T) : Option (Str × Nat) → CO
  | none => .ok (.bl true) [t]
  | some (w, i) => .err xe [.str w, .int i] [t]
section
variable {P : Prg} {fuel k f0 f1 f2 f3 f4 xe : Nat}
theorem cut_pre {α : Type} {l : List α} {i : Nat} (h : i ≤ l.length) : cut l none (some (i : Int)) = l.take i := cut_take h
theorem check_yard_f1 (h0 : P.fns[f0]? = some (n_require xe)) (h1 : P.fns[f1]? = some n_is_name) (hx : xfs P xe = [Str.ofString "word", Str.ofString "at"]) {ss : List Str} {s0 s2 : Option T} (hn : ss.length ≤ 1000) (hl : ∀ s ∈ ss, s.length ≤ 1048576) {S : SO → Prop}
    (hS : rdE xe (Str.ofString "place") (fun e => ∃ o3 o4, e = [s0, some (sT ss), s2, o3, o4, none, none, none]) S (ckA ss 0 ss)) :
    S ((ev (c_check_yard_f1 f0 f1)).s (KK P fuel (k + 1) [] []) [s0, some (sT ss), s2, none, none, none, none, none]) := by
  simp -implicitDefEqProofs [c_check_yard_f1, T.free, T.freeL, T.get, Kd.deep, T.set, T.whole, T.wholeL, T.frz, T.frzL, kidF, cmpT, eqT, binT, putT, mmT, biT, truT, itemsK, itemsI, itemsT, slT, Key.t]
  refine forL_ind (fun r e => ∃ (pre rest : List Str) (o3 o4 : Option T), ss = pre ++ rest ∧ r = enumF pre.length (rest.map T.str) ∧ e = [s0, some (sT ss), s2, o3, o4, none, none, none] ∧ rdE xe (Str.ofString "place") (fun e => ∃ o3 o4, e = [s0, some (sT ss), s2, o3, o4, none, none, none]) S (ckA ss pre.length rest)) S ?_ ?_ _ _ ⟨[], ss, none, none, rfl, rfl, rfl, hS⟩
  · rintro x r _ ⟨pre, rest, o3, o4, hs, hr, rfl, hSS⟩ S' hnx hrt herr
    cases rest with
    | nil => cases hr
    | cons s rest =>
      cases hr
      have hm : s ∈ ss := by rw [hs]; simp
      have hp : ss.take pre.length = pre := by rw [hs]; simp
      have hpl : pre.length < ss.length := by rw [hs]; simp
      have e1 := f_is_name (P := P) (fuel := fuel) (k := k) h1 (hl s hm)
      have e2 := fun b w i => f_require (P := P) (fuel := fuel) (k := k) (b := b) (w := w) (i := i) h0 hx
      have hz : ckA ss pre.length (s :: rest) = if Nm s ∧ s ∉ pre then ckA ss (pre.length + 1) rest else some pre.length := by
        show (if Nm s ∧ s ∉ ss.take pre.length then _ else _) = _
        rw [hp]
      rw [hz] at hSS
      have c0 : cut (ss.map T.str) none (some (pre.length : Int)) = pre.map T.str := by
        rw [cut_pre (by rw [List.length_map]; omega), ← List.map_take, hp]
      have c1 : capT (pre.map T.str) = some (sT pre) := by unfold capT; rw [if_pos ⟨by rw [List.length_map]; show _ ≤ 1048576; omega, freeL_str⟩]
      have c2 : T.freeL (ss.map T.str) = true := freeL_str
      have c3 : T.freeL (pre.map T.str) = true := freeL_str
      by_cases b1 : Nm s
      · by_cases b2 : s ∈ pre
        · rw [if_neg fun z => z.2 b2] at hSS
          simp -implicitDefEqProofs [c_check_yard_b1, T.free, T.freeL, T.get, Kd.deep, T.set, T.whole, T.wholeL, T.frz, T.frzL, kidF, cmpT, eqT, binT, putT, mmT, biT, truT, itemsK, itemsI, itemsT, slT, Key.t, e1, e2, b1, b2, c0, c1, c2, c3]
          exact herr _ _ _ (hSS _ ⟨_, _, rfl⟩)
        · rw [if_pos ⟨b1, b2⟩] at hSS
          simp -implicitDefEqProofs [c_check_yard_b1, T.free, T.freeL, T.get, Kd.deep, T.set, T.whole, T.wholeL, T.frz, T.frzL, kidF, cmpT, eqT, binT, putT, mmT, biT, truT, itemsK, itemsI, itemsT, slT, Key.t, e1, e2, b1, b2, c0, c1, c2, c3]
          exact hnx _ ⟨pre ++ [s], rest, _, _, by rw [hs]; simp, by simp, rfl, by rw [List.length_append]; exact hSS⟩
      · rw [if_neg fun z => b1 z.1] at hSS
        simp -implicitDefEqProofs [c_check_yard_b1, T.free, T.freeL, T.get, Kd.deep, T.set, T.whole, T.wholeL, T.frz, T.frzL, kidF, cmpT, eqT, binT, putT, mmT, biT, truT, itemsK, itemsI, itemsT, slT, Key.t, e1, e2, b1, c0, c1, c2, c3]
        exact herr _ _ _ (hSS _ ⟨_, _, rfl⟩)
  · rintro e ⟨pre, rest, o3, o4, hs, hr, rfl, hSS⟩
    cases rest with
    | cons _ _ => cases hr
    | nil => exact hSS _ ⟨_, _, rfl⟩
theorem check_yard_f2 (h0 : P.fns[f0]? = some (n_require xe)) (hx : xfs P xe = [Str.ofString "word", Str.ofString "at"]) {ss : List Str} {ps : List (Str × Str)} {s0 s3 s4 : Option T} (hn : ps.length ≤ 1000) {S : SO → Prop}
    (hS : rdE xe (Str.ofString "path") (fun e => ∃ o3 o5 o6 o7, e = [s0, some (sT ss), some (.nd .tup false (ps.map pT)), o3, s4, o5, o6, o7]) S (ckB ss ps 0 ps)) :
    S ((ev (c_check_yard_f2 f0)).s (KK P fuel (k + 1) [] []) [s0, some (sT ss), some (.nd .tup false (ps.map pT)), s3, s4, none, none, none]) := by
  have f0' : T.freeL (ps.map pT) = true := freeL_pT
  simp -implicitDefEqProofs [c_check_yard_f2, T.free, T.freeL, T.get, Kd.deep, T.set, T.whole, T.wholeL, T.frz, T.frzL, kidF, cmpT, eqT, binT, putT, mmT, biT, truT, itemsK, itemsI, itemsT, slT, Key.t, f0']
  refine forL_ind (fun r e => ∃ (pre rest : List (Str × Str)) (o3 o5 o6 o7 : Option T), ps = pre ++ rest ∧ r = enumF pre.length (rest.map pT) ∧ e = [s0, some (sT ss), some (.nd .tup false (ps.map pT)), o3, s4, o5, o6, o7] ∧ rdE xe (Str.ofString "path") (fun e => ∃ o3 o5 o6 o7, e = [s0, some (sT ss), some (.nd .tup false (ps.map pT)), o3, s4, o5, o6, o7]) S (ckB ss ps pre.length rest)) S ?_ ?_ _ _ ⟨[], ps, _, _, _, _, rfl, rfl, rfl, hS⟩
  · rintro x r _ ⟨pre, rest, o3, o5, o6, o7, hs, hr, rfl, hSS⟩ S' hnx hrt herr
    cases rest with
    | nil => cases hr
    | cons p rest =>
      cases hr
      have hp : ps.take pre.length = pre := by rw [hs]; simp
      have hpl : pre.length < ps.length := by rw [hs]; simp
      have e2 := fun b w i => f_require (P := P) (fuel := fuel) (k := k) (b := b) (w := w) (i := i) h0 hx
      have hz : ckB ss ps pre.length (p :: rest) = if p.1 ∈ ss ∧ p.2 ∈ ss ∧ p.1 ≠ p.2 ∧ p ∉ pre then ckB ss ps (pre.length + 1) rest else some pre.length := by
        show (if p.1 ∈ ss ∧ p.2 ∈ ss ∧ p.1 ≠ p.2 ∧ p ∉ ps.take pre.length then _ else _) = _
        rw [hp]
      rw [hz] at hSS
      have c0 : cut (ps.map pT) none (some (pre.length : Int)) = pre.map pT := by
        rw [cut_pre (by rw [List.length_map]; omega), ← List.map_take, hp]
      have c1 : capT (pre.map pT) = some (.nd .tup false (pre.map pT)) := by unfold capT; rw [if_pos ⟨by rw [List.length_map]; show _ ≤ 1048576; omega, freeL_pT⟩]
      have c3 : T.freeL (pre.map pT) = true := freeL_pT
      obtain ⟨a, b⟩ := p
      dsimp only at hSS
      generalize hQ : ps.map pT = Q at *
      by_cases b1 : a ∈ ss
      · by_cases b2 : b ∈ ss
        · by_cases b3 : a = b
          · rw [if_neg fun z => z.2.2.1 b3] at hSS
            simp -implicitDefEqProofs [c_check_yard_b2, T.free, T.freeL, T.get, Kd.deep, T.set, T.whole, T.wholeL, T.frz, T.frzL, kidF, cmpT, eqT, binT, putT, mmT, biT, truT, itemsK, itemsI, itemsT, slT, Key.t, pT, e2, b1, b2, b3, c0, c1, f0', c3]
            exact herr _ _ _ (hSS _ ⟨_, _, _, _, rfl⟩)
          · by_cases b4 : (a, b) ∈ pre
            · rw [if_neg fun z => z.2.2.2 b4] at hSS
              simp -implicitDefEqProofs [c_check_yard_b2, T.free, T.freeL, T.get, Kd.deep, T.set, T.whole, T.wholeL, T.frz, T.frzL, kidF, cmpT, eqT, binT, putT, mmT, biT, truT, itemsK, itemsI, itemsT, slT, Key.t, pT, e2, b1, b2, b3, b4, c0, c1, f0', c3]
              exact herr _ _ _ (hSS _ ⟨_, _, _, _, rfl⟩)
            · rw [if_pos ⟨b1, b2, b3, b4⟩] at hSS
              simp -implicitDefEqProofs [c_check_yard_b2, T.free, T.freeL, T.get, Kd.deep, T.set, T.whole, T.wholeL, T.frz, T.frzL, kidF, cmpT, eqT, binT, putT, mmT, biT, truT, itemsK, itemsI, itemsT, slT, Key.t, pT, e2, b1, b2, b3, b4, c0, c1, f0', c3]
              exact hnx _ ⟨pre ++ [(a, b)], rest, _, _, _, _, by rw [hs]; simp, by simp, rfl, by rw [List.length_append]; exact hSS⟩
        · rw [if_neg fun z => b2 z.2.1] at hSS
          simp -implicitDefEqProofs [c_check_yard_b2, T.free, T.freeL, T.get, Kd.deep, T.set, T.whole, T.wholeL, T.frz, T.frzL, kidF, cmpT, eqT, binT, putT, mmT, biT, truT, itemsK, itemsI, itemsT, slT, Key.t, pT, e2, b1, b2, c0, c1, f0', c3]
          exact herr _ _ _ (hSS _ ⟨_, _, _, _, rfl⟩)
      · rw [if_neg fun z => b1 z.1] at hSS
        simp -implicitDefEqProofs [c_check_yard_b2, T.free, T.freeL, T.get, Kd.deep, T.set, T.whole, T.wholeL, T.frz, T.frzL, kidF, cmpT, eqT, binT, putT, mmT, biT, truT, itemsK, itemsI, itemsT, slT, Key.t, pT, e2, b1, c0, c1, f0', c3]
        exact herr _ _ _ (hSS _ ⟨_, _, _, _, rfl⟩)
  · rintro e ⟨pre, rest, o3, o5, o6, o7, hs, hr, rfl, hSS⟩
    cases rest with
    | cons _ _ => cases hr
    | nil => exact hSS _ ⟨_, _, _, _, rfl⟩
theorem check_form (h0 : P.fns[f0]? = some (n_require xe)) (h2 : P.fns[f2]? = some n_are_strings) (h3 : P.fns[f3]? = some (n_has_form f2)) (h4 : P.fns[f4]? = some (n_check_yard f0 f3 f1)) (hx : xfs P xe = [Str.ofString "word", Str.ofString "at"])
    {t : T} (hd : Dv t) (hl : Ld t) (hf : hasF t = false) : callT P fuel (k + 3) f4 [t] = .err xe [.str (Str.ofString "form"), .int 0] [t] := by
  rw [callT_s h4 rfl]
  have e1 := f_has_form (P := P) (fuel := fuel) (k := k) h2 h3 hd hl
  have e2 := fun b w i => f_require (P := P) (fuel := fuel) (k := k + 1) (b := b) (w := w) (i := i) h0 hx
  have ft := hd.free
  rw [hf] at e1
  simp -implicitDefEqProofs [c_check_yard, T.free, T.freeL, T.get, Kd.deep, T.set, T.whole, T.wholeL, T.frz, T.frzL, kidF, cmpT, eqT, binT, putT, mmT, biT, truT, itemsK, itemsI, itemsT, slT, Key.t, ft, e1, e2]
theorem f_check_yard (h0 : P.fns[f0]? = some (n_require xe)) (h1 : P.fns[f1]? = some n_is_name) (h2 : P.fns[f2]? = some n_are_strings) (h3 : P.fns[f3]? = some (n_has_form f2)) (h4 : P.fns[f4]? = some (n_check_yard f0 f3 f1)) (hx : xfs P xe = [Str.ofString "word", Str.ofString "at"])
    {ss : List Str} {ps : List (Str × Str)} (hs : ss.length ≤ 1048576) (hp : ps.length ≤ 1048576) (hl : ∀ s ∈ ss, s.length ≤ 1048576) : callT P fuel (k + 3) f4 [yT ss ps] = oE xe (yT ss ps) (ckY ss ps) := by
  rw [callT_s h4 rfl]
  have hd : Dv (yT ss ps) := .tup _ fun x hx => by
    simp only [List.mem_cons, List.not_mem_nil, or_false] at hx
    rcases hx with rfl | rfl
    · exact .tup _ fun x hx => by obtain ⟨s, _, rfl⟩ := List.mem_map.mp hx; exact .str _
    · exact .tup _ fun x hx => by
        obtain ⟨s, _, rfl⟩ := List.mem_map.mp hx
        exact .tup _ fun x hx => by
          simp only [List.mem_cons, List.not_mem_nil, or_false] at hx
          rcases hx with rfl | rfl <;> exact .str _
  have hld : Ld (yT ss ps) := by
    intro xs e
    cases e
    refine ⟨by simp, fun x hx ys e => ?_⟩
    simp only [List.mem_cons, List.not_mem_nil, or_false] at hx
    rcases hx with rfl | rfl
    · cases e
      refine ⟨by simpa using hs, fun y hy zs e => ?_⟩
      obtain ⟨s, _, rfl⟩ := List.mem_map.mp hy
      cases e
    · cases e
      refine ⟨by simpa using hp, fun y hy zs e => ?_⟩
      obtain ⟨s, _, rfl⟩ := List.mem_map.mp hy
      cases e
      simp
  have e1 := f_has_form (P := P) (fuel := fuel) (k := k) h2 h3 hd hld
  rw [hasF_yT] at e1
  have e2 := fun b w i => f_require (P := P) (fuel := fuel) (k := k + 1) (b := b) (w := w) (i := i) h0 hx
  have ft := hd.free
  have g1 : T.freeL (ss.map T.str) = true := freeL_str
  have g2 : T.freeL (ps.map pT) = true := freeL_pT
  have sq : seqT (some (yT ss ps)) = some [sT ss, .nd .tup false (ps.map pT)] := rfl
  have k1 := fun hn (S : SO → Prop) hS => check_yard_f1 (P := P) (fuel := fuel) (k := k + 1) (f0 := f0) (f1 := f1) (xe := xe) (s0 := some (yT ss ps)) (s2 := some (.nd .tup false (ps.map pT))) (S := S) h0 h1 hx (ss := ss) hn hl hS
  have k2 := fun s3 s4 hn (S : SO → Prop) hS => check_yard_f2 (P := P) (fuel := fuel) (k := k + 1) (f0 := f0) (xe := xe) (s0 := some (yT ss ps)) (s3 := s3) (s4 := s4) (S := S) h0 hx (ss := ss) (ps := ps) hn hS
  generalize hY : yT ss ps = Y at *
  by_cases b1 : 1 ≤ ss.length ∧ ss.length ≤ 8
  · have c1 : (1 : Int) ≤ ss.length := by omega
    have c2 : (ss.length : Int) ≤ 8 := by omega
    by_cases b2 : ps.length ≤ 24
    · have c3 : (ps.length : Int) ≤ 24 := by omega
      cases ha : ckA ss 0 ss with
      | some i =>
        rw [show ckY ss ps = some (Str.ofString "place", i) by unfold ckY; rw [if_pos b1, if_pos b2, ha], oE]
        obtain ⟨e, he⟩ := k1 (by omega) (fun o => ∃ e, o = .err xe [.str (Str.ofString "place"), .int i] (some Y :: e)) (by rw [ha]; rintro _ ⟨o3, o4, rfl⟩; exact ⟨_, rfl⟩)
        have he : (ev (c_check_yard_f1 f0 f1)).s (KK P fuel (k + 2) [] []) _ = _ := he
        simp -implicitDefEqProofs [c_check_yard, T.free, T.freeL, T.get, T.set, T.whole, T.wholeL, T.frz, T.frzL, Key.t, cmpT, truT, biT_lenT, ft, e1, e2, g1, g2, sq, c1, c2, c3, he]
      | none =>
        obtain ⟨o3, o4, he⟩ := k1 (by omega) (fun o => ∃ o3 o4, o = .nx [some Y, some (sT ss), some (.nd .tup false (ps.map pT)), o3, o4, none, none, none]) (by rw [ha]; rintro _ ⟨o3, o4, rfl⟩; exact ⟨o3, o4, rfl⟩)
        have he : (ev (c_check_yard_f1 f0 f1)).s (KK P fuel (k + 2) [] []) _ = _ := he
        cases hb : ckB ss ps 0 ps with
        | some i =>
          rw [show ckY ss ps = some (Str.ofString "path", i) by unfold ckY; rw [if_pos b1, if_pos b2, ha]; dsimp only; rw [hb], oE]
          obtain ⟨e, he2⟩ := k2 o3 o4 (by omega) (fun o => ∃ e, o = .err xe [.str (Str.ofString "path"), .int i] (some Y :: e)) (by rw [hb]; rintro _ ⟨o3, o4, o5, o6, rfl⟩; exact ⟨_, rfl⟩)
          have he2 : (ev (c_check_yard_f2 f0)).s (KK P fuel (k + 2) [] []) _ = _ := he2
          simp -implicitDefEqProofs [c_check_yard, T.free, T.freeL, T.get, T.set, T.whole, T.wholeL, T.frz, T.frzL, Key.t, cmpT, truT, biT_lenT, ft, e1, e2, g1, g2, sq, c1, c2, c3, he, he2]
        | none =>
          rw [show ckY ss ps = none by unfold ckY; rw [if_pos b1, if_pos b2, ha]; dsimp only; rw [hb], oE]
          obtain ⟨p3, p4, p5, p6, he2⟩ := k2 o3 o4 (by omega) (fun o => ∃ o3 o5 o6 o7, o = .nx [some Y, some (sT ss), some (.nd .tup false (ps.map pT)), o3, o4, o5, o6, o7]) (by rw [hb]; rintro _ ⟨o3, o4, o5, o6, rfl⟩; exact ⟨_, _, _, _, rfl⟩)
          have he2 : (ev (c_check_yard_f2 f0)).s (KK P fuel (k + 2) [] []) _ = _ := he2
          simp -implicitDefEqProofs [c_check_yard, T.free, T.freeL, T.get, T.set, T.whole, T.wholeL, T.frz, T.frzL, Key.t, cmpT, truT, biT_lenT, ft, e1, e2, g1, g2, sq, c1, c2, c3, he, he2]
    · have c3 : ¬ (ps.length : Int) ≤ 24 := by omega
      rw [show ckY ss ps = some (Str.ofString "paths", 0) by unfold ckY; rw [if_pos b1, if_neg b2], oE]
      simp -implicitDefEqProofs [c_check_yard, T.free, T.freeL, T.get, T.set, T.whole, T.wholeL, T.frz, T.frzL, Key.t, cmpT, truT, biT_lenT, ft, e1, e2, g1, g2, sq, c1, c2, c3]
  · rw [show ckY ss ps = some (Str.ofString "places", 0) by unfold ckY; rw [if_neg b1], oE]
    by_cases b4 : 1 ≤ ss.length
    · have c1 : (1 : Int) ≤ ss.length := by omega
      have c2 : ¬ (ss.length : Int) ≤ 8 := by omega
      simp -implicitDefEqProofs [c_check_yard, T.free, T.freeL, T.get, T.set, T.whole, T.wholeL, T.frz, T.frzL, Key.t, cmpT, truT, biT_lenT, ft, e1, e2, g1, g2, sq, c1, c2]
    · have c1 : ¬ (1 : Int) ≤ ss.length := by omega
      simp -implicitDefEqProofs [c_check_yard, T.free, T.freeL, T.get, T.set, T.whole, T.wholeL, T.frz, T.frzL, Key.t, cmpT, truT, biT_lenT, ft, e1, e2, g1, g2, sq, c1]
theorem ckA_none {ss : List Str} : ∀ {i : Nat} {r : List Str}, (∀ s ∈ r, Nm s) → ss.Nodup → ss.drop i = r → ckA ss i r = none
  | _, [], _, _, _ => rfl
  | i, s :: r, h, hn, hd => by
    have hlt : i < ss.length := by
      rcases Nat.lt_or_ge i ss.length with h | h
      · exact h
      · rw [List.drop_eq_nil_of_le h] at hd; cases hd
    have e1 : s ∉ ss.take i := fun hm => by
      have h1 := List.take_append_drop i ss
      rw [hd] at h1
      rw [← h1] at hn
      exact (List.nodup_append.mp hn).2.2 s hm s List.mem_cons_self rfl
    show (if Nm s ∧ s ∉ ss.take i then _ else _) = _
    rw [if_pos ⟨h s List.mem_cons_self, e1⟩]
    refine ckA_none (fun s hs => h s (List.mem_cons_of_mem _ hs)) hn ?_
    rw [← List.drop_drop, hd]; rfl
theorem ckB_none {ss : List Str} {ps : List (Str × Str)} : ∀ {i : Nat} {r : List (Str × Str)}, (∀ p ∈ r, p.1 ∈ ss ∧ p.2 ∈ ss ∧ p.1 ≠ p.2) → ps.Nodup → ps.drop i = r → ckB ss ps i r = none
  | _, [], _, _, _ => rfl
  | i, s :: r, h, hn, hd => by
    have e1 : s ∉ ps.take i := fun hm => by
      have h1 := List.take_append_drop i ps
      rw [hd] at h1
      rw [← h1] at hn
      exact (List.nodup_append.mp hn).2.2 s hm s List.mem_cons_self rfl
    have h2 := h s List.mem_cons_self
    show (if s.1 ∈ ss ∧ s.2 ∈ ss ∧ s.1 ≠ s.2 ∧ s ∉ ps.take i then _ else _) = _
    rw [if_pos ⟨h2.1, h2.2.1, h2.2.2, e1⟩]
    refine ckB_none (fun s hs => h s (List.mem_cons_of_mem _ hs)) hn ?_
    rw [← List.drop_drop, hd]; rfl
theorem ckY_good {ss : List Str} {ps : List (Str × Str)} (h : Yd ss ps 24) (hs : ss.length ≤ 8) : ckY ss ps = none := by
  unfold ckY
  rw [if_pos ⟨h.l1, hs⟩, if_pos h.pl, ckA_none h.nm h.nd rfl]
  dsimp only
  rw [ckB_none h.pm h.pn rfl]
/-- the heads of the paths from a place -/
def heads (ps : List (Str × Str)) (a : Str) : List Str := (ps.filter fun p => decide (p.1 = a)).map (·.2)
theorem f_require_place (h0 : P.fns[f0]? = some n_require_place) {ss : List Str} {ps : List (Str × Str)} {a : Str} (ha : a ∈ ss) : callT P fuel (k + 1) f0 [yT ss ps, .str a] = .ok .non [yT ss ps, .str a] := by
  rw [callT_s h0 rfl]
  have ft : T.free (yT ss ps) = true := by simp [T.free, T.freeL]
  have e8 : ∀ x, ixR x (yT ss ps) (.int 0) = some (.tmp (sT ss)) := fun x => by rw [yT_eq, ixR_tup, kidF_0, kidE_s (by simp [T.free])]
  have fs : T.free (sT ss) = true := by simp [T.free]
  generalize yT ss ps = Y at *
  simp -implicitDefEqProofs [c_require_place, T.free, truT, cmpT, ft, e8, ha]
theorem paths_from_l1 {ss : List Str} {ps : List (Str × Str)} {a : Str} (hp : ps.length ≤ 1048576) :
    (ev c_paths_from_l1).r (KK P fuel k [] []) [some (yT ss ps), some (.str a), none, none] = .ok (.tmp (sL true (heads ps a))) [some (yT ss ps), some (.str a), none, none] := by
  have ft : T.free (yT ss ps) = true := by simp [T.free, T.freeL]
  have e8 : ∀ x, ixR x (yT ss ps) (.int 1) = some (.tmp (.nd .tup false (ps.map pT))) := fun x => by rw [yT_eq, ixR_tup, kidF_1, kidE_s (by simp [T.free])]
  have hf : T.freeL (ps.map pT) = true := freeL_pT
  generalize yT ss ps = Y at *
  simp -implicitDefEqProofs [c_paths_from_l1, T.free, T.freeL, T.get, Kd.deep, T.set, T.whole, T.wholeL, T.frz, T.frzL, cmpT, eqT, binT, putT, mmT, biT, truT, itemsK, itemsI, itemsT, slT, Key.t, kidF_0, kidF_1, kidF_2, ft, e8, hf]
  have := lcG_ty (own := [2, 3]) (K := KK P fuel k [] []) (tg := .tt (.cons (.tv 2) (.cons (.tv 3) .nil))) (tst := c_paths_from_t1) (elt := c_paths_from_e1) (e := [some Y, some (.str a), none, none]) pT ps (fun p => decide (p.1 = a)) (fun p => .str p.2) hp (by simp [ft, T.free]) (by simp) (by
    rintro ⟨u, v⟩ hx acc ha R h1 h2
    by_cases hu : u = a
    · simp -implicitDefEqProofs [c_paths_from_e1, c_paths_from_t1, T.free, T.freeL, T.get, Kd.deep, T.set, T.whole, T.wholeL, T.frz, T.frzL, cmpT, eqT, binT, putT, mmT, biT, truT, itemsK, itemsI, itemsT, slT, Key.t, kidF_0, kidF_1, kidF_2, ft, ha, pT, hu]
      exact ok_ok (h1 (by simp [hu]) _ (by simp [wipeE]))
    · simp -implicitDefEqProofs [c_paths_from_e1, c_paths_from_t1, T.free, T.freeL, T.get, Kd.deep, T.set, T.whole, T.wholeL, T.frz, T.frzL, cmpT, eqT, binT, putT, mmT, biT, truT, itemsK, itemsI, itemsT, slT, Key.t, kidF_0, kidF_1, kidF_2, ft, ha, pT, hu]
      exact ok_ok (h2 (by simp [hu]) _ (by simp [wipeE])))
  rw [this]
  simp [heads, sL, Function.comp_def]
theorem f_paths_from (h0 : P.fns[f0]? = some n_require_place) (h1 : P.fns[f1]? = some (n_paths_from f0)) {ss : List Str} {ps : List (Str × Str)} {a : Str} (ha : a ∈ ss) (hp : ps.length ≤ 1048576) : callT P fuel (k + 2) f1 [yT ss ps, .str a] = .ok (sT (heads ps a)) [yT ss ps, .str a] := by
  rw [callT_s h1 rfl]
  have ft : T.free (yT ss ps) = true := by simp [T.free, T.freeL]
  have e1 := f_require_place (P := P) (fuel := fuel) (k := k) (ps := ps) h0 ha
  have e2 := paths_from_l1 (P := P) (fuel := fuel) (k := k + 1) (ss := ss) (ps := ps) (a := a) hp
  have hl : (heads ps a).length ≤ 1048576 := by
    unfold heads
    rw [List.length_map]
    exact Nat.le_trans (List.length_filter_le _ _) hp
  have e3 : biT .tuple [sL true (heads ps a)] = some (sT (heads ps a)) := biT_tup freeL_str (by simpa using hl)
  generalize yT ss ps = Y at *
  generalize heads ps a = hs at *
  simp only [sL] at e2 e3
  simp -implicitDefEqProofs [c_paths_from, T.free, ft, e1, e2, e3]
end
end TI.M
end
section
set_option maxHeartbeats 4000000
/-! TQ6: what is read is a yard, and has this text. Plain Lean. -/
namespace TI.M
open PySem
theorem join_split {c : Nat} : ∀ {l : List Nat}, joinL c (splitL c l) = l
  | [] => rfl
  | a :: r => by
    have ih := join_split (c := c) (l := r)
    have hne := splitL_ne (c := c) (l := r)
    show joinL c (if a = c then [] :: splitL c r else match splitL c r with | [] => [[a]] | w :: ws => (a :: w) :: ws) = _
    split
    · rename_i h
      subst h
      cases hs : splitL a r with
      | nil => exact absurd hs hne
      | cons w ws => rw [hs] at ih; show [] ++ [a] ++ joinL a (w :: ws) = _; rw [ih]; rfl
    · cases hs : splitL c r with
      | nil => exact absurd hs hne
      | cons w ws =>
        rw [hs] at ih
        dsimp only
        cases ws with
        | nil => show a :: w = _; rw [show w = r from ih]
        | cons v vs => show (a :: w) ++ [c] ++ joinL c (v :: vs) = _; rw [← ih]; rfl
theorem rdP_ok {h : List Nat} {ss : List Str} (e : rdP h = some ss) : (1 ≤ ss.length ∧ ss.length ≤ 8) ∧ (∀ s ∈ ss, Nm s) ∧ ss.Nodup ∧ h = lineP ss ∧ splitL 32 h = wPlaces :: ss.map L := by
  unfold rdP at e
  have hs := join_split (c := 32) (l := h)
  cases hz : splitL 32 h with
  | nil => exact absurd hz splitL_ne
  | cons w ws =>
    rw [hz, List.map_cons, rdW_c] at e
    split at e
    · rename_i h1
      cases e
      have hw : ws = (ws.map mk).map L := by simp [Function.comp_def]
      have hw2 : w = wPlaces := by simpa using h1.1
      refine ⟨⟨h1.2.1, h1.2.2.1⟩, h1.2.2.2.1, h1.2.2.2.2, ?_, by rw [← hw, hw2]⟩
      rw [← hs, hz, lineP, ← hw, hw2]
    · cases e
theorem rdQ_ok {ss : List Str} {qs : List (Str × Str)} {l : List Nat} {p : Str × Str} (e : rdQ ss qs l = some p) : splitL 32 l = [wPath, L p.1, L p.2] ∧ l = lineQ p := by
  have hs := join_split (c := 32) (l := l)
  unfold rdQ at e
  have key : splitL 32 l = [wPath, L p.1, L p.2] := by
    cases hz : splitL 32 l with
    | nil => exact absurd hz splitL_ne
    | cons w ws =>
      rw [hz] at e
      match ws, e with
      | [], e => cases e
      | [_], e => cases e
      | [a, b], e =>
        simp only [List.map_cons, List.map_nil, rqW_c] at e
        split at e
        · rename_i h1
          cases e
          rw [show w = wPath by simpa using h1.1]
          rfl
        · cases e
      | _ :: _ :: _ :: _, e => cases e
  refine ⟨key, ?_⟩
  rw [← hs, key, lineQ]
theorem rdQs_ok {ss : List Str} : ∀ {ls : List (List Nat)} {acc : List (Str × Str)} {i : Nat} {ps : List (Str × Str)}, rdQs ss acc i ls = .ok ps → acc.length ≤ 24 → acc.Nodup → (∀ p ∈ acc, p.1 ∈ ss ∧ p.2 ∈ ss ∧ p.1 ≠ p.2) →
    ∃ qs, ps = acc ++ qs ∧ ls = qs.map lineQ ∧ ls.map (splitL 32) = qs.map (fun p => [wPath, L p.1, L p.2]) ∧ ps.length ≤ 24 ∧ ps.Nodup ∧ ∀ p ∈ ps, p.1 ∈ ss ∧ p.2 ∈ ss ∧ p.1 ≠ p.2
  | [], acc, i, ps, e, h1, h2, h3 => by cases e; exact ⟨[], by simp, rfl, rfl, h1, h2, h3⟩
  | l :: r, acc, i, ps, e, h1, h2, h3 => by
    unfold rdQs at e
    split at e
    · cases e
    · rename_i p hp
      have h4 := rdQ_len hp
      obtain ⟨h5, h6⟩ := rdQ_ok hp
      obtain ⟨qs, e1, e2, e3, e4⟩ := rdQs_ok e (by simp; omega) (by
        rw [List.nodup_append]
        refine ⟨h2, by simp, fun a ha b hb => ?_⟩
        rw [List.mem_singleton] at hb
        intro hab
        rw [hb] at hab
        exact h4.2.2.2.2 (hab ▸ ha)) (by
        intro q hq
        rcases List.mem_append.mp hq with h | h
        · exact h3 q h
        · rw [List.mem_singleton] at h
          rw [h]
          exact ⟨h4.2.1, h4.2.2.1, h4.2.2.2.1⟩)
      exact ⟨p :: qs, by rw [e1]; simp, by rw [e2, List.map_cons, ← h6], by rw [List.map_cons, List.map_cons, e3, h5], e4⟩
structure Rd (l : List Nat) (ss : List Str) (ps : List (Str × Str)) : Prop where
  yd : Yd ss ps 24
  s : ss.length ≤ 8
  text : textY ss ps = l
  rows : (splitL 10 l).drop 1 = ps.map lineQ
theorem rdY_ok {l : List Nat} {y : Yard} (e : rdY l = .ok y) : Rd l y.1 y.2 := by
  have hs := join_split (c := 10) (l := l)
  unfold rdY at e
  cases hz : splitL 10 l with
  | nil => exact absurd hz splitL_ne
  | cons h r =>
    rw [hz] at e hs
    cases hp : rdP h with
    | none => simp only [rdL, hp] at e; cases e
    | some ss =>
      cases hq : rdQs ss [] 1 r with
      | error i => simp only [rdL, hp, hq] at e; cases e
      | ok ps =>
        simp only [rdL, hp, hq] at e
        cases e
        obtain ⟨⟨a1, a2⟩, a3, a4, a5, a6⟩ := rdP_ok hp
        obtain ⟨qs, b1, b2, b3, b4, b5, b6⟩ := rdQs_ok hq (by simp) (by simp) (by simp)
        rw [List.nil_append] at b1
        subst b1
        refine ⟨⟨a1, a4, a3, b4, b5, b6⟩, a2, ?_, by rw [hz]; exact b2⟩
        rw [← hs, textY, linesY, ← a5, ← b2]
end TI.M
end
section
set_option maxHeartbeats 4000000
/-! TP5: more of the draws; likeness. Plain Lean. -/
namespace TI.M
open PySem
/-- _law_pick: 0 _law_box_here 1 _law_items -/
def c_law_pick (f_law_take : Nat) : C := (.cons (.ret (.ix (.var 1) (.call f_law_take (.cons (.var 0) (.cons (.bi .len (.cons (.var 1) .nil)) .nil))))) .nil)
abbrev n_law_pick (f_law_take : Nat) : Fn := ⟨2, 2, c_law_pick f_law_take⟩
/-- _law_alike: 0 _law_found 1 _law_due 2 _law_one 3 _law_other -/
def c_law_alike_e1 (f_law_alike : Nat) : C := (.call f_law_alike (.cons (.var 2) (.cons (.var 3) .nil)))
def c_law_alike_l1 (f_law_alike : Nat) : C := (.lc [2, 3] (.tt (.cons (.tv 2) (.cons (.tv 3) .nil))) (.itZ false (.cons (.var 0) (.cons (.var 1) .nil))) .nil (c_law_alike_e1 f_law_alike))
def c_law_alike (f_law_alike : Nat) : C := (.cons (.ifS (.isi (.var 1) [.tuple, .list]) (.cons (.ifS (.orv (.cmp .ne (.isi (.var 0) [.tuple]) (.isi (.var 1) [.tuple])) (.cmp .ne (.isi (.var 0) [.list]) (.isi (.var 1) [.list]))) (.cons (.ret (.bl false)) .nil) .nil) (.cons (.ret (.andv (.cmp .eq (.bi .len (.cons (.var 0) .nil)) (.bi .len (.cons (.var 1) .nil))) (.bi .all (.cons (c_law_alike_l1 f_law_alike) .nil)))) .nil)) .nil) (.cons (.ifS (.orv (.cmp .ne (.isi (.var 0) [.bool]) (.isi (.var 1) [.bool])) (.cmp .ne (.isi (.var 0) [.int]) (.isi (.var 1) [.int]))) (.cons (.ret (.bl false)) .nil) .nil) (.cons (.ret (.andv (.cmp .eq (.isi (.var 0) [.str]) (.isi (.var 1) [.str])) (.cmp .eq (.var 0) (.var 1)))) .nil)))
abbrev n_law_alike (f_law_alike : Nat) : Fn := ⟨2, 4, c_law_alike f_law_alike⟩

section
variable {P : Prg} {fuel k ft fp fn fr fa xe : Nat}
/-- a drawn item -/
theorem f_pickT (hT : P.fns[ft]? = some n_law_take) (hP : P.fns[fp]? = some (n_law_pick ft)) {b : Bx} {f : Bool} {xs : List T} (hn : 0 < xs.length) (hl : xs.length ≤ 100000) (hf : T.freeL xs = true) :
    ∃ x ∈ xs, callT P fuel (k + 2) fp [bT b, .nd .lst f xs] = .ok x [bT (tkB b xs.length), .nd .lst f xs] := by
  obtain ⟨y, p1, p2, p3, p4, p5, p6⟩ := pop_ok (b := b) hf hn
  refine ⟨y, List.mem_of_getElem? p2, ?_⟩
  rw [callT_s hP rfl]
  have t := f_take (P := P) (fuel := fuel) (k := k) hT (b := b) (m := xs.length) (by omega) (by omega)
  have e1 : kidF (.plc 1 []) xs (tkD b xs.length) = some (.tmp y) := by
    unfold kidF
    rw [p1]
    dsimp only
    rw [p2]
    dsimp only
    rw [if_pos p3]
  have e2 : kidF (.tmp (.nd .lst f xs)) xs (tkD b xs.length) = some (.tmp y) := by
    unfold kidF
    rw [p1]
    dsimp only
    rw [p2]
    dsimp only
    rw [if_pos p3]
  cases f <;> simp -implicitDefEqProofs [c_law_pick, T.free, T.freeL, T.get, T.set, T.whole, T.wholeL, T.frz, T.frzL, biT_lenL, t, hf, e1, e2, p5, freeL_whole hf]
theorem f_pick (hT : P.fns[ft]? = some n_law_take) (hP : P.fns[fp]? = some (n_law_pick ft)) {b : Bx} {f : Bool} {xs : List Str} (hn : 0 < xs.length) (hl : xs.length ≤ 100000) :
    ∃ x ∈ xs, callT P fuel (k + 2) fp [bT b, sL f xs] = .ok (.str x) [bT (tkB b xs.length), sL f xs] := by
  obtain ⟨x, hx, h⟩ := f_pickT (P := P) (fuel := fuel) (k := k) hT hP (b := b) (f := f) (xs := xs.map .str) (by simpa using hn) (by simpa using hl) freeL_str
  obtain ⟨s, hs, rfl⟩ := List.mem_map.mp hx
  rw [List.length_map] at h
  exact ⟨s, hs, h⟩
theorem ixStr_some {x : Str} : ∀ {ws : List Str}, x ∈ ws → ∃ n, ixStr x ws = some n ∧ n < ws.length
  | a :: r, h => by
    unfold ixStr
    by_cases e : a = x
    · exact ⟨0, by rw [if_pos e], by simp⟩
    · rw [if_neg e]
      rcases List.mem_cons.mp h with h | h
      · exact absurd h.symm e
      · obtain ⟨n, h1, h2⟩ := ixStr_some h
        exact ⟨n + 1, by rw [h1]; rfl, by simp; omega⟩
theorem cut_3 {α : Type} {l : List α} : cut l none (some 3) = l.take 3 := by
  unfold cut sIx
  simp
theorem alike_str (hP : P.fns[fa]? = some (n_law_alike fa)) {s : Str} : callT P fuel (k + 1) fa [.str s, .str s] = .ok (.bl true) [.str s, .str s] := by
  rw [callT_s hP rfl]
  simp -implicitDefEqProofs [c_law_alike, T.free, T.freeL, T.get, Kd.deep, T.set, T.whole, T.wholeL, T.frz, T.frzL, kidF, cmpT, eqT, binT, putT, mmT, biT, truT, itemsK, itemsI, itemsT, slT, Key.t, anyO, clT, tyT, clY, subY]
theorem zip_same {xs : List T} : List.zipWith (fun x y => T.tup [x, y]) xs xs = xs.map fun x => T.tup [x, x] := by
  induction xs with
  | nil => rfl
  | cons a r ih => simp [ih]
theorem alike_tup (hP : P.fns[fa]? = some (n_law_alike fa)) {xs : List T} (hf : T.freeL xs = true) (hl : xs.length ≤ 1000) (h : ∀ x ∈ xs, callT P fuel k fa [x, x] = .ok (.bl true) [x, x]) :
    callT P fuel (k + 1) fa [.nd .tup false xs, .nd .tup false xs] = .ok (.bl true) [.nd .tup false xs, .nd .tup false xs] := by
  rw [callT_s hP rfl]
  have e1 : (ev (c_law_alike_l1 fa)).r (KK P fuel k [] []) [some (.nd .tup false xs), some (.nd .tup false xs), none, none] = .ok (.tmp (.nd .lst true ((xs.map fun _ => true).map .bl))) [some (.nd .tup false xs), some (.nd .tup false xs), none, none] := by
    simp -implicitDefEqProofs [c_law_alike_l1, T.free, T.freeL, T.get, Kd.deep, T.set, T.whole, T.wholeL, T.frz, T.frzL, kidF, cmpT, eqT, binT, putT, mmT, biT, truT, itemsK, itemsI, itemsT, slT, Key.t, hf, zip_same]
    rw [lcG_map (fun _ => true) (fun _ => T.bl true) (by simp; omega) (by simp) (by simp)]
    · rw [List.filter_eq_self.mpr (fun _ _ => rfl), List.map_map]
      simp [Function.comp_def]
    · intro x hx acc ha R h1 h2
      obtain ⟨y, hy, rfl⟩ := List.mem_map.mp hx
      have fy : y.free = true := (freeL_all.mp hf) y hy
      simp -implicitDefEqProofs [c_law_alike_e1, T.free, T.freeL, T.get, Kd.deep, T.set, T.whole, T.wholeL, T.frz, T.frzL, kidF, cmpT, eqT, binT, putT, mmT, biT, truT, itemsK, itemsI, itemsT, slT, Key.t, ha, fy, h y hy]
      exact ok_ok (h1 rfl _ rfl)
  have e2 : (xs.map fun _ => true).all id = true := by simp
  generalize xs.map (fun _ => true) = bs at *
  simp -implicitDefEqProofs [c_law_alike, T.free, T.freeL, T.get, Kd.deep, T.set, T.whole, T.wholeL, T.frz, T.frzL, kidF, cmpT, eqT, binT, putT, mmT, biT, truT, itemsK, itemsI, itemsT, slT, Key.t, anyO, clT, tyT, clY, subY, hf, e1, e2]
theorem alike_yT (hP : P.fns[fa]? = some (n_law_alike fa)) {ss : List Str} {ps : List (Str × Str)} (hs : ss.length ≤ 1000) (hp : ps.length ≤ 1000) : callT P fuel (k + 4) fa [yT ss ps, yT ss ps] = .ok (.bl true) [yT ss ps, yT ss ps] := by
  refine alike_tup hP (by simp [T.freeL, T.free]) (by simp) fun x hx => ?_
  simp only [List.mem_cons, List.not_mem_nil, or_false] at hx
  rcases hx with rfl | rfl
  · refine alike_tup hP freeL_str (by simpa using hs) fun x hx => ?_
    obtain ⟨s, _, rfl⟩ := List.mem_map.mp hx
    exact alike_str hP
  · refine alike_tup hP freeL_pT (by simpa using hp) fun x hx => ?_
    obtain ⟨⟨a, b⟩, _, rfl⟩ := List.mem_map.mp hx
    refine alike_tup hP (by simp [T.freeL, T.free]) (by simp) fun x hx => ?_
    simp only [List.mem_cons, List.not_mem_nil, or_false] at hx
    rcases hx with rfl | rfl <;> exact alike_str hP
theorem alike_int (hP : P.fns[fa]? = some (n_law_alike fa)) {i : Int} : callT P fuel (k + 1) fa [.int i, .int i] = .ok (.bl true) [.int i, .int i] := by
  rw [callT_s hP rfl]
  simp -implicitDefEqProofs [c_law_alike, T.free, T.freeL, T.get, Kd.deep, T.set, T.whole, T.wholeL, T.frz, T.frzL, kidF, cmpT, eqT, binT, putT, mmT, biT, truT, itemsK, itemsI, itemsT, slT, Key.t, anyO, clT, tyT, clY, subY]
end
end TI.M
end
section
set_option maxHeartbeats 4000000
/-! TL07: the law of lines of words, plain. -/
namespace TI.M
open PySem
/-- _law_lines: 0 _law_box_here 1 _law_names_here 2 _law_own 3 _law_lines_here 4 _law_turn 5 _law_line 6 _law_one 7 _law_other 8 _law_strange -/
def c_law_lines_b1 (f_law_pick f_law_take : Nat) : C := (.cons (.par (.cons (.tv 6) (.cons (.tv 7) .nil)) (.cons (.call f_law_pick (.cons (.var 0) (.cons (.var 2) .nil))) (.cons (.call f_law_pick (.cons (.var 0) (.cons (.var 2) .nil))) .nil))) (.cons (.asg (.tv 5) (.ix (.lst (.cons (.lst (.cons (.str (Str.ofString "path")) (.cons (.var 6) (.cons (.var 7) .nil)))) (.cons (.lst (.cons (.str (Str.ofString "path")) (.cons (.var 6) (.cons (.var 7) .nil)))) (.cons (.lst (.cons (.str (Str.ofString "path")) (.cons (.var 6) (.cons (.call f_law_pick (.cons (.var 0) (.cons (.var 1) .nil))) .nil)))) .nil)))) (.call f_law_take (.cons (.var 0) (.cons (.int 3) .nil))))) (.cons (.ifS (.andv (.cmp .eq (.var 6) (.var 7)) (.cmp .gt (.call f_law_take (.cons (.var 0) (.cons (.int 8) .nil))) (.int 0))) (.cons (.asg (.tv 5) (.lst (.cons (.str (Str.ofString "path")) (.cons (.var 6) (.cons (.ix (.var 2) (.bin .mod (.bin .add (.mt .index (.var 2) (.cons (.var 6) .nil)) (.int 1)) (.bi .len (.cons (.var 2) .nil)))) .nil))))) .nil) .nil) (.cons (.ifS (.cmp .eq (.call f_law_take (.cons (.var 0) (.cons (.int 30) .nil))) (.int 0)) (.cons (.asg (.tv 8) (.lst (.cons (.lst (.cons (.str (Str.ofString "path")) (.cons (.var 6) .nil))) (.cons (.bin .add (.lst (.cons (.str (Str.ofString "path")) .nil)) (.sl (.var 2) .nil (.cons (.int 3) .nil))) (.cons (.lst (.cons (.str (Str.ofString "places")) (.cons (.var 6) .nil))) (.cons (.lst .nil) (.cons (.lst (.cons (.str (Str.ofString "")) .nil)) (.cons (.lst (.cons (.var 6) .nil)) (.cons (.lst (.cons (.str (Str.ofString "path")) (.cons (.str (Str.ofString "")) (.cons (.var 6) .nil)))) .nil))))))))) (.cons (.asg (.tv 5) (.call f_law_pick (.cons (.var 0) (.cons (.var 8) .nil)))) .nil)) .nil) (.cons (.expr (.mm .append (.var 3) (.cons (.var 5) .nil))) .nil)))))
def c_law_lines_f1 (f_law_take f_law_pick : Nat) : C := (.forS (.tv 4) (.itR1 (.call f_law_take (.cons (.var 0) (.cons (.ix (.lst (.cons (.int 4) (.cons (.int 12) (.cons (.int 30) .nil)))) (.call f_law_take (.cons (.var 0) (.cons (.int 3) .nil)))) .nil)))) (c_law_lines_b1 f_law_pick f_law_take))
def c_law_lines_e1 : C := (.mt .join (.str (Str.ofString " ")) (.cons (.var 5) .nil))
def c_law_lines_l1 : C := (.lc [5] (.tv 5) (.var 3) .nil (c_law_lines_e1))
def c_law_lines (f_law_names f_law_take f_law_pick : Nat) : C := (.cons (.asg (.tv 1) (.call f_law_names (.cons (.var 0) (.cons (.int 9) .nil)))) (.cons (.asg (.tv 2) (.sl (.var 1) .nil (.cons (.ix (.lst (.cons (.bin .add (.int 1) (.call f_law_take (.cons (.var 0) (.cons (.int 8) .nil)))) (.cons (.int 9) .nil))) (.bi .int (.cons (.cmp .eq (.call f_law_take (.cons (.var 0) (.cons (.int 12) .nil))) (.int 0)) .nil))) .nil))) (.cons (.asg (.tv 3) (.lst (.cons (.bin .add (.lst (.cons (.str (Str.ofString "places")) .nil)) (.var 2)) .nil))) (.cons (c_law_lines_f1 f_law_take f_law_pick) (.cons (.ifS (.cmp .eq (.call f_law_take (.cons (.var 0) (.cons (.int 10) .nil))) (.int 0)) (.cons (.asg (.tv 3) (.bin .add (.sl (.var 3) (.cons (.int 1) .nil) .nil) (.sl (.var 3) .nil (.cons (.int 1) .nil)))) .nil) .nil) (.cons (.ret (.mt .join (.str (Str.ofString "\n")) (.cons (c_law_lines_l1) .nil))) .nil))))))
abbrev n_law_lines (f_law_names f_law_take f_law_pick : Nat) : Fn := ⟨1, 9, c_law_lines f_law_names f_law_take f_law_pick⟩
/-- _law_told: 0 _law_text 1 _law_found 2 e -/
def c_law_told_y1 (f_read_yard : Nat) : C := (.cons (.asg (.tv 1) (.call f_read_yard (.cons (.var 0) .nil))) .nil)
def c_law_told (f_read_yard x_NoText : Nat) : C := (.cons (.asg (.tv 1) .non) (.cons (.tryS (c_law_told_y1 f_read_yard) (.hdl x_NoText (some 2) (.cons (.asg (.tv 1) (.xf 2 (Str.ofString "line"))) .nil))) (.cons (.ret (.var 1)) .nil)))
abbrev n_law_told (f_read_yard x_NoText : Nat) : Fn := ⟨1, 3, c_law_told f_read_yard x_NoText⟩
/-- law: 0 _law_script 1 _law_k 2 _law_box_here 3 _law_turn 4 _law_text 5 _law_found 6 _law_rows 7 _law_place 8 _law_line 9 _law_row -/
def c_law_e1 : C := (.mt .split (.var 8) (.cons (.str (Str.ofString " ")) .nil))
def c_law_l1 : C := (.lc [8] (.tv 8) (.sl (.mt .split (.var 4) (.cons (.str (Str.ofString "\n")) .nil)) (.cons (.int 1) .nil) .nil) .nil (c_law_e1))
def c_law_e2 : C := (.ix (.var 9) (.int 2))
def c_law_t1 : C := (.cmp .eq (.ix (.var 9) (.int 1)) (.var 7))
def c_law_l2 : C := (.lc [9] (.tv 9) (.var 6) (c_law_t1) (c_law_e2))
def c_law_b1 (f_paths_from : Nat) : C := (.cons (.ifS (.cmp .ne (.bi .list (.cons (.call f_paths_from (.cons (.var 5) (.cons (.var 7) .nil))) .nil)) (c_law_l2)) (.cons (.ret (.bl false)) .nil) .nil) .nil)
def c_law_f1 (f_paths_from : Nat) : C := (.forS (.tv 7) (.ix (.var 5) (.int 0)) (c_law_b1 f_paths_from))
def c_law_b2 (f_law_lines f_law_told f_law_alike f_law_yard_read f_check_yard f_show_yard f_paths_from : Nat) : C := (.cons (.asg (.tv 4) (.call f_law_lines (.cons (.var 2) .nil))) (.cons (.asg (.tv 5) (.call f_law_told (.cons (.var 4) .nil))) (.cons (.ifS (.notv (.call f_law_alike (.cons (.var 5) (.cons (.call f_law_yard_read (.cons (.var 4) .nil)) .nil)))) (.cons (.ret (.bl false)) .nil) .nil) (.cons (.ifS (.isi (.var 5) [.tuple]) (.cons (.ifS (.orv (.cmp .notN (.call f_check_yard (.cons (.var 5) .nil)) (.bl true)) (.cmp .ne (.call f_show_yard (.cons (.var 5) .nil)) (.var 4))) (.cons (.ret (.bl false)) .nil) .nil) (.cons (.asg (.tv 6) (c_law_l1)) (.cons (c_law_f1 f_paths_from) .nil))) .nil) .nil))))
def c_law_f2 (f_law_lines f_law_told f_law_alike f_law_yard_read f_check_yard f_show_yard f_paths_from : Nat) : C := (.forS (.tv 3) (.itR1 (.int 8)) (c_law_b2 f_law_lines f_law_told f_law_alike f_law_yard_read f_check_yard f_show_yard f_paths_from))
def c_law_b3 (f_law_box f_law_lines f_law_told f_law_alike f_law_yard_read f_check_yard f_show_yard f_paths_from : Nat) : C := (.cons (.asg (.tv 2) (.call f_law_box (.cons (.var 0) (.cons (.var 1) .nil)))) (.cons (c_law_f2 f_law_lines f_law_told f_law_alike f_law_yard_read f_check_yard f_show_yard f_paths_from) .nil))
def c_law_f3 (f_law_box f_law_lines f_law_told f_law_alike f_law_yard_read f_check_yard f_show_yard f_paths_from : Nat) : C := (.forS (.tv 1) (.itR1 (.bi .max2 (.cons (.int 2) (.cons (.bi .min2 (.cons (.int 5) (.cons (.bi .len (.cons (.var 0) .nil)) .nil))) .nil)))) (c_law_b3 f_law_box f_law_lines f_law_told f_law_alike f_law_yard_read f_check_yard f_show_yard f_paths_from))
def c_law (f_law_box f_law_lines f_law_told f_law_alike f_law_yard_read f_check_yard f_show_yard f_paths_from : Nat) : C := (.cons (c_law_f3 f_law_box f_law_lines f_law_told f_law_alike f_law_yard_read f_check_yard f_show_yard f_paths_from) (.cons (.ret (.bl true)) .nil))
abbrev n_law (f_law_box f_law_lines f_law_told f_law_alike f_law_yard_read f_check_yard f_show_yard f_paths_from : Nat) : Fn := ⟨1, 10, c_law f_law_box f_law_lines f_law_told f_law_alike f_law_yard_read f_check_yard f_show_yard f_paths_from⟩

theorem cut_drop1 {α : Type} {l : List α} : cut l (some 1) none = l.drop 1 := by
  cases l with
  | nil => rfl
  | cons a r => rw [cut1]; rfl
theorem eqv_sL_same {f g : Bool} {xs : List Str} : T.eqv (sL f xs) (sL g xs) = some true := by
  show (if (xs.map T.str).length = (xs.map T.str).length then eqvL (eqvN 29) (xs.map T.str) (xs.map T.str) else some false) = _
  rw [if_pos rfl, eqvL_map (n := 29) (f := T.str) (fun a b => rfl) xs xs]
  simp
section
variable {P : Prg} {fuel k ft fp fn fr fa xe : Nat}
/-- a line of few short words -/
def Ln (t : T) : Prop := ∃ ws : List Str, t = .nd .lst false (ws.map .str) ∧ ws.length ≤ 10 ∧ ∀ w ∈ ws, w.length ≤ 6
theorem Ln.free {t : T} (h : Ln t) : t.free = true := by obtain ⟨ws, rfl, _⟩ := h; simp [T.free]
theorem take3 {b : Bx} : tkD b 3 = 0 ∨ tkD b 3 = 1 ∨ tkD b 3 = 2 := by
  have h0 : 0 ≤ tkD b 3 := tkD_nn (by omega)
  have h1 : tkD b 3 < 3 := tkD_lt (by omega)
  omega
theorem law_lines_b1 (hT : P.fns[ft]? = some n_law_take) (hP : P.fns[fp]? = some (n_law_pick ft)) {b : Bx} {ns own : List Str} {lines : List T} {o4 o5 o6 o7 o8 : Option T}
    (hn : 0 < ns.length ∧ ns.length ≤ 9) (ho : 0 < own.length ∧ own.length ≤ 9) (hnl : ∀ s ∈ ns, s.length ≤ 6) (hol : ∀ s ∈ own, s.length ≤ 6) (hll : lines.length ≤ 1000) (hli : ∀ t ∈ lines, Ln t) :
    Nx ((ev (c_law_lines_b1 fp ft)).bl (KK P fuel (k + 2) [] [0]) [some (bT b), some (sL true ns), some (sL true own), some (.nd .lst true lines), o4, o5, o6, o7, o8]) fun e => ∃ b' x o6 o7 o8, Ln x ∧ e = [some (bT b'), some (sL true ns), some (sL true own), some (.nd .lst true (lines ++ [x])), o4, some x, o6, o7, o8] := by
  have hm : T.freeL lines = true := freeL_all.mpr fun t ht => (hli t ht).free
  unfold c_law_lines_b1
  rw [bl_cons]
  refine nx_next (R := fun e => ∃ b' x y o5 o8, x ∈ own ∧ y ∈ own ∧ e = [some (bT b'), some (sL true ns), some (sL true own), some (.nd .lst true lines), o4, o5, some (.str x), some (.str y), o8]) ?_ ?_
  · refine nx_cps fun R hR => ?_
    obtain ⟨x, hx, h1⟩ := f_pick (P := P) (fuel := fuel) (k := k) hT hP (b := b) (f := true) (xs := own) ho.1 (by omega)
    obtain ⟨y, hy, h2⟩ := f_pick (P := P) (fuel := fuel) (k := k) hT hP (b := tkB b own.length) (f := true) (xs := own) ho.1 (by omega)
    simp -implicitDefEqProofs [T.free, T.freeL, T.get, Kd.deep, T.set, T.whole, T.wholeL, T.frz, T.frzL, kidF, cmpT, eqT, binT, putT, mmT, biT, truT, itemsK, itemsI, itemsT, slT, Key.t, h1, h2]
    exact nx_ok (hR _ ⟨_, x, y, o5, o8, hx, hy, rfl⟩)
  rintro _ ⟨b1, x, y, o5, o8, hx, hy, rfl⟩
  rw [bl_cons]
  have lx := hol x hx
  have ly := hol y hy
  refine nx_next (R := fun e => ∃ b' w o8, w.length ≤ 10 ∧ (∀ s ∈ w, s.length ≤ 6) ∧ e = [some (bT b'), some (sL true ns), some (sL true own), some (.nd .lst true lines), o4, some (sL false w), some (.str x), some (.str y), o8]) ?_ ?_
  · refine nx_cps fun R hR => ?_
    obtain ⟨z, hz, h1⟩ := f_pick (P := P) (fuel := fuel) (k := k) hT hP (b := b1) (f := true) (xs := ns) hn.1 (by omega)
    have t3 := f_take (P := P) (fuel := fuel) (k := k + 1) hT (b := tkB b1 ns.length) (m := 3) (by omega) (by omega)
    have w1 : Str.ofString "path" = mk [112, 97, 116, 104] := rfl
    rcases take3 (b := tkB b1 ns.length) with h | h | h
    · rw [h] at t3
      simp -implicitDefEqProofs [T.free, T.freeL, T.get, Kd.deep, T.set, T.whole, T.wholeL, T.frz, T.frzL, cmpT, eqT, binT, putT, mmT, biT, truT, itemsK, itemsI, itemsT, slT, Key.t, kidF_0, kidF_1, kidF_2, h1, t3, kidE]
      exact nx_ok (hR _ ⟨_, [Str.ofString "path", x, y], o8, by simp, by simpa [w1] using ⟨lx, ly⟩, rfl⟩)
    · rw [h] at t3
      simp -implicitDefEqProofs [T.free, T.freeL, T.get, Kd.deep, T.set, T.whole, T.wholeL, T.frz, T.frzL, cmpT, eqT, binT, putT, mmT, biT, truT, itemsK, itemsI, itemsT, slT, Key.t, kidF_0, kidF_1, kidF_2, h1, t3, kidE]
      exact nx_ok (hR _ ⟨_, [Str.ofString "path", x, y], o8, by simp, by simpa [w1] using ⟨lx, ly⟩, rfl⟩)
    · rw [h] at t3
      simp -implicitDefEqProofs [T.free, T.freeL, T.get, Kd.deep, T.set, T.whole, T.wholeL, T.frz, T.frzL, cmpT, eqT, binT, putT, mmT, biT, truT, itemsK, itemsI, itemsT, slT, Key.t, kidF_0, kidF_1, kidF_2, h1, t3, kidE]
      exact nx_ok (hR _ ⟨_, [Str.ofString "path", x, z], o8, by simp, by simpa [w1] using ⟨lx, hnl z hz⟩, rfl⟩)
  rintro _ ⟨b2, w, o8', hw1, hw2, rfl⟩
  rw [bl_cons]
  refine nx_next (R := fun e => ∃ b' w fl o8, w.length ≤ 10 ∧ (∀ s ∈ w, s.length ≤ 6) ∧ e = [some (bT b'), some (sL true ns), some (sL true own), some (.nd .lst true lines), o4, some (sL fl w), some (.str x), some (.str y), o8]) ?_ ?_
  · refine nx_cps fun R hR => ?_
    have t8 := f_take (P := P) (fuel := fuel) (k := k + 1) hT (b := b2) (m := 8) (by omega) (by omega)
    have w1 : Str.ofString "path" = mk [112, 97, 116, 104] := rfl
    by_cases c1 : x = y
    · subst c1
      by_cases c2 : tkD b2 8 > 0
      · obtain ⟨n, hn1, hn2⟩ := ixStr_some hx
        have e1 : mtT .index (sL true own) [.str x] = some (.int n) := by
          show (match strsL (own.map .str) with | some ss => (ixStr x ss).map fun n => T.int n | none => none) = _
          rw [strsL_map]; dsimp only; rw [hn1]; rfl
        have d1 : 0 ≤ ((n : Int) + 1) % (own.length : Int) := Int.emod_nonneg _ (by omega)
        have d2 : ((n : Int) + 1) % (own.length : Int) < own.length := Int.emod_lt_of_pos _ (by omega)
        have e2 : binT .mod (.int ((n : Int) + 1)) (.int own.length) = some (.int (((n : Int) + 1) % (own.length : Int))) := by
          show (if 0 < (own.length : Int) then _ else _) = _
          rw [if_pos (by omega)]
        generalize ((n : Int) + 1) % (own.length : Int) = d at *
        obtain ⟨d, rfl⟩ := Int.eq_ofNat_of_zero_le d1
        have d3 : d < own.length := by omega
        have e3 : ∀ x, kidF x (own.map .str) (d : Int) = some (.tmp (.str own[d])) := fun x => kidF_str (List.getElem?_eq_getElem d3)
        have e4 : binT .add (.int n) (.int 1) = some (.int ((n : Int) + 1)) := rfl
        simp only [sL] at e1
        simp -implicitDefEqProofs [T.free, T.freeL, T.get, T.whole, T.wholeL, T.frz, T.frzL, cmpT, eqT, truT, biT_lenL, t8, c2, e1, e2, e3, e4, lim]
        exact nx_ok (hR _ ⟨_, [Str.ofString "path", x, own[d]], true, o8', by simp, by simpa [w1] using ⟨lx, hol _ (List.getElem_mem d3)⟩, rfl⟩)
      · simp -implicitDefEqProofs [T.free, T.freeL, T.get, Kd.deep, T.set, T.whole, T.wholeL, T.frz, T.frzL, cmpT, eqT, binT, putT, mmT, biT, truT, itemsK, itemsI, itemsT, slT, Key.t, kidF_0, kidF_1, kidF_2, t8, c2]
        exact nx_ok (hR _ ⟨_, w, false, o8', hw1, hw2, rfl⟩)
    · simp -implicitDefEqProofs [T.free, T.freeL, T.get, Kd.deep, T.set, T.whole, T.wholeL, T.frz, T.frzL, cmpT, eqT, binT, putT, mmT, biT, truT, itemsK, itemsI, itemsT, slT, Key.t, kidF_0, kidF_1, kidF_2, t8, c1]
      exact nx_ok (hR _ ⟨_, w, false, o8', hw1, hw2, rfl⟩)
  rintro _ ⟨b3, w', fl, o8'', hw1', hw2', rfl⟩
  rw [bl_cons]
  refine nx_next (R := fun e => ∃ b' w fl o8, w.length ≤ 10 ∧ (∀ s ∈ w, s.length ≤ 6) ∧ e = [some (bT b'), some (sL true ns), some (sL true own), some (.nd .lst true lines), o4, some (sL fl w), some (.str x), some (.str y), o8]) ?_ ?_
  · refine nx_cps fun R hR => ?_
    have t30 := f_take (P := P) (fuel := fuel) (k := k + 1) hT (b := b3) (m := 30) (by omega) (by omega)
    by_cases c1 : tkD b3 30 = 0
    · have cc : cut (own.map T.str) none (some 3) = (own.take 3).map T.str := by
        rw [cut_3]
        simp
      have tl : (own.take 3).length ≤ 3 := by rw [List.length_take]; omega
      have tm : ∀ s ∈ own.take 3, s.length ≤ 6 := fun s hs => hol s (List.mem_of_mem_take hs)
      generalize own.take 3 = tk at *
      have cl : capL (tk.map T.str) = some (sL true tk) := by unfold capL; rw [if_pos ⟨by rw [List.length_map]; show _ ≤ 1048576; omega, freeL_str⟩]
      have ca : ∀ f, binT .add (.lst f [.str (Str.ofString "path")]) (sL true tk) = some (sL true (Str.ofString "path" :: tk)) := fun f => by
        show capL _ = _
        unfold capL
        rw [if_pos ⟨by simp; show _ ≤ 1048576; omega, by simp [T.freeL, T.free]⟩]
        rfl
      simp only [sL, List.map_cons] at cl ca
      obtain ⟨z, hz, h1⟩ := f_pickT (P := P) (fuel := fuel) (k := k) hT hP (b := tkB b3 30) (f := true) (xs := [.nd .lst false [.str (Str.ofString "path"), .str x], .nd .lst false (.str (Str.ofString "path") :: tk.map .str), .nd .lst false [.str (Str.ofString "places"), .str x], .nd .lst false [], .nd .lst false [.str (Str.ofString "")], .nd .lst false [.str x], .nd .lst false [.str (Str.ofString "path"), .str (Str.ofString ""), .str x]]) (by simp) (by simp) (by simp [T.freeL, T.free])
      have w1 : (Str.ofString "path").length = 4 := rfl
      have w2 : (Str.ofString "places").length = 6 := rfl
      have w3 : (Str.ofString "").length = 0 := rfl
      have hz2 : Ln z := by
        simp only [List.mem_cons, List.not_mem_nil, or_false] at hz
        rcases hz with rfl | rfl | rfl | rfl | rfl | rfl | rfl
        · exact ⟨[Str.ofString "path", x], rfl, by simp, by simp [w1, lx]⟩
        · exact ⟨Str.ofString "path" :: tk, rfl, by simp; omega, by simpa [w1] using tm⟩
        · exact ⟨[Str.ofString "places", x], rfl, by simp, by simp [w2, lx]⟩
        · exact ⟨[], rfl, by simp, by simp⟩
        · exact ⟨[Str.ofString ""], rfl, by simp, by simp [w3]⟩
        · exact ⟨[x], rfl, by simp, by simp [lx]⟩
        · exact ⟨[Str.ofString "path", Str.ofString "", x], rfl, by simp, by simp [w1, w3, lx]⟩
      obtain ⟨ws, rfl, l1, l2⟩ := hz2
      clear hz
      simp -implicitDefEqProofs [T.free, T.freeL, T.get, T.set, T.whole, T.wholeL, T.frz, T.frzL, cmpT, eqT, truT, biT_lenL, slT, t30, c1, cc, cl, ca, h1]
      exact nx_ok (hR _ ⟨_, ws, false, _, l1, l2, rfl⟩)
    · simp -implicitDefEqProofs [T.free, T.freeL, T.get, Kd.deep, T.set, T.whole, T.wholeL, T.frz, T.frzL, cmpT, eqT, binT, putT, mmT, biT, truT, itemsK, itemsI, itemsT, slT, Key.t, kidF_0, kidF_1, kidF_2, t30, c1]
      exact nx_ok (hR _ ⟨_, w', fl, o8'', hw1', hw2', rfl⟩)
  rintro _ ⟨b4, w4, fl4, o84, hw14, hw24, rfl⟩
  refine nx_cps fun R hR => ?_
  have m4 : lines.length < 1048576 := by omega
  have hx5 : Ln (.nd .lst false (w4.map .str)) := ⟨w4, rfl, hw14, hw24⟩
  cases fl4 with
  | true =>
    simp -implicitDefEqProofs [T.free, T.freeL, T.get, Kd.deep, T.set, T.whole, T.wholeL, T.frz, T.frzL, kidF, cmpT, eqT, binT, putT, mmT, biT, truT, itemsK, itemsI, itemsT, slT, Key.t, m4, hm]
    exact nx_ok (hR _ ⟨b4, _, _, _, _, hx5, rfl⟩)
  | false =>
    simp -implicitDefEqProofs [T.free, T.freeL, T.get, Kd.deep, T.set, T.whole, T.wholeL, T.frz, T.frzL, kidF, cmpT, eqT, binT, putT, mmT, biT, truT, itemsK, itemsI, itemsT, slT, Key.t, m4, hm]
    exact nx_ok (hR _ ⟨b4, _, _, _, _, hx5, rfl⟩)
theorem law_lines_f1 (hT : P.fns[ft]? = some n_law_take) (hP : P.fns[fp]? = some (n_law_pick ft)) {b : Bx} {ns own : List Str} {x0 : T}
    (hn : 0 < ns.length ∧ ns.length ≤ 9) (ho : 0 < own.length ∧ own.length ≤ 9) (hnl : ∀ s ∈ ns, s.length ≤ 6) (hol : ∀ s ∈ own, s.length ≤ 6) (hx0 : Ln x0) :
    Nx ((ev (c_law_lines_f1 ft fp)).s (KK P fuel (k + 2) [] [0]) [some (bT b), some (sL true ns), some (sL true own), some (.nd .lst true [x0]), none, none, none, none, none]) fun e => ∃ b' lines o4 o5 o6 o7 o8, (∀ t ∈ lines, Ln t) ∧ 1 ≤ lines.length ∧ lines.length ≤ 40 ∧ (∀ x, o5 = some x → x.free = true) ∧ e = [some (bT b'), some (sL true ns), some (sL true own), some (.nd .lst true lines), o4, o5, o6, o7, o8] := by
  refine nx_cps fun R hR => ?_
  have t3 := f_take (P := P) (fuel := fuel) (k := k + 1) hT (b := b) (m := 3) (by omega) (by omega)
  have key : ∀ (m : Int), 0 < m → m ≤ 30 → ∃ n : Nat, callT P fuel (k + 2) ft [bT (tkB b 3), .int m] = .ok (.int n) [bT (tkB (tkB b 3) m), .int m] ∧ n < 30 := by
    intro m h0 h1
    have t := f_take (P := P) (fuel := fuel) (k := k + 1) hT (b := tkB b 3) (m := m) h0 (by omega)
    have h2 : 0 ≤ tkD (tkB b 3) m := tkD_nn h0
    have h3 : tkD (tkB b 3) m < m := tkD_lt h0
    obtain ⟨n, hn⟩ := Int.eq_ofNat_of_zero_le h2
    exact ⟨n, by rw [t, hn], by omega⟩
  have fin : ∀ (m : Int) (n : Nat), n < 30 → Nx (forL ((ev (.tv 4)).a (KK P fuel (k + 2) [] [0])) ((ev (c_law_lines_b1 fp ft)).bl (KK P fuel (k + 2) [] [0])) (rangeT 0 n) [some (bT (tkB (tkB b 3) m)), some (sL true ns), some (sL true own), some (.nd .lst true [x0]), none, none, none, none, none]) R := by
    intro m n hn'
    refine nx_mono (forL_inv (fun r e => ∃ b' lines o4 o5 o6 o7 o8, (∀ t ∈ lines, Ln t) ∧ 1 ≤ lines.length ∧ r.length + lines.length ≤ 40 ∧ (∀ x, o5 = some x → x.free = true) ∧ e = [some (bT b'), some (sL true ns), some (sL true own), some (.nd .lst true lines), o4, o5, o6, o7, o8]) ?_ _ _ ⟨_, [x0], none, none, none, none, none, by simpa using hx0, by simp, by rw [rangeT_length, List.length_singleton]; omega, (fun _ h => nomatch h), rfl⟩) ?_
    · rintro x r _ ⟨b', lines, o4, o5, o6, o7, o8, h1, h2, h3, h4, rfl⟩ R hR
      simp only [List.length_cons] at h3
      rw [stE_eq, a_tv]
      simp -implicitDefEqProofs []
      refine nx_mono (law_lines_b1 hT hP hn ho hnl hol (by omega) h1) ?_
      rintro e ⟨b', x', o6, o7, o8, h5, rfl⟩
      refine hR _ ⟨b', lines ++ [x'], _, _, _, _, _, ?_, by simp, by simp; omega, ?_, rfl⟩
      · intro t ht
        rcases List.mem_append.mp ht with h | h
        · exact h1 t h
        · rw [List.mem_singleton] at h; rw [h]; exact h5
      · intro x hx
        cases hx
        exact h5.free
    · rintro e ⟨b', lines, o4, o5, o6, o7, o8, h1, h2, h3, h4, rfl⟩
      exact hR _ ⟨b', lines, o4, o5, o6, o7, o8, h1, h2, by simpa using h3, h4, rfl⟩
  unfold c_law_lines_f1
  rcases take3 (b := b) with h | h | h
  · obtain ⟨n, h1, h2⟩ := key 4 (by omega) (by omega)
    have z1 : (n : Int) < 1000000 := by omega
    have z2 : (-1000000 : Int) < n := by omega
    rw [h] at t3
    simp -implicitDefEqProofs [T.free, T.freeL, T.get, T.set, T.whole, T.wholeL, T.frz, T.frzL, kidF_0, itemsK, t3, h1, z1, z2]
    exact fin _ n h2
  · obtain ⟨n, h1, h2⟩ := key 12 (by omega) (by omega)
    have z1 : (n : Int) < 1000000 := by omega
    have z2 : (-1000000 : Int) < n := by omega
    rw [h] at t3
    simp -implicitDefEqProofs [T.free, T.freeL, T.get, T.set, T.whole, T.wholeL, T.frz, T.frzL, kidF_1, itemsK, t3, h1, z1, z2]
    exact fin _ n h2
  · obtain ⟨n, h1, h2⟩ := key 30 (by omega) (by omega)
    have z1 : (n : Int) < 1000000 := by omega
    have z2 : (-1000000 : Int) < n := by omega
    rw [h] at t3
    simp -implicitDefEqProofs [T.free, T.freeL, T.get, T.set, T.whole, T.wholeL, T.frz, T.frzL, kidF_2, itemsK, t3, h1, z1, z2]
    exact fin _ n h2
def lnT (ws : List Str) : T := .nd .lst false (ws.map .str)
theorem lines_of : ∀ {lines : List T}, (∀ t ∈ lines, Ln t) → ∃ wss : List (List Str), lines = wss.map lnT ∧ ∀ ws ∈ wss, ws.length ≤ 10 ∧ ∀ w ∈ ws, w.length ≤ 6
  | [], _ => ⟨[], rfl, by simp⟩
  | t :: r, h => by
    obtain ⟨wss, e1, e2⟩ := lines_of (lines := r) fun t ht => h t (List.mem_cons_of_mem _ ht)
    obtain ⟨ws, e3, e4, e5⟩ := h t List.mem_cons_self
    exact ⟨ws :: wss, by rw [e1, e3]; rfl, by
      intro z hz
      rcases List.mem_cons.mp hz with rfl | hz
      · exact ⟨e4, e5⟩
      · exact e2 z hz⟩
theorem law_lines_l1 {wss : List (List Str)} {s0 s1 s2 s4 s5 s6 s7 s8 : Option T} (hw : ∀ ws ∈ wss, ws.length ≤ 10 ∧ ∀ w ∈ ws, w.length ≤ 6) (hl : wss.length ≤ 1000) (h5 : ∀ x, s5 = some x → x.free = true) :
    (ev c_law_lines_l1).r (KK P fuel k [] [0]) [s0, s1, s2, some (.nd .lst true (wss.map lnT)), s4, s5, s6, s7, s8] = .ok (.tmp (sL true (wss.map fun ws => mk (joinL 32 (ws.map L))))) [s0, s1, s2, some (.nd .lst true (wss.map lnT)), s4, s5, s6, s7, s8] := by
  have hf : T.freeL (wss.map lnT) = true := freeL_all.mpr fun t ht => by
    obtain ⟨ws, _, rfl⟩ := List.mem_map.mp ht
    simp [lnT, T.free]
  have h5' : (match s5 with | some t => t.free | none => true) = true := by
    cases s5 with
    | none => rfl
    | some x => exact h5 x rfl
  have w2 : Str.ofString " " = mk [32] := rfl
  simp -implicitDefEqProofs [c_law_lines_l1, T.free, T.get, itemsK, itemsI, itemsT, hf]
  have := lcG_all (own := [5]) (K := KK P fuel k [3] [0]) (tg := .tv 5) (tst := .nil) (elt := c_law_lines_e1) (e := [s0, s1, s2, some (.nd .lst true (wss.map lnT)), s4, s5, s6, s7, s8]) lnT wss (fun ws => T.str (mk (joinL 32 (ws.map L)))) (by omega) (by cases s5 with
    | none => simp
    | some x => simp [h5 x rfl]) (by simp) (by
    intro ws hws acc ha R h1
    obtain ⟨a1, a2⟩ := hw ws hws
    have hs : (ws.map Str.length).sum ≤ ws.length * 6 := sum_le a2
    have j1 : mtT .join (.str (mk [32])) [.nd .lst false (ws.map .str)] = some (.str (mk (joinL 32 (ws.map L)))) := by
      rw [mtT_join (by rw [mk_len]; simp only [List.length_singleton]; omega), joinS_mk]
    have fl : T.freeL (ws.map T.str) = true := freeL_str
    simp -implicitDefEqProofs [c_law_lines_e1, lnT, T.free, T.get, T.whole, T.frz, ha, w2, fl, j1]
    exact ok_ok (h1 _ (by simp)))
  rw [this]
  simp [sL, Function.comp_def]
theorem f_law_lines {fl : Nat} (hT : P.fns[ft]? = some n_law_take) (hN : P.fns[fn]? = some (n_law_names ft)) (hP : P.fns[fp]? = some (n_law_pick ft)) (hL : P.fns[fl]? = some (n_law_lines fn ft fp)) {b : Bx} :
    Is (callT P fuel (k + 3) fl [bT b]) fun t fin => ∃ (l : List Nat) (b' : Bx), t = .str (mk l) ∧ fin = [bT b'] ∧ l.length ≤ 5000 := by
  refine is_cps fun Q hQ => ?_
  rw [callT_s hL rfl]
  have hpin : pinned 0 [bT b] = [0] := by simp [bT, T.free]
  obtain ⟨t, fin, hn, ns, b1, rfl, rfl, hnl, hnd, hnm⟩ := f_names (P := P) (fuel := fuel) (k := k) hT hN (b := b) (m := 9) (by omega) (by omega)
  rw [show ((9 : Nat) : Int) = 9 from rfl] at hn
  have hnl6 : ∀ s ∈ ns, s.length ≤ 6 := fun s hs => (hnm s hs).2.1
  have w1 : (Str.ofString "places").length = 6 := rfl
  rw [hpin]
  unfold n_law_lines c_law_lines
  simp only
  rw [bl_cons]
  refine is_next (R := fun e => e = [some (bT b1), some (sL true ns), none, none, none, none, none, none, none]) ?_ ?_
  · refine nx_cps fun R hR => ?_
    simp -implicitDefEqProofs [T.free, T.freeL, T.get, Kd.deep, T.set, T.whole, T.wholeL, T.frz, T.frzL, kidF, cmpT, eqT, binT, putT, mmT, biT, truT, itemsK, itemsI, itemsT, slT, Key.t, hn]
    exact nx_ok (hR _ rfl)
  rintro _ rfl
  rw [bl_cons]
  refine is_next (R := fun e => ∃ b2 own, (0 < own.length ∧ own.length ≤ 9) ∧ (∀ s ∈ own, s.length ≤ 6) ∧ e = [some (bT b2), some (sL true ns), some (sL true own), none, none, none, none, none, none]) ?_ ?_
  · refine nx_cps fun R hR => ?_
    have t8 := f_take (P := P) (fuel := fuel) (k := k + 1) hT (b := b1) (m := 8) (by omega) (by omega)
    have t12 := f_take (P := P) (fuel := fuel) (k := k + 1) hT (b := tkB b1 8) (m := 12) (by omega) (by omega)
    have g0 : 0 ≤ tkD b1 8 := tkD_nn (by omega)
    have g1 : tkD b1 8 < 8 := tkD_lt (by omega)
    obtain ⟨c, hc⟩ := Int.eq_ofNat_of_zero_le g0
    rw [hc] at t8
    have fin : ∀ n : Nat, 1 ≤ n → n ≤ 9 → cut (ns.map T.str) none (some (n : Int)) = (ns.take n).map T.str ∧ (0 < (ns.take n).length ∧ (ns.take n).length ≤ 9) ∧ (∀ s ∈ ns.take n, s.length ≤ 6) ∧ capL ((ns.take n).map T.str) = some (sL true (ns.take n)) := by
      intro n h1 h2
      refine ⟨by rw [cut_pre (by rw [List.length_map]; omega), List.map_take], by rw [List.length_take]; omega, fun s hs => hnl6 s (List.mem_of_mem_take hs), ?_⟩
      unfold capL
      rw [if_pos ⟨by rw [List.length_map, List.length_take]; show _ ≤ 1048576; omega, freeL_str⟩]
    have ea : binT .add (.int 1) (.int c) = some (.int ((c + 1 : Nat) : Int)) := by
      show some (T.int (1 + (c : Int))) = _
      congr 2; omega
    by_cases c1 : tkD (tkB b1 8) 12 = 0
    · obtain ⟨e1, e2, e3, e4⟩ := fin 9 (by omega) (by omega)
      rw [show ((9 : Nat) : Int) = 9 from rfl] at e1
      generalize ns.take 9 = own at *
      have eb : biT .int [.bl true] = some (.int 1) := rfl
      simp -implicitDefEqProofs [T.free, T.freeL, T.get, T.set, T.whole, T.wholeL, T.frz, T.frzL, cmpT, eqT, slT, kidF_1, kidE, t8, t12, ea, eb, c1, e1, e4]
      exact nx_ok (hR _ ⟨_, own, e2, e3, rfl⟩)
    · obtain ⟨e1, e2, e3, e4⟩ := fin (c + 1) (by omega) (by omega)
      generalize ns.take (c + 1) = own at *
      have eb : biT .int [.bl false] = some (.int 0) := rfl
      generalize ((c + 1 : Nat) : Int) = ci at *
      simp -implicitDefEqProofs [T.free, T.freeL, T.get, T.set, T.whole, T.wholeL, T.frz, T.frzL, cmpT, eqT, slT, kidF_0, kidE, t8, t12, ea, eb, c1, e1, e4]
      exact nx_ok (hR _ ⟨_, own, e2, e3, rfl⟩)
  rintro _ ⟨b2, own, ho, hol, rfl⟩
  rw [bl_cons]
  refine is_next (R := fun e => ∃ x0, Ln x0 ∧ e = [some (bT b2), some (sL true ns), some (sL true own), some (.nd .lst true [x0]), none, none, none, none, none]) ?_ ?_
  · refine nx_cps fun R hR => ?_
    have ea : ∀ f, binT .add (.lst f [.str (Str.ofString "places")]) (sL true own) = some (sL true (Str.ofString "places" :: own)) := fun f => by
      show capL _ = _
      unfold capL
      rw [if_pos ⟨by simp; show _ ≤ 1048576; omega, by simp [T.freeL, T.free]⟩]
      rfl
    simp only [sL, List.map_cons] at ea
    simp -implicitDefEqProofs [T.free, T.freeL, T.get, T.set, T.whole, T.wholeL, T.frz, T.frzL, ea]
    exact nx_ok (hR _ ⟨_, ⟨Str.ofString "places" :: own, rfl, by simp; omega, by simpa [w1] using hol⟩, rfl⟩)
  rintro _ ⟨x0, hx0, rfl⟩
  rw [bl_cons]
  refine is_next (law_lines_f1 (k := k) hT hP (by omega) ho hnl6 hol hx0) ?_
  rintro _ ⟨b3, lines, o4, o5, o6, o7, o8, q1, q2, q3, q4, rfl⟩
  rw [bl_cons]
  refine is_next (R := fun e => ∃ b3 lines, (∀ t ∈ lines, Ln t) ∧ lines.length ≤ 40 ∧ e = [some (bT b3), some (sL true ns), some (sL true own), some (.nd .lst true lines), o4, o5, o6, o7, o8]) ?_ ?_
  · refine nx_cps fun R hR => ?_
    have t10 := f_take (P := P) (fuel := fuel) (k := k + 1) hT (b := b3) (m := 10) (by omega) (by omega)
    by_cases c1 : tkD b3 10 = 0
    · have e1 : cut lines (some 1) none = lines.drop 1 := cut_drop (l := lines) (p := 1) q2
      have e2 : cut lines none (some 1) = lines.take 1 := cut_take (l := lines) (p := 1) q2
      have hf : T.freeL lines = true := freeL_all.mpr fun t ht => (q1 t ht).free
      have f1 : capL (lines.drop 1) = some (.lst true (lines.drop 1)) := by
        unfold capL
        rw [if_pos ⟨by rw [List.length_drop]; show _ ≤ 1048576; omega, freeL_all.mpr fun t ht => (q1 t (List.mem_of_mem_drop ht)).free⟩]
      have f2 : capL (lines.take 1) = some (.lst true (lines.take 1)) := by
        unfold capL
        rw [if_pos ⟨by rw [List.length_take]; show _ ≤ 1048576; omega, freeL_all.mpr fun t ht => (q1 t (List.mem_of_mem_take ht)).free⟩]
      have q5 : ∀ t ∈ lines.drop 1 ++ lines.take 1, Ln t := fun t ht => (List.mem_append.mp ht).elim (fun h => q1 t (List.mem_of_mem_drop h)) fun h => q1 t (List.mem_of_mem_take h)
      have q6 : (lines.drop 1 ++ lines.take 1).length ≤ 40 := by rw [List.length_append, List.length_drop, List.length_take]; omega
      have f3 : binT .add (.lst true (lines.drop 1)) (.lst true (lines.take 1)) = some (.lst true (lines.drop 1 ++ lines.take 1)) := by
        show capL _ = _
        unfold capL
        rw [if_pos ⟨by show _ ≤ 1048576; omega, freeL_all.mpr fun t ht => (q5 t ht).free⟩]
      generalize lines.drop 1 ++ lines.take 1 = l3 at *
      generalize lines.drop 1 = l1 at *
      generalize lines.take 1 = l2 at *
      simp -implicitDefEqProofs [T.free, T.freeL, T.get, T.set, T.whole, T.wholeL, T.frz, T.frzL, cmpT, eqT, truT, slT, t10, c1, e1, e2, f1, f2, f3, hf]
      exact nx_ok (hR _ ⟨_, l3, q5, q6, rfl⟩)
    · simp -implicitDefEqProofs [T.free, T.freeL, T.get, Kd.deep, T.set, T.whole, T.wholeL, T.frz, T.frzL, cmpT, eqT, binT, putT, mmT, biT, truT, itemsK, itemsI, itemsT, slT, Key.t, kidF_0, kidF_1, kidF_2, t10, c1]
      exact nx_ok (hR _ ⟨_, lines, q1, q3, rfl⟩)
  rintro _ ⟨b4, lines, p1, p2, rfl⟩
  obtain ⟨wss, rfl, hw⟩ := lines_of p1
  rw [List.length_map] at p2
  have e1 := law_lines_l1 (P := P) (fuel := fuel) (k := k + 2) (wss := wss) (s0 := some (bT b4)) (s1 := some (sL true ns)) (s2 := some (sL true own)) (s4 := o4) (s5 := o5) (s6 := o6) (s7 := o7) (s8 := o8) hw (by omega) q4
  have w3 : Str.ofString "\n" = mk [10] := rfl
  have hlen : ∀ ws ∈ wss, (joinL 32 (ws.map L)).length ≤ 70 := fun ws hws => by
    obtain ⟨a1, a2⟩ := hw ws hws
    refine Nat.le_trans (joinL_len _) ?_
    have h1 : ((ws.map L).map fun w => w.length + 1).sum ≤ (ws.map L).length * 7 := sum_le fun w hw => by
      obtain ⟨s, hs, rfl⟩ := List.mem_map.mp hw
      have := a2 s hs
      rw [L_len] at this
      omega
    rw [List.length_map] at h1
    omega
  have j2 : mtT .join (.str (mk [10])) [sL true (wss.map fun ws => mk (joinL 32 (ws.map L)))] = some (.str (mk (joinL 10 (wss.map fun ws => joinL 32 (ws.map L))))) := by
    rw [mtT_join (by
      have h1 : ((wss.map fun ws => mk (joinL 32 (ws.map L))).map Str.length).sum ≤ (wss.map fun ws => mk (joinL 32 (ws.map L))).length * 70 := sum_le fun s hs => by
        obtain ⟨ws, hws, rfl⟩ := List.mem_map.mp hs
        rw [mk_len]
        exact hlen ws hws
      rw [List.length_map] at h1
      rw [mk_len, List.length_map]
      simp only [List.length_singleton]
      omega), joinS_mk]
    simp only [List.map_map, Function.comp_def, mk_list]
  have hfin : (joinL 10 (wss.map fun ws => joinL 32 (ws.map L))).length ≤ 5000 := by
    refine Nat.le_trans (joinL_len _) ?_
    have h1 : ((wss.map fun ws => joinL 32 (ws.map L)).map fun w => w.length + 1).sum ≤ (wss.map fun ws => joinL 32 (ws.map L)).length * 71 := sum_le fun w hw => by
      obtain ⟨ws, hws, rfl⟩ := List.mem_map.mp hw
      have := hlen ws hws
      omega
    rw [List.length_map] at h1
    omega
  generalize joinL 10 (wss.map fun ws => joinL 32 (ws.map L)) = lf at *
  generalize (wss.map fun ws => mk (joinL 32 (ws.map L))) = Q at *
  simp only [sL] at e1 j2
  simp -implicitDefEqProofs [T.free, w3, e1, j2]
  exact is_ok (hQ _ _ ⟨lf, b4, rfl, rfl, hfin⟩)
theorem f_law_told {f0 f1 f2 f3 fq : Nat} (h0 : P.fns[f0]? = some n_is_name) (h1 : P.fns[f1]? = some (n_are_names f0)) (h2 : P.fns[f2]? = some (n_read_places f1)) (h3 : P.fns[f3]? = some n_read_path) (h4 : P.fns[fr]? = some (n_read_yard f2 xe f3)) (hx : xfs P xe = [Str.ofString "line"]) (hm : xms P xe xe = some true) (h5 : P.fns[fq]? = some (n_law_told fr xe))
    {l : List Nat} (hl : l.length < 90000) : callT P fuel (k + 5) fq [.str (mk l)] = .ok (oR (rdY l)) [.str (mk l)] := by
  rw [callT_s h5 rfl]
  have e1 := f_read_yardA (P := P) (fuel := fuel) (k := k) h0 h1 h2 h3 h4 hx (l := l) (by omega)
  cases hr : rdY l with
  | ok y =>
    rw [hr] at e1
    have fy : (yP y).free = true := by simp [T.free, T.freeL]
    have e1 : callT P fuel (k + 4) fr [.str (mk l)] = .ok (yP y) [.str (mk l)] := e1
    show finC _ _ _ = .ok (yP y) _
    generalize yP y = Y at *
    simp -implicitDefEqProofs [c_law_told, c_law_told_y1, T.free, fy, e1]
  | error i =>
    rw [hr] at e1
    unfold oY at e1
    unfold oR
    simp -implicitDefEqProofs [c_law_told, c_law_told_y1, T.free, T.noex, T.noexL, noexE, e1, hx, hm, List.zip, List.lookup]
def rowT (p : Str × Str) : T := .nd .lst false [.str (mk wPath), .str p.1, .str p.2]
theorem freeL_rows {ps : List (Str × Str)} : T.freeL (ps.map rowT) = true := freeL_all.mpr fun t ht => by
  obtain ⟨p, _, rfl⟩ := List.mem_map.mp ht
  rfl
theorem law7_l1 {l : List Nat} {ss : List Str} {ps : List (Str × Str)} {s0 s1 s2 s3 s5 s6 s7 s9 : Option T} (hr : Rd l ss ps) (hl : l.length < 90000) :
    (ev c_law_l1).r (KK P fuel k [] []) [s0, s1, s2, s3, some (.str (mk l)), s5, s6, s7, none, s9] = .ok (.tmp (.nd .lst true (ps.map rowT))) [s0, s1, s2, s3, some (.str (mk l)), s5, s6, s7, none, s9] := by
  have w2 : Str.ofString " " = mk [32] := rfl
  have w3 : Str.ofString "\n" = mk [10] := rfl
  have e1 := mtT_split (c := 10) (show l.length < 1048576 by omega)
  have hp := hr.yd.pl
  have ht := (hr.yd.yt (by have := hr.s; omega) (by omega))
  have e2 : cut (((splitL 10 l).map mk).map T.str) (some 1) none = (ps.map lineQ).map fun w => T.str (mk w) := by
    rw [cut_drop1, ← List.map_drop, ← List.map_drop, hr.rows, List.map_map]; rfl
  have f1 : T.freeL (((splitL 10 l).map mk).map T.str) = true := freeL_str
  generalize (splitL 10 l).map mk = Q at *
  have e3 : capL ((ps.map lineQ).map fun w => T.str (mk w)) = some (.lst true ((ps.map lineQ).map fun w => T.str (mk w))) := by
    unfold capL
    rw [if_pos ⟨by simp; show _ ≤ 1048576; omega, freeL_all.mpr fun t ht => by obtain ⟨w, _, rfl⟩ := List.mem_map.mp ht; rfl⟩]
  have f2 : T.freeL ((ps.map lineQ).map fun w => T.str (mk w)) = true := freeL_all.mpr fun t ht => by obtain ⟨w, _, rfl⟩ := List.mem_map.mp ht; rfl
  have key := lcG_all (own := [8]) (K := KK P fuel k [] []) (tg := .tv 8) (tst := .nil) (elt := c_law_e1) (e := [s0, s1, s2, s3, some (.str (mk l)), s5, s6, s7, none, s9]) (fun p => T.str (mk (lineQ p))) ps rowT (by omega) (by simp) (by simp) (by
    intro p hpm acc ha R h1
    have hh := ht.pm p hpm
    have e5 := mtT_split (c := 32) (l := lineQ p) (by have := lineQ_len hh; omega)
    rw [split_lineQ hh] at e5
    simp only [sL, List.map_cons, List.map_nil, mk_L] at e5
    simp -implicitDefEqProofs [c_law_e1, T.free, T.freeL, T.whole, T.wholeL, T.frz, T.frzL, ha, w2, e5]
    exact ok_ok (h1 _ (by simp)))
  simp only [List.map_map, Function.comp_def] at e2 e3 f2
  simp only [sL] at e1
  simp -implicitDefEqProofs [c_law_l1, T.free, T.freeL, T.get, itemsK, itemsI, itemsT, slT, w3, e1, e2, e3, f1, f2]
  exact key
theorem law7_l2 {ps : List (Str × Str)} {a : Str} {s0 s1 s2 s3 s4 s5 : Option T} (hp : ps.length ≤ 1000) :
    (ev c_law_l2).r (KK P fuel k [] []) [s0, s1, s2, s3, s4, s5, some (.nd .lst true (ps.map rowT)), some (.str a), none, none] = .ok (.tmp (sL true (heads ps a))) [s0, s1, s2, s3, s4, s5, some (.nd .lst true (ps.map rowT)), some (.str a), none, none] := by
  have f2 : T.freeL (ps.map rowT) = true := freeL_rows
  have key := lcG_ty (own := [9]) (K := KK P fuel k [6] []) (tg := .tv 9) (tst := c_law_t1) (elt := c_law_e2) (e := [s0, s1, s2, s3, s4, s5, some (.nd .lst true (ps.map rowT)), some (.str a), none, none]) rowT ps (fun p => decide (p.1 = a)) (fun p => .str p.2) (by omega) (by simp) (by simp) (by
    rintro ⟨u, v⟩ hpm acc ha R h1 h2
    by_cases hu : u = a
    · subst hu
      simp -implicitDefEqProofs [c_law_t1, c_law_e2, rowT, T.free, T.freeL, T.get, Kd.deep, T.set, T.whole, T.wholeL, T.frz, T.frzL, cmpT, eqT, binT, putT, mmT, biT, truT, itemsK, itemsI, itemsT, slT, Key.t, kidF_0, kidF_1, kidF_2, ha]
      exact ok_ok (h1 (by simp) _ (by simp))
    · simp -implicitDefEqProofs [c_law_t1, c_law_e2, rowT, T.free, T.freeL, T.get, Kd.deep, T.set, T.whole, T.wholeL, T.frz, T.frzL, cmpT, eqT, binT, putT, mmT, biT, truT, itemsK, itemsI, itemsT, slT, Key.t, kidF_0, kidF_1, kidF_2, ha, hu]
      exact ok_ok (h2 (by simp [hu]) _ (by simp)))
  simp -implicitDefEqProofs [c_law_l2, T.free, T.get, itemsK, itemsI, itemsT, f2]
  rw [key]
  simp [heads, sL, Function.comp_def]
structure C7 (P : Prg) (fb ft fpk fnm f0 f1 f2 f3 fr fa fin fyr fln ftl frq fas fhf fcy fsy frp fpf xt xy : Nat) : Prop where
  hb : P.fns[fb]? = some n_law_box
  ht : P.fns[ft]? = some n_law_take
  hpk : P.fns[fpk]? = some (n_law_pick ft)
  hnm : P.fns[fnm]? = some (n_law_names ft)
  h0 : P.fns[f0]? = some n_is_name
  h1 : P.fns[f1]? = some (n_are_names f0)
  h2 : P.fns[f2]? = some (n_read_places f1)
  h3 : P.fns[f3]? = some n_read_path
  hr : P.fns[fr]? = some (n_read_yard f2 xt f3)
  ha : P.fns[fa]? = some (n_law_alike fa)
  hin : P.fns[fin]? = some n_law_is_name
  hyr : P.fns[fyr]? = some (n_law_yard_read fin)
  hln : P.fns[fln]? = some (n_law_lines fnm ft fpk)
  htl : P.fns[ftl]? = some (n_law_told fr xt)
  hrq : P.fns[frq]? = some (n_require xy)
  has : P.fns[fas]? = some n_are_strings
  hhf : P.fns[fhf]? = some (n_has_form fas)
  hcy : P.fns[fcy]? = some (n_check_yard frq fhf f0)
  hsy : P.fns[fsy]? = some n_show_yard
  hrp : P.fns[frp]? = some n_require_place
  hpf : P.fns[fpf]? = some (n_paths_from frp)
  xt1 : xfs P xt = [Str.ofString "line"]
  xt2 : xms P xt xt = some true
  xy1 : xfs P xy = [Str.ofString "word", Str.ofString "at"]
section
variable {fb ft fpk fnm f0 f1 f2 f3 fr fa fin fyr fln ftl frq fas fhf fcy fsy frp fpf xt xy : Nat}
theorem law7_f1 (C : C7 P fb ft fpk fnm f0 f1 f2 f3 fr fa fin fyr fln ftl frq fas fhf fcy fsy frp fpf xt xy) {ss : List Str} {ps : List (Str × Str)} {s0 s1 s2 s3 s4 s7 : Option T} (hp : ps.length ≤ 1000) :
    Nx ((ev (c_law_f1 fpf)).s (KK P fuel (k + 2) [] []) [s0, s1, s2, s3, s4, some (yT ss ps), some (.nd .lst true (ps.map rowT)), s7, none, none]) fun e => ∃ o7, e = [s0, s1, s2, s3, s4, some (yT ss ps), some (.nd .lst true (ps.map rowT)), o7, none, none] := by
  refine nx_cps fun R hR => ?_
  have ft : T.free (yT ss ps) = true := by simp [T.free, T.freeL]
  have e8 : ∀ x, ixR x (yT ss ps) (.int 0) = some (.tmp (sT ss)) := fun x => by rw [yT_eq, ixR_tup, kidF_0, kidE_s (by simp [T.free])]
  have pf := fun a (ha : a ∈ ss) => f_paths_from (P := P) (fuel := fuel) (k := k) C.hrp C.hpf (ps := ps) (a := a) ha (by omega)
  generalize yT ss ps = Y at *
  have l2 := fun a => law7_l2 (P := P) (fuel := fuel) (k := k + 2) (ps := ps) (a := a) (s0 := s0) (s1 := s1) (s2 := s2) (s3 := s3) (s4 := s4) (s5 := some Y) hp
  generalize ps.map rowT = RW at *
  simp -implicitDefEqProofs [c_law_f1, T.free, itemsK, itemsI, itemsT, ft, e8]
  refine nx_mono (forL_inv (fun r e => ∃ (rest : List Str) (o7 : Option T), (∀ s ∈ rest, s ∈ ss) ∧ r = rest.map T.str ∧ e = [s0, s1, s2, s3, s4, some Y, some (.nd .lst true RW), o7, none, none]) ?_ _ _ ⟨ss, s7, fun _ h => h, rfl, rfl⟩) ?_
  · rintro x r _ ⟨rest, o7, hm, hr, rfl⟩ R hR
    cases rest with
    | nil => cases hr
    | cons a rest =>
      cases hr
      have e1 := pf a (hm a List.mem_cons_self)
      have e2 := l2 a
      have hl : (heads ps a).length ≤ 1048576 := by
        unfold heads
        rw [List.length_map]
        exact Nat.le_trans (List.length_filter_le _ _) (by omega)
      have e3 : biT .list [sT (heads ps a)] = some (sL true (heads ps a)) := biT_listT freeL_str (by simpa using hl)
      have e4 : T.eqv (sL true (heads ps a)) (sL true (heads ps a)) = some true := eqv_sL_same
      generalize heads ps a = hs at *
      have f3 : T.free (sT hs) = true := by simp [T.free]
      simp only [sL] at e2 e3 e4
      simp -implicitDefEqProofs [c_law_b1, T.free, truT, cmpT, eqT, ft, f3, e1, e2, e3, e4]
      exact nx_ok (hR _ ⟨rest, _, fun s h => hm s (List.mem_cons_of_mem _ h), rfl, rfl⟩)
  · rintro e ⟨rest, o7, hm, hr, rfl⟩
    exact hR _ ⟨o7, rfl⟩
end
theorem law7_b2 (C : C7 P fb ft fpk fnm f0 f1 f2 f3 fr fa fin fyr fln ftl frq fas fhf fcy fsy frp fpf xt xy) {b : Bx} {s0 s1 s3 s4 s5 s6 s7 : Option T} :
    Nx ((ev (c_law_b2 fln ftl fa fyr fcy fsy fpf)).bl (KK P fuel (k + 6) [] []) [s0, s1, some (bT b), s3, s4, s5, s6, s7, none, none]) fun e => ∃ b' o4 o5 o6 o7, e = [s0, s1, some (bT b'), s3, o4, o5, o6, o7, none, none] := by
  obtain ⟨t, fin, hln, l, b1, rfl, rfl, hl⟩ := f_law_lines (P := P) (fuel := fuel) (k := k + 3) C.ht C.hnm C.hpk C.hln (b := b)
  have hln : callT P fuel (k + 6) fln [bT b] = _ := hln
  have htl := f_law_told (P := P) (fuel := fuel) (k := k + 1) C.h0 C.h1 C.h2 C.h3 C.hr C.xt1 C.xt2 C.htl (l := l) (by omega)
  have htl : callT P fuel (k + 6) ftl [.str (mk l)] = _ := htl
  have hyr := f_law_yard_read (P := P) (fuel := fuel) (k := k + 4) C.hin C.hyr (l := l) (by omega)
  have hyr : callT P fuel (k + 6) fyr [.str (mk l)] = _ := hyr
  unfold c_law_b2
  cases hr : rdY l with
  | error i =>
    rw [hr, oR] at htl hyr
    have ha := alike_int (P := P) (fuel := fuel) (k := k + 5) C.ha (i := (i : Int))
    refine nx_cps fun R hR => ?_
    simp -implicitDefEqProofs [T.free, truT, anyO, clT, tyT, clY, subY, hln, htl, hyr, ha]
    exact nx_ok (hR _ ⟨b1, _, _, _, _, rfl⟩)
  | ok y =>
    obtain ⟨ss, ps⟩ := y
    have hg := rdY_ok hr
    dsimp only at hg
    have hy := hg.yd.yt (by have := hg.s; omega) (by omega)
    have hs8 := hg.s
    have hp24 := hg.yd.pl
    rw [hr, oR] at htl hyr
    have htl : callT P fuel (k + 6) ftl [.str (mk l)] = .ok (yT ss ps) [.str (mk l)] := htl
    have hyr : callT P fuel (k + 6) fyr [.str (mk l)] = .ok (yT ss ps) [.str (mk l)] := hyr
    have ha := alike_yT (P := P) (fuel := fuel) (k := k + 2) C.ha (ss := ss) (ps := ps) (by omega) (by omega)
    have ha : callT P fuel (k + 6) fa [yT ss ps, yT ss ps] = _ := ha
    have hcy := f_check_yard (P := P) (fuel := fuel) (k := k + 3) C.hrq C.h0 C.has C.hhf C.hcy C.xy1 (ss := ss) (ps := ps) (by omega) (by omega) (fun s hs => by have := (hg.yd.nm s hs).2.1; rw [L_len]; simp at this ⊢; omega)
    have hcy : callT P fuel (k + 6) fcy [yT ss ps] = _ := hcy
    rw [ckY_good hg.yd hs8, oE] at hcy
    have hsy := f_show_yard (P := P) (fuel := fuel) (k := k + 5) C.hsy hy
    rw [hg.text] at hsy
    have l1 := fun s0 s1 s2 s3 s5 s6 s7 s9 => law7_l1 (P := P) (fuel := fuel) (k := k + 6) (s0 := s0) (s1 := s1) (s2 := s2) (s3 := s3) (s5 := s5) (s6 := s6) (s7 := s7) (s9 := s9) hg (by omega)
    obtain ⟨e, he, o7, rfl⟩ := law7_f1 (P := P) (fuel := fuel) (k := k + 4) C (ss := ss) (ps := ps) (s0 := s0) (s1 := s1) (s2 := some (bT b1)) (s3 := s3) (s4 := some (.str (mk l))) (s7 := s7) (by omega)
    have he : (ev (c_law_f1 fpf)).s (KK P fuel (k + 6) [] []) _ = _ := he
    have fy : (yT ss ps).free = true := by simp [T.free, T.freeL]
    have ct : clT .tuple (yT ss ps) = some true := rfl
    generalize yT ss ps = Y at *
    generalize ps.map rowT = RW at *
    refine nx_cps fun R hR => ?_
    simp -implicitDefEqProofs [T.free, truT, anyO, cmpT, eqT, fy, ct, hln, htl, hyr, ha, hcy, hsy, l1, he]
    exact nx_ok (hR _ ⟨b1, _, _, _, _, rfl⟩)
theorem law7_f2 (C : C7 P fb ft fpk fnm f0 f1 f2 f3 fr fa fin fyr fln ftl frq fas fhf fcy fsy frp fpf xt xy) {b : Bx} {s0 s1 s3 s4 s5 s6 s7 : Option T} :
    Nx ((ev (c_law_f2 fln ftl fa fyr fcy fsy fpf)).s (KK P fuel (k + 6) [] []) [s0, s1, some (bT b), s3, s4, s5, s6, s7, none, none]) fun e => ∃ b' o3 o4 o5 o6 o7, e = [s0, s1, some (bT b'), o3, o4, o5, o6, o7, none, none] := by
  refine nx_cps fun R hR => ?_
  simp -implicitDefEqProofs [c_law_f2, itemsK]
  refine nx_mono (forL_inv (fun r e => ∃ b' o3 o4 o5 o6 o7, e = [s0, s1, some (bT b'), o3, o4, o5, o6, o7, none, none]) ?_ _ _ ⟨b, s3, s4, s5, s6, s7, rfl⟩) ?_
  · rintro x r _ ⟨b', o3, o4, o5, o6, o7, rfl⟩ R hR
    rw [stE_eq, a_tv]
    simp -implicitDefEqProofs []
    refine nx_mono (law7_b2 C) ?_
    rintro e ⟨b', o4, o5, o6, o7, rfl⟩
    exact hR _ ⟨_, _, _, _, _, _, rfl⟩
  · rintro e ⟨b', o3, o4, o5, o6, o7, rfl⟩
    exact hR _ ⟨b', o3, o4, o5, o6, o7, rfl⟩
theorem law7_f3 (C : C7 P fb ft fpk fnm f0 f1 f2 f3 fr fa fin fyr fln ftl frq fas fhf fcy fsy frp fpf xt xy) {ns : List Int} (hl : ns.length ≤ 1000) :
    Nx ((ev (c_law_f3 fb fln ftl fa fyr fcy fsy fpf)).s (KK P fuel (k + 6) [] []) [some (.nd .scr false (ns.map .int)), none, none, none, none, none, none, none, none, none]) fun e => ∃ o1 o2 o3 o4 o5 o6 o7, e = [some (.nd .scr false (ns.map .int)), o1, o2, o3, o4, o5, o6, o7, none, none] := by
  refine nx_cps fun R hR => ?_
  have hmax : ∃ n : Nat, (if (if (ns.length : Int) < 5 then (ns.length : Int) else 5) > 2 then (if (ns.length : Int) < 5 then (ns.length : Int) else 5) else 2) = n ∧ n ≤ 5 := by
    by_cases h : (ns.length : Int) < 5
    · rw [if_pos h]
      by_cases h2 : (ns.length : Int) > 2
      · exact ⟨ns.length, by rw [if_pos h2], by omega⟩
      · exact ⟨2, by rw [if_neg h2]; rfl, by omega⟩
    · rw [if_neg h]
      exact ⟨5, by simp, by omega⟩
  obtain ⟨n, hn, hn5⟩ := hmax
  have z1 : (n : Int) < 1000000 := by omega
  have z2 : (-1000000 : Int) < n := by omega
  have sc : T.free (.nd .scr false (ns.map .int)) = true := by simp [T.free]
  have sl : biT .len [.nd .scr false (ns.map .int)] = some (.int ns.length) := by simp [biT]
  have bx := fun (j : Int) (h : 0 ≤ j) => f_box (P := P) (fuel := fuel) (k := k + 5) (fm := fb) C.hb (ns := ns) (j := j) h (by omega)
  generalize T.nd .scr false (ns.map .int) = st at *
  have e0 : biT .min2 [.int 5, .int ns.length] = some (.int (if (ns.length : Int) < 5 then (ns.length : Int) else 5)) := rfl
  have e1 : ∀ m : Int, biT .max2 [.int 2, .int m] = some (.int (if m > 2 then m else 2)) := fun _ => rfl
  simp -implicitDefEqProofs only [c_law_f3, s_for, i_r1, r_bi, l_cons, l_nil, r_int, bindD_ok, withP_t, r_var, List.getElem?_cons_zero, rdO_s, sc, if_true, lookAll_cons, lookAll_nil, look_t, laO_s, biO_s, sl, liftR_s, e0, e1, hn, r1O_s, z1, z2, and_self, runD_ok, forO_s, itemsK, forI_s, lockRs_nil]
  refine nx_mono (forL_inv (fun r e => ∃ (j : Nat) (o1 o2 o3 o4 o5 o6 o7 : Option T), r = (List.range' j (n - j)).map (fun (i : Nat) => T.int (i : Int)) ∧ e = [some st, o1, o2, o3, o4, o5, o6, o7, none, none]) ?_ _ _ ⟨0, none, none, none, none, none, none, none, by rw [range'_T]; simp, rfl⟩) ?_
  · rintro x r _ ⟨j, o1, o2, o3, o4, o5, o6, o7, hr, rfl⟩ R hR
    obtain ⟨m, hm⟩ : ∃ m, n - j = m + 1 := by
      cases e : n - j with
      | zero => rw [e] at hr; cases hr
      | succ n => exact ⟨n, rfl⟩
    rw [hm, List.range'_succ, List.map_cons] at hr
    cases hr
    obtain ⟨b, hb⟩ := bx j (by omega)
    obtain ⟨e, he, b', p3, p4, p5, p6, p7, rfl⟩ := law7_f2 (P := P) (fuel := fuel) (k := k) C (b := b) (s0 := some st) (s1 := some (.int j)) (s3 := o3) (s4 := o4) (s5 := o5) (s6 := o6) (s7 := o7)
    simp -implicitDefEqProofs [c_law_b3, sc, T.free, hb, he]
    exact nx_ok (hR _ ⟨j + 1, _, _, _, _, _, _, _, by rw [show n - (j + 1) = m by omega], rfl⟩)
  · rintro e ⟨j, o1, o2, o3, o4, o5, o6, o7, hr, rfl⟩
    exact hR _ ⟨o1, o2, o3, o4, o5, o6, o7, rfl⟩
theorem f_law {fl : Nat} (C : C7 P fb ft fpk fnm f0 f1 f2 f3 fr fa fin fyr fln ftl frq fas fhf fcy fsy frp fpf xt xy) (hL : P.fns[fl]? = some (n_law fb fln ftl fa fyr fcy fsy fpf)) {ns : List Int} (hl : ns.length ≤ 1000) :
    callT P fuel (k + 7) fl [.nd .scr false (ns.map .int)] = .ok (.bl true) [.nd .scr false (ns.map .int)] := by
  rw [callT_s hL rfl]
  obtain ⟨e, he, o1, o2, o3, o4, o5, o6, o7, rfl⟩ := law7_f3 (P := P) (fuel := fuel) (k := k) C hl
  have sc : T.free (.nd .scr false (ns.map .int)) = true := by simp [T.free]
  generalize T.nd .scr false (ns.map .int) = st at *
  simp -implicitDefEqProofs [c_law, sc, he]
end
end TI.M
end
section
set_option maxHeartbeats 0
/-! J07: the join (printed by join.py). -/
namespace L07
open PySem L2 TI TI.M
abbrev prog : Program := PySem.Challenge.pw_eatenways_k07_whole_lines_of_words
-- row: k07_whole_lines_of_words
def top (i : Nat) : Stmt := prog.main.body.getD i (.Pass ⟨0, 0, 0, 0⟩)
def d0 : Def := ⟨(Str.ofString "is_name"), L2.defArgs (top 10), L2.defBody (top 10), L2.defScope (top 10), [(Str.ofString "text"), (Str.ofString "letter")], [(Str.ofString "text")]⟩
def d1 : Def := ⟨(Str.ofString "are_strings"), L2.defArgs (top 11), L2.defBody (top 11), L2.defScope (top 11), [(Str.ofString "value"), (Str.ofString "item")], [(Str.ofString "value")]⟩
def d2 : Def := ⟨(Str.ofString "has_form"), L2.defArgs (top 12), L2.defBody (top 12), L2.defScope (top 12), [(Str.ofString "value"), (Str.ofString "path")], [(Str.ofString "value")]⟩
def d3 : Def := ⟨(Str.ofString "require"), L2.defArgs (top 13), L2.defBody (top 13), L2.defScope (top 13), [(Str.ofString "condition"), (Str.ofString "word"), (Str.ofString "at")], [(Str.ofString "condition"), (Str.ofString "word"), (Str.ofString "at")]⟩
def d4 : Def := ⟨(Str.ofString "check_yard"), L2.defArgs (top 14), L2.defBody (top 14), L2.defScope (top 14), [(Str.ofString "value"), (Str.ofString "places"), (Str.ofString "paths"), (Str.ofString "index"), (Str.ofString "place"), (Str.ofString "is_new"), (Str.ofString "tail"), (Str.ofString "head")], [(Str.ofString "value")]⟩
def d5 : Def := ⟨(Str.ofString "require_place"), L2.defArgs (top 15), L2.defBody (top 15), L2.defScope (top 15), [(Str.ofString "yard"), (Str.ofString "place")], [(Str.ofString "yard"), (Str.ofString "place")]⟩
def d6 : Def := ⟨(Str.ofString "paths_from"), L2.defArgs (top 16), L2.defBody (top 16), L2.defScope (top 16), [(Str.ofString "yard"), (Str.ofString "place"), (Str.ofString "tail"), (Str.ofString "head")], [(Str.ofString "yard"), (Str.ofString "place")]⟩
def d7 : Def := ⟨(Str.ofString "are_names"), L2.defArgs (top 18), L2.defBody (top 18), L2.defScope (top 18), [(Str.ofString "words"), (Str.ofString "word")], [(Str.ofString "words")]⟩
def d8 : Def := ⟨(Str.ofString "show_yard"), L2.defArgs (top 19), L2.defBody (top 19), L2.defScope (top 19), [(Str.ofString "yard"), (Str.ofString "lines"), (Str.ofString "places"), (Str.ofString "paths"), (Str.ofString "tail"), (Str.ofString "head")], [(Str.ofString "yard")]⟩
def d9 : Def := ⟨(Str.ofString "read_places"), L2.defArgs (top 20), L2.defBody (top 20), L2.defScope (top 20), [(Str.ofString "line"), (Str.ofString "words")], [(Str.ofString "line")]⟩
def d10 : Def := ⟨(Str.ofString "read_path"), L2.defArgs (top 21), L2.defBody (top 21), L2.defScope (top 21), [(Str.ofString "places"), (Str.ofString "paths"), (Str.ofString "line"), (Str.ofString "words"), (Str.ofString "word"), (Str.ofString "tail"), (Str.ofString "head")], [(Str.ofString "places"), (Str.ofString "paths"), (Str.ofString "line")]⟩
def d11 : Def := ⟨(Str.ofString "read_yard"), L2.defArgs (top 22), L2.defBody (top 22), L2.defScope (top 22), [(Str.ofString "text"), (Str.ofString "places"), (Str.ofString "lines"), (Str.ofString "paths"), (Str.ofString "index"), (Str.ofString "line"), (Str.ofString "path")], [(Str.ofString "text")]⟩
def d12 : Def := ⟨(Str.ofString "_law_box"), L2.defArgs (top 24), L2.defBody (top 24), L2.defScope (top 24), [(Str.ofString "_law_script"), (Str.ofString "_law_k"), (Str.ofString "_law_cell"), (Str.ofString "_law_seed")], [(Str.ofString "_law_script"), (Str.ofString "_law_k")]⟩
def d13 : Def := ⟨(Str.ofString "_law_take"), L2.defArgs (top 25), L2.defBody (top 25), L2.defScope (top 25), [(Str.ofString "_law_box_here"), (Str.ofString "_law_many"), (Str.ofString "_law_first"), (Str.ofString "_law_digit")], [(Str.ofString "_law_box_here"), (Str.ofString "_law_many")]⟩
def d14 : Def := ⟨(Str.ofString "_law_pick"), L2.defArgs (top 26), L2.defBody (top 26), L2.defScope (top 26), [(Str.ofString "_law_box_here"), (Str.ofString "_law_items")], [(Str.ofString "_law_box_here"), (Str.ofString "_law_items")]⟩
def d15 : Def := ⟨(Str.ofString "_law_names"), L2.defArgs (top 27), L2.defBody (top 27), L2.defScope (top 27), [(Str.ofString "_law_box_here"), (Str.ofString "_law_many"), (Str.ofString "_law_words"), (Str.ofString "_law_stem"), (Str.ofString "_law_k"), (Str.ofString "_law_letters"), (Str.ofString "_law_form"), (Str.ofString "_law_first"), (Str.ofString "_law_short"), (Str.ofString "_law_pairs"), (Str.ofString "_law_spot"), (Str.ofString "_law_found"), (Str.ofString "_law_letter"), (Str.ofString "_law_name"), (Str.ofString "_law_word")], [(Str.ofString "_law_box_here"), (Str.ofString "_law_many")]⟩
def d16 : Def := ⟨(Str.ofString "_law_alike"), L2.defArgs (top 28), L2.defBody (top 28), L2.defScope (top 28), [(Str.ofString "_law_found"), (Str.ofString "_law_due"), (Str.ofString "_law_one"), (Str.ofString "_law_other")], [(Str.ofString "_law_found"), (Str.ofString "_law_due")]⟩
def d17 : Def := ⟨(Str.ofString "_law_is_name"), L2.defArgs (top 29), L2.defBody (top 29), L2.defScope (top 29), [(Str.ofString "_law_word"), (Str.ofString "_law_sign")], [(Str.ofString "_law_word")]⟩
def d18 : Def := ⟨(Str.ofString "_law_yard_read"), L2.defArgs (top 30), L2.defBody (top 30), L2.defScope (top 30), [(Str.ofString "_law_text"), (Str.ofString "_law_words"), (Str.ofString "_law_places"), (Str.ofString "_law_k"), (Str.ofString "_law_lines_here"), (Str.ofString "_law_paths"), (Str.ofString "_law_word")], [(Str.ofString "_law_text")]⟩
def d19 : Def := ⟨(Str.ofString "_law_lines"), L2.defArgs (top 31), L2.defBody (top 31), L2.defScope (top 31), [(Str.ofString "_law_box_here"), (Str.ofString "_law_names_here"), (Str.ofString "_law_own"), (Str.ofString "_law_lines_here"), (Str.ofString "_law_turn"), (Str.ofString "_law_line"), (Str.ofString "_law_one"), (Str.ofString "_law_other"), (Str.ofString "_law_strange")], [(Str.ofString "_law_box_here")]⟩
def d20 : Def := ⟨(Str.ofString "_law_told"), L2.defArgs (top 32), L2.defBody (top 32), L2.defScope (top 32), [(Str.ofString "_law_text"), (Str.ofString "_law_found"), (Str.ofString "e")], [(Str.ofString "_law_text")]⟩
def d21 : Def := ⟨(Str.ofString "law"), L2.defArgs (top 33), L2.defBody (top 33), L2.defScope (top 33), [(Str.ofString "_law_script"), (Str.ofString "_law_k"), (Str.ofString "_law_box_here"), (Str.ofString "_law_turn"), (Str.ofString "_law_text"), (Str.ofString "_law_found"), (Str.ofString "_law_rows"), (Str.ofString "_law_place"), (Str.ofString "_law_line"), (Str.ofString "_law_row")], [(Str.ofString "_law_script")]⟩
def ds : List Def := [d0, d1, d2, d3, d4, d5, d6, d7, d8, d9, d10, d11, d12, d13, d14, d15, d16, d17, d18, d19, d20, d21]
def e0 : ExD := ⟨(Str.ofString "WayError"), (Str.ofString "ValueError"), [], [], ⟨[], [], none, [], [], none, []⟩, [], ⟨.function, [], false, false, []⟩⟩
def e1 : ExD := ⟨(Str.ofString "NoYard"), (Str.ofString "WayError"), [(Str.ofString "word"), (Str.ofString "at")], [(Str.ofString "self"), (Str.ofString "word"), (Str.ofString "at")], L2.defArgs (clsStmt (top 2) 0), L2.defBody (clsStmt (top 2) 0), L2.defScope (clsStmt (top 2) 0)⟩
def e2 : ExD := ⟨(Str.ofString "NoText"), (Str.ofString "WayError"), [(Str.ofString "line")], [(Str.ofString "self"), (Str.ofString "line")], L2.defArgs (clsStmt (top 3) 0), L2.defBody (clsStmt (top 3) 0), L2.defScope (clsStmt (top 3) 0)⟩
def es : List ExD := [e0, e1, e2]
def mx : List (List Bool) := [[true, false, false], [true, true, false], [true, false, true]]
def tb : List (Str × GE) := [((Str.ofString "PLACES"), .key (.inl 8)), ((Str.ofString "PATHS"), .key (.inl 24)), ((Str.ofString "LETTERS"), .key (.inr (Str.ofString "abcdefghijklmnopqrstuvwxyz"))), ((Str.ofString "NAME_LENGTH"), .key (.inl 6)), ((Str.ofString "is_name"), .fn 0 1), ((Str.ofString "are_strings"), .fn 1 1), ((Str.ofString "has_form"), .fn 2 1), ((Str.ofString "require"), .fn 3 3), ((Str.ofString "check_yard"), .fn 4 1), ((Str.ofString "require_place"), .fn 5 2), ((Str.ofString "paths_from"), .fn 6 2), ((Str.ofString "are_names"), .fn 7 1), ((Str.ofString "show_yard"), .fn 8 1), ((Str.ofString "read_places"), .fn 9 1), ((Str.ofString "read_path"), .fn 10 3), ((Str.ofString "read_yard"), .fn 11 1), ((Str.ofString "_law_box"), .fn 12 2), ((Str.ofString "_law_take"), .fn 13 2), ((Str.ofString "_law_pick"), .fn 14 2), ((Str.ofString "_law_names"), .fn 15 2), ((Str.ofString "_law_alike"), .fn 16 2), ((Str.ofString "_law_is_name"), .fn 17 1), ((Str.ofString "_law_yard_read"), .fn 18 1), ((Str.ofString "_law_lines"), .fn 19 1), ((Str.ofString "_law_told"), .fn 20 1), ((Str.ofString "WayError"), .exc 0 0), ((Str.ofString "NoYard"), .exc 1 2), ((Str.ofString "NoText"), .exc 2 1), ((Str.ofString "word"), .fld), ((Str.ofString "at"), .fld), ((Str.ofString "line"), .fld)]
-- law: def 21
theorem exok1 : ExOk e1 := ⟨⟨rfl, rfl, rfl, by decide +kernel, rfl, by decide +kernel, by decide +kernel⟩, ⟨⟨_, _, _, _, _, _, _, _, _, rfl, rfl, .inr ⟨_, _, _, _, _, _, _, _, _, _, _, _, rfl, rfl, rfl⟩⟩⟩, rfl, rfl, by decide +kernel, by decide +kernel, fun _ _ _ _ _ _ us hl => match us, hl with | [_, _, _], _ => rfl⟩
theorem exok2 : ExOk e2 := ⟨⟨rfl, rfl, rfl, by decide +kernel, rfl, by decide +kernel, by decide +kernel⟩, ⟨⟨_, _, _, _, _, _, _, _, _, rfl, rfl, .inl ⟨_, _, _, _, _, _, rfl, rfl, rfl⟩⟩⟩, rfl, rfl, by decide +kernel, by decide +kernel, fun _ _ _ _ _ _ us hl => match us, hl with | [_, _], _ => rfl⟩
theorem ok0 : DefOk d0 := ⟨⟨rfl, rfl, rfl, by decide +kernel, rfl, by decide +kernel, by decide +kernel⟩, fun _ _ _ _ _ _ us hl => match us, hl with | [_], _ => rfl⟩
theorem ok1 : DefOk d1 := ⟨⟨rfl, rfl, rfl, by decide +kernel, rfl, by decide +kernel, by decide +kernel⟩, fun _ _ _ _ _ _ us hl => match us, hl with | [_], _ => rfl⟩
theorem ok2 : DefOk d2 := ⟨⟨rfl, rfl, rfl, by decide +kernel, rfl, by decide +kernel, by decide +kernel⟩, fun _ _ _ _ _ _ us hl => match us, hl with | [_], _ => rfl⟩
theorem ok3 : DefOk d3 := ⟨⟨rfl, rfl, rfl, by decide +kernel, rfl, by decide +kernel, by decide +kernel⟩, fun _ _ _ _ _ _ us hl => match us, hl with | [_, _, _], _ => rfl⟩
theorem ok4 : DefOk d4 := ⟨⟨rfl, rfl, rfl, by decide +kernel, rfl, by decide +kernel, by decide +kernel⟩, fun _ _ _ _ _ _ us hl => match us, hl with | [_], _ => rfl⟩
theorem ok5 : DefOk d5 := ⟨⟨rfl, rfl, rfl, by decide +kernel, rfl, by decide +kernel, by decide +kernel⟩, fun _ _ _ _ _ _ us hl => match us, hl with | [_, _], _ => rfl⟩
theorem ok6 : DefOk d6 := ⟨⟨rfl, rfl, rfl, by decide +kernel, rfl, by decide +kernel, by decide +kernel⟩, fun _ _ _ _ _ _ us hl => match us, hl with | [_, _], _ => rfl⟩
theorem ok7 : DefOk d7 := ⟨⟨rfl, rfl, rfl, by decide +kernel, rfl, by decide +kernel, by decide +kernel⟩, fun _ _ _ _ _ _ us hl => match us, hl with | [_], _ => rfl⟩
theorem ok8 : DefOk d8 := ⟨⟨rfl, rfl, rfl, by decide +kernel, rfl, by decide +kernel, by decide +kernel⟩, fun _ _ _ _ _ _ us hl => match us, hl with | [_], _ => rfl⟩
theorem ok9 : DefOk d9 := ⟨⟨rfl, rfl, rfl, by decide +kernel, rfl, by decide +kernel, by decide +kernel⟩, fun _ _ _ _ _ _ us hl => match us, hl with | [_], _ => rfl⟩
theorem ok10 : DefOk d10 := ⟨⟨rfl, rfl, rfl, by decide +kernel, rfl, by decide +kernel, by decide +kernel⟩, fun _ _ _ _ _ _ us hl => match us, hl with | [_, _, _], _ => rfl⟩
theorem ok11 : DefOk d11 := ⟨⟨rfl, rfl, rfl, by decide +kernel, rfl, by decide +kernel, by decide +kernel⟩, fun _ _ _ _ _ _ us hl => match us, hl with | [_], _ => rfl⟩
theorem ok12 : DefOk d12 := ⟨⟨rfl, rfl, rfl, by decide +kernel, rfl, by decide +kernel, by decide +kernel⟩, fun _ _ _ _ _ _ us hl => match us, hl with | [_, _], _ => rfl⟩
theorem ok13 : DefOk d13 := ⟨⟨rfl, rfl, rfl, by decide +kernel, rfl, by decide +kernel, by decide +kernel⟩, fun _ _ _ _ _ _ us hl => match us, hl with | [_, _], _ => rfl⟩
theorem ok14 : DefOk d14 := ⟨⟨rfl, rfl, rfl, by decide +kernel, rfl, by decide +kernel, by decide +kernel⟩, fun _ _ _ _ _ _ us hl => match us, hl with | [_, _], _ => rfl⟩
theorem ok15 : DefOk d15 := ⟨⟨rfl, rfl, rfl, by decide +kernel, rfl, by decide +kernel, by decide +kernel⟩, fun _ _ _ _ _ _ us hl => match us, hl with | [_, _], _ => rfl⟩
theorem ok16 : DefOk d16 := ⟨⟨rfl, rfl, rfl, by decide +kernel, rfl, by decide +kernel, by decide +kernel⟩, fun _ _ _ _ _ _ us hl => match us, hl with | [_, _], _ => rfl⟩
theorem ok17 : DefOk d17 := ⟨⟨rfl, rfl, rfl, by decide +kernel, rfl, by decide +kernel, by decide +kernel⟩, fun _ _ _ _ _ _ us hl => match us, hl with | [_], _ => rfl⟩
theorem ok18 : DefOk d18 := ⟨⟨rfl, rfl, rfl, by decide +kernel, rfl, by decide +kernel, by decide +kernel⟩, fun _ _ _ _ _ _ us hl => match us, hl with | [_], _ => rfl⟩
theorem ok19 : DefOk d19 := ⟨⟨rfl, rfl, rfl, by decide +kernel, rfl, by decide +kernel, by decide +kernel⟩, fun _ _ _ _ _ _ us hl => match us, hl with | [_], _ => rfl⟩
theorem ok20 : DefOk d20 := ⟨⟨rfl, rfl, rfl, by decide +kernel, rfl, by decide +kernel, by decide +kernel⟩, fun _ _ _ _ _ _ us hl => match us, hl with | [_], _ => rfl⟩
theorem ok21 : DefOk d21 := ⟨⟨rfl, rfl, rfl, by decide +kernel, rfl, by decide +kernel, by decide +kernel⟩, fun _ _ _ _ _ _ us hl => match us, hl with | [_], _ => rfl⟩

theorem code0 : d0.fn tb 60 = n_is_name := by kernel_rfl
theorem code1 : d1.fn tb 60 = n_are_strings := by kernel_rfl
theorem code2 : d2.fn tb 60 = n_has_form 1 := by kernel_rfl
theorem code3 : d3.fn tb 60 = n_require 1 := by kernel_rfl
theorem code4 : d4.fn tb 60 = n_check_yard 3 2 0 := by kernel_rfl
theorem code5 : d5.fn tb 60 = n_require_place := by kernel_rfl
theorem code6 : d6.fn tb 60 = n_paths_from 5 := by kernel_rfl
theorem code7 : d7.fn tb 60 = n_are_names 0 := by kernel_rfl
theorem code8 : d8.fn tb 60 = n_show_yard := by kernel_rfl
theorem code9 : d9.fn tb 60 = n_read_places 7 := by kernel_rfl
theorem code10 : d10.fn tb 60 = n_read_path := by kernel_rfl
theorem code11 : d11.fn tb 60 = n_read_yard 9 2 10 := by kernel_rfl
theorem code12 : d12.fn tb 60 = n_law_box := by kernel_rfl
theorem code13 : d13.fn tb 60 = n_law_take := by kernel_rfl
theorem code14 : d14.fn tb 60 = n_law_pick 13 := by kernel_rfl
theorem code15 : d15.fn tb 60 = n_law_names 13 := by kernel_rfl
theorem code16 : d16.fn tb 60 = n_law_alike 16 := by kernel_rfl
theorem code17 : d17.fn tb 60 = n_law_is_name := by kernel_rfl
theorem code18 : d18.fn tb 60 = n_law_yard_read 17 := by kernel_rfl
theorem code19 : d19.fn tb 60 = n_law_lines 15 13 14 := by kernel_rfl
theorem code20 : d20.fn tb 60 = n_law_told 11 2 := by kernel_rfl
theorem code21 : d21.fn tb 60 = n_law 12 19 20 16 18 4 8 6 := by kernel_rfl
def P : Prg := { fns := [n_is_name, n_are_strings, n_has_form 1, n_require 1, n_check_yard 3 2 0, n_require_place, n_paths_from 5, n_are_names 0, n_show_yard, n_read_places 7, n_read_path, n_read_yard 9 2 10, n_law_box, n_law_take, n_law_pick 13, n_law_names 13, n_law_alike 16, n_law_is_name, n_law_yard_read 17, n_law_lines 15 13 14, n_law_told 11 2, n_law 12 19 20 16 18 4 8 6], xf := es.map (·.fields), xm := mx }
theorem prg_eq : prg es mx ds tb 60 = P := by
  show ({ fns := [d0.fn tb 60, d1.fn tb 60, d2.fn tb 60, d3.fn tb 60, d4.fn tb 60, d5.fn tb 60, d6.fn tb 60, d7.fn tb 60, d8.fn tb 60, d9.fn tb 60, d10.fn tb 60, d11.fn tb 60, d12.fn tb 60, d13.fn tb 60, d14.fn tb 60, d15.fn tb 60, d16.fn tb 60, d17.fn tb 60, d18.fn tb 60, d19.fn tb 60, d20.fn tb 60, d21.fn tb 60], xf := es.map (·.fields), xm := mx } : Prg) = _
  rw [code0, code1, code2, code3, code4, code5, code6, code7, code8, code9, code10, code11, code12, code13, code14, code15, code16, code17, code18, code19, code20, code21]
  rfl
theorem all_ok : ∀ d ∈ ds, DefOk d := by
  intro d hd
  simp only [ds, List.mem_cons, List.not_mem_nil, or_false] at hd
  rcases hd with rfl | rfl | rfl | rfl | rfl | rfl | rfl | rfl | rfl | rfl | rfl | rfl | rfl | rfl | rfl | rfl | rfl | rfl | rfl | rfl | rfl | rfl
  · exact ok0
  · exact ok1
  · exact ok2
  · exact ok3
  · exact ok4
  · exact ok5
  · exact ok6
  · exact ok7
  · exact ok8
  · exact ok9
  · exact ok10
  · exact ok11
  · exact ok12
  · exact ok13
  · exact ok14
  · exact ok15
  · exact ok16
  · exact ok17
  · exact ok18
  · exact ok19
  · exact ok20
  · exact ok21
def tbB : Bool := tb.all fun p => match p.2 with
  | .fn i _ => (match ds[i]? with
    | some d => decide (d.name = p.1)
    | none => false)
  | _ => true
theorem tbB_t : tbB = true := by decide +kernel
theorem tb_ok : ∀ x i np, tb.lookup x = some (.fn i np) → ∃ d, ds[i]? = some d ∧ d.name = x := by
  intro x i np h
  have hm := mem_lookup h
  have ha := (List.all_eq_true.mp tbB_t) _ hm
  dsimp only at ha
  split at ha
  · rename_i d e
    exact ⟨d, e, of_decide_eq_true ha⟩
  · cases ha
def tbE : Bool := tb.all fun p => match p.2 with
  | .exc c np => (match es[c]? with
    | some d => decide (d.name = p.1) && (decide (np = 0) || decide (d.fields ≠ []))
    | none => false)
  | _ => true
theorem tbE_t : tbE = true := by decide +kernel
theorem tb_ex : ∀ x c np, tb.lookup x = some (.exc c np) → ∃ d, es[c]? = some d ∧ d.name = x ∧ (np ≠ 0 → d.fields ≠ []) := by
  intro x c np h
  have hm := mem_lookup h
  have ha := (List.all_eq_true.mp tbE_t) _ hm
  dsimp only at ha
  split at ha
  · rename_i d e
    rw [Bool.and_eq_true, Bool.or_eq_true] at ha
    exact ⟨d, e, of_decide_eq_true ha.1, fun hn => ha.2.elim (fun z => absurd (of_decide_eq_true z) hn) of_decide_eq_true⟩
  · cases ha
theorem es_few : ∀ d ∈ es, d.fields.length ≤ 1000 := by
  intro d hd
  have h : (es.all fun d => decide (d.fields.length ≤ 1000)) = true := by decide +kernel
  exact of_decide_eq_true ((List.all_eq_true.mp h) d hd)

theorem es_ok : ∀ d ∈ es, d.fields ≠ [] → ExOk d := by
  intro d hd hne
  simp only [es, List.mem_cons, List.not_mem_nil, or_false] at hd
  rcases hd with rfl | rfl | rfl
  · exact absurd rfl hne
  · exact exok1
  · exact exok2
theorem law_true (ns : List Int) (hl : ns.length ≤ 63) : callT (prg es mx ds tb 60) 100000 28 21 [.nd .scr false (ns.map .int)] = .ok (.bl true) [.nd .scr false (ns.map .int)] := by
  rw [prg_eq]
  exact f_law (k := 21) (fb := 12) (ft := 13) (fpk := 14) (fnm := 15) (f0 := 0) (f1 := 7) (f2 := 9) (f3 := 10) (fr := 11) (fa := 16) (fin := 17) (fyr := 18) (fln := 19) (ftl := 20) (frq := 3) (fas := 1) (fhf := 2) (fcy := 4) (fsy := 8) (frp := 5) (fpf := 6) (xt := 2) (xy := 1) (fl := 21) ⟨rfl, rfl, rfl, rfl, rfl, rfl, rfl, rfl, rfl, rfl, rfl, rfl, rfl, rfl, rfl, rfl, rfl, rfl, rfl, rfl, rfl, rfl, rfl, rfl⟩ rfl (by omega)
/-! the head -/
def fa : List He.Fa := faOf ds tb
def fn : List He.DefD := fnOf' es ds
abbrev R : PySem.W.OpenRow := PySem.W.OpenLaw.row PySem.Challenge.rw_eatenways_k07_whole_lines_of_words
abbrev hk : PySem.W.Hook := hookC 4 fa fn (exAll es mx (flOf tb))
def ob (s : PySem.W.SharedT) : He.AlD × Bool := ckD 4 fa fn (exAll es mx (flOf tb)) (HandSHeadRun.getT s)
theorem ob_eq (s : PySem.W.SharedT) : ob s = hk.obs s.abs := ckD_eq (HandSHeadRun.getT_eq s)
def loose : List PySem.Str := [(Str.ofString "WayError"), (Str.ofString "NoYard"), (Str.ofString "NoText"), (Str.ofString "NoPlace"), (Str.ofString "PLACES"), (Str.ofString "PATHS"), (Str.ofString "LETTERS"), (Str.ofString "NAME_LENGTH"), (Str.ofString "is_name"), (Str.ofString "are_strings"), (Str.ofString "has_form"), (Str.ofString "require"), (Str.ofString "check_yard"), (Str.ofString "require_place"), (Str.ofString "paths_from"), (Str.ofString "are_names"), (Str.ofString "show_yard"), (Str.ofString "read_places"), (Str.ofString "read_path"), (Str.ofString "read_yard"), (Str.ofString "_law_box"), (Str.ofString "_law_take"), (Str.ofString "_law_pick"), (Str.ofString "_law_names"), (Str.ofString "_law_alike"), (Str.ofString "_law_is_name"), (Str.ofString "_law_yard_read"), (Str.ofString "_law_lines"), (Str.ofString "_law_told")]
theorem run (w : World) : HandSHeadRun.RunEq R (PySem.W.view R.prog [33]) hk ob 3000 loose w := by
  intro os
  kernel_rfl
end L07
open PySem PySem.W PySem.Calls PyProof.Rows TI
theorem PySem.Challenge.cw_eatenways_k07_whole_lines_of_words_holds : PySem.Challenge.rw_eatenways_k07_whole_lines_of_words.Holds := by
  w_on; o_law
  refine HandSHeadRun.head_any (r := OpenLaw.row PySem.Challenge.rw_eatenways_k07_whole_lines_of_words) (q := view (OpenLaw.row PySem.Challenge.rw_eatenways_k07_whole_lines_of_words).prog [33]) (H := L07.hk) (ob := L07.ob) (M := 3000) (loose := L07.loose) (d := HandSHeadRun.topDef (OpenLaw.row PySem.Challenge.rw_eatenways_k07_whole_lines_of_words).prog 33) (kwd := []) L07.ob_eq
    (by kernel_rfl) (fun s => by kernel_rfl) L07.run (by kernel_rfl) (by kernel_rfl) (by kernel_rfl) (by rfl) (by first | assumption | decide +kernel) (by decide +kernel) ⟨rfl, rfl, rfl, rfl, rfl, by decide +kernel⟩ ?hw ?hc
  case hw => w_witness2
  case hc =>
    exact law_walk (l := PySem.Challenge.rw_eatenways_k07_whole_lines_of_words) (n := 63) (k := 28) (fuel := 100000) (nn := 60) (i := 21) (x := "_law_script") (m := 4) (ds := L07.ds) (es := L07.es) (mx := L07.mx) (tb := L07.tb) rfl (by decide) (by kernel_rfl) ⟨rfl, by decide, by decide⟩ L07.all_ok L07.es_ok L07.es_few (by decide) L07.tb_ok L07.tb_ex rfl rfl (by kernel_rfl) fun ns hl => ⟨_, L07.law_true ns hl⟩
end
