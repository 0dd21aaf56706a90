import PyProof.Rows.All
import Wide.All
import OpenK.AllK
import Wide.FinOn
import HandS.Base
import HandS.Call
import HandS.List
import HandS.Comp
import HandS.Text
import HandS.Iter
import HandS.Exc
import HandS.Wide
import HandS.TupAny
import HandS.TupMul
import HandS.Deep
import PyProof.P3In
import HandS.IsInst
import HandS.Style
import HandS.RaiseMore
import PyProof.ReprRoads
import HandS.Lambda
import HandS.Zip
import HandS.HeadEnd
import HandS.Head3
import HandS.EndBits
import HandS.HeadHook1
import HandS.HeadHook2
import HandS.HeadHook4
import HandS.Defaults
import KE.KStateDown
import Lean
import HandS.More
import HandS.Words
import HandS.WordsExc
import HandS.Head0
import HandS.Head1
import HandS.Head2
import PySem.Challenge.RW_bentpieces_k92_whole_things_written_and
set_option Elab.async false
set_option linter.all false
section
namespace Vi
open PySem L2

/-- deep values -/
inductive D where
  | non | bl (b : Bool) | int (i : Int) | str (s : Str)
  | lst (xs : List D) | tup (xs : List D) | dic (ks : List Key) (vs : List D)
  | fn (x : Str) | clo (c : Nat) (xs : List D) | ins (C : Str) (fs : List Str) (vs : List D)
  | scr (ns : List Int)
  deriving Inhabited

/-- a raised exception: its class, its attributes -/
structure Exc where
  cls : Str
  fs : List (Str × D)

/-- a slot: unset | a value that is never changed | a list or dict of the slot's own -/
inductive Slot where
  | un | fr (d : D) | ow (d : D)
abbrev Env := List Slot

inductive R (α : Type) where
  | ok (a : α) (e : Env) | ex (x : Exc) (e : Env) | no
def R.bind {α β : Type} (m : R α) (f : α → Env → R β) : R β := match m with
  | .ok a e => f a e
  | .ex x e => .ex x e
  | .no => .no
def R.opt {α : Type} (o : Option α) (e : Env) : R α := match o with
  | some a => .ok a e
  | none => .no

/-- what a call ends with: the value and the changed arguments' contents -/
inductive Res where
  | ok (d : D) (outs : List D) | ex (x : Exc) (outs : List D) | no
abbrev Fn := List D → Res

def getS : Env → Nat → Slot
  | [], _ => .un
  | s :: _, 0 => s
  | _ :: r, i + 1 => getS r i
def setS : Env → Nat → Slot → Env
  | [], _, _ => []
  | _ :: r, 0, t => t :: r
  | s :: r, i + 1, t => s :: setS r i t
/-- read for good: an own one is given up -/
def rdS (i : Nat) (e : Env) : R D := match getS e i with
  | .un => .no
  | .fr d => .ok d e
  | .ow d => .ok d (setS e i (.fr d))
/-- what stands there, looked at -/
def pkS (i : Nat) (e : Env) : Option D := match getS e i with
  | .fr d => some d
  | .ow (.lst xs) => some (.lst xs)
  | _ => none
def hasS (i : Nat) (e : Env) : Bool := match getS e i with
  | .un => false
  | _ => true

def isOwnL (i : Nat) (e : Env) : Bool := match getS e i with
  | .ow (.lst _) => true
  | _ => false

inductive Op where
  | add | sub | mul | fdiv | mod | pow
inductive Cop where
  | eq | ne | lt | le | gt | ge | isN | notN | inn | nin
inductive Bi where
  | len | abs | int | str | repr | sum | min | max | all | any | list | tuple | sorted | divmod | sset

mutual
def D.eqv : D → D → Bool
  | .non, y => (match y with | .non => true | _ => false)
  | .bl a, y => (match y with | .bl b => a == b | .int j => (if a then 1 else 0) == j | _ => false)
  | .int i, y => (match y with | .bl b => i == (if b then 1 else 0) | .int j => i == j | _ => false)
  | .str a, y => (match y with | .str b => a == b | _ => false)
  | .lst xs, y => (match y with | .lst ys => D.eqvs xs ys | _ => false)
  | .tup xs, y => (match y with | .tup ys => D.eqvs xs ys | _ => false)
  | _, _ => false
def D.eqvs : List D → List D → Bool
  | [], ys => (match ys with | [] => true | _ => false)
  | x :: xs, ys => (match ys with | y :: ys => D.eqv x y && D.eqvs xs ys | [] => false)
end
mutual
/-- none, bools, ints, texts, lists, tuples of these -/
def D.pure : D → Bool
  | .non => true | .bl _ => true | .int _ => true
  | .str s => s.cps.all fun c => decide (c < 0x110000)
  | .lst xs => D.pures xs
  | .tup xs => D.pures xs
  | _ => false
def D.pures : List D → Bool
  | [] => true
  | x :: xs => D.pure x && D.pures xs
end
mutual
def D.depth : D → Nat
  | .lst xs => D.depths xs + 1
  | .tup xs => D.depths xs + 1
  | _ => 0
def D.depths : List D → Nat
  | [] => 0
  | x :: xs => max (D.depth x) (D.depths xs)
end
/-- may be compared -/
def D.flat (d : D) : Bool := d.pure && Nat.ble d.depth 60
mutual
def D.py : D → PyData
  | .non => .none | .bl b => .bool b | .int i => .int i | .str s => .str s
  | .lst xs => .list (D.pys xs)
  | .tup xs => .tuple (D.pys xs)
  | _ => .none
def D.pys : List D → List PyData
  | [] => []
  | x :: xs => D.py x :: D.pys xs
end

def bitsOk (i j : Int) : Bool := Nat.blt (i.natAbs.log2 + j.natAbs.log2) 1000000
def repD : Nat → List D → List D
  | 0, _ => []
  | n + 1, xs => xs ++ repD n xs
def lenOk (n : Nat) : Bool := Nat.ble n 1000000
def binD (op : Op) (x y : D) : Option D := match op, x, y with
  | .add, .int i, .int j => some (.int (i + j))
  | .add, .str a, .str b => if lenOk (a.length + b.length) then some (.str (a ++ b)) else none
  | .add, .lst a, .lst b => if lenOk (a.length + b.length) then some (.lst (a ++ b)) else none
  | .add, .tup a, .tup b => if lenOk (a.length + b.length) then some (.tup (a ++ b)) else none
  | .sub, .int i, .int j => some (.int (i - j))
  | .mul, .int i, .int j => if bitsOk i j then some (.int (i * j)) else none
  | .mul, .lst a, .int j => if lenOk a.length && decide (j ≤ 1000) && decide (-1000 ≤ j) && lenOk (a.length * j.toNat) then some (.lst (repD j.toNat a)) else none
  | .mul, .tup a, .int j => if Nat.ble a.length 1000 && decide (2 ≤ j) && decide (j ≤ 1000) && !a.isEmpty then some (.tup (repD j.toNat a)) else none
  | .fdiv, .int i, .int j => if decide (0 < j) && Nat.blt j.natAbs.log2 9000 then some (.int (i / j)) else if decide (j < 0) && Nat.blt j.natAbs.log2 9000 then some (.int (Int.fdiv i j)) else none
  | .mod, .int i, .int j => if 0 < j then some (.int (i % j)) else none
  | .pow, .int i, .int j => if decide (0 ≤ j) && decide (j ≤ 1000) && decide (i.natAbs < 2 ^ 64) then some (.int (i ^ j.toNat)) else none
  | _, _, _ => none

def memD (x : D) (ys : List D) : Bool := ys.any fun y => D.eqv y x
def keyD : D → Option Key
  | .int i => some (.inl i)
  | .str s => some (.inr s)
  | _ => none
def eqD (x y : D) : Option Bool := match x, y with
  | .str a, .str b => some (a == b)
  | .int i, .int j => some (i == j)
  | x, y => if x.flat && y.flat then some (D.eqv x y) else none
def cmpD (c : Cop) (x y : D) : Option Bool := match c with
  | .eq => eqD x y
  | .ne => (eqD x y).map fun b => !b
  | .lt => (match x, y with | .int i, .int j => some (decide (i < j)) | _, _ => none)
  | .le => (match x, y with | .int i, .int j => some (decide (i ≤ j)) | _, _ => none)
  | .gt => (match x, y with | .int i, .int j => some (decide (j < i)) | _, _ => none)
  | .ge => (match x, y with | .int i, .int j => some (decide (j ≤ i)) | _, _ => none)
  | .isN => (match y with | .non => some (match x with | .non => true | _ => false) | _ => none)
  | .notN => (match y with | .non => some (match x with | .non => false | _ => true) | _ => none)
  | .inn => (match y with
    | .lst ys => if x.flat && (D.lst ys).flat then some (memD x ys) else none
    | .tup ys => if x.flat && (D.tup ys).flat then some (memD x ys) else none
    | .str s => (match x with | .str c => if c.length == 1 then some (s.cps.toList.contains (c.cps.getD 0 0)) else none | _ => none)
    | _ => none)
  | .nin => (match y with
    | .lst ys => if x.flat && (D.lst ys).flat then some (!memD x ys) else none
    | .tup ys => if x.flat && (D.tup ys).flat then some (!memD x ys) else none
    | .str s => (match x with | .str c => if c.length == 1 then some (!s.cps.toList.contains (c.cps.getD 0 0)) else none | _ => none)
    | _ => none)

/-- the place of an index, from behind if below 0 -/
def ixD (n : Nat) (i : Int) : Option Nat := ixN n i
def getD (x i : D) : Option D := match x, i with
  | .lst xs, .int i => (ixD xs.length i).bind fun j => xs[j]?
  | .tup xs, .int i => (ixD xs.length i).bind fun j => xs[j]?
  | .str s, .int i => if lenOk s.length then (ixD s.cps.toList.length i).bind fun j => (s.cps.toList[j]?).map fun c => .str ⟨#[c]⟩ else none
  | .scr ns, .int i => (ixD ns.length i).bind fun j => (ns[j]?).map .int
  | _, _ => none
def cutL {α : Type} (xs : List α) (lo hi : Option Int) : List α := (xs.drop (HT.sIx xs.length 0 lo)).take (HT.sIx xs.length xs.length hi - HT.sIx xs.length 0 lo)
def cutD (x : D) (lo hi : Option Int) : Option D := match x with
  | .lst xs => some (.lst (cutL xs lo hi))
  | .tup xs => some (.tup (cutL xs lo hi))
  | .str s => if lenOk s.length then some (.str (cutS s lo hi)) else none
  | _ => none
def revD (x : D) : Option D := match x with
  | .lst xs => some (.lst xs.reverse)
  | _ => none

def blsD : List D → Option (List Bool)
  | [] => some []
  | .bl b :: r => (blsD r).map fun l => b :: l
  | _ :: _ => none
def intsD : List D → Option (List Int)
  | [] => some []
  | .int b :: r => (intsD r).map fun l => b :: l
  | _ :: _ => none
def strsD : List D → Option (List Str)
  | [] => some []
  | .str b :: r => (strsD r).map fun l => b :: l
  | _ :: _ => none
def insI (x : Int) : List Int → List Int
  | [] => [x]
  | y :: r => if x ≤ y then x :: y :: r else y :: insI x r
def sortI : List Int → List Int
  | [] => []
  | x :: r => insI x (sortI r)
def dedI : List Int → List Int
  | [] => []
  | x :: r => if r.contains x then dedI r else x :: dedI r

def biD (f : Bi) (xs : List D) : Option D := match f, xs with
  | .len, [.lst xs] => some (.int xs.length)
  | .len, [.tup xs] => some (.int xs.length)
  | .len, [.str s] => if lenOk s.length then some (.int s.length) else none
  | .len, [.scr ns] => some (.int ns.length)
  | .abs, [.int i] => some (.int (if i < 0 then -i else i))
  | .int, [.int i] => some (.int i)
  | .int, [.bl b] => some (.int (if b then 1 else 0))
  | .int, [.str s] => if Nat.ble s.length 600 then (PySem.intText? s).map .int else none
  | .str, [.int i] => if Nat.blt i.natAbs.log2 1900 then some (.str (toString i)) else none
  | .str, [.str s] => some (.str s)
  | .repr, [.int i] => if Nat.blt i.natAbs.log2 1900 then some (.str (toString i)) else none
  | .repr, [.lst xs] => if (D.lst xs).flat && (D.lst xs).py.showable && Nat.ble (D.lst xs).py.shown.length 1000000 then some (.str (D.lst xs).py.shown) else none
  | .repr, [.tup xs] => if (D.tup xs).flat && (D.tup xs).py.showable && Nat.ble (D.tup xs).py.shown.length 1000000 then some (.str (D.tup xs).py.shown) else none
  | .sum, [.lst xs] => (intsD xs).map fun l => .int l.sum
  | .min, [.int i, .int j] => some (.int (if j < i then j else i))
  | .max, [.int i, .int j] => some (.int (if j > i then j else i))
  | .all, [.lst xs] => (blsD xs).map fun l => .bl (l.all id)
  | .any, [.lst xs] => (blsD xs).map fun l => .bl (l.any id)
  | .list, [.lst xs] => some (.lst xs)
  | .list, [.tup xs] => some (.lst xs)
  | .tuple, [.lst xs] => some (.tup xs)
  | .tuple, [.tup xs] => some (.tup xs)
  | .divmod, [.int i, .int j] => if decide (0 < j) && decide (j < 1073741824) then some (.tup [.int (i / j), .int (i % j)]) else none
  | _, _ => none

/-- isinstance, by the names of built-in types -/
def tyD : D → Option String
  | .non => some "NoneType"
  | .bl _ => some "bool"
  | .int _ => some "int"
  | .str _ => some "str"
  | .lst _ => some "list"
  | .tup _ => some "tuple"
  | .dic _ _ => some "dict"
  | _ => none
def tyNames : List String := ["bool", "int", "str", "list", "tuple", "dict"]
def isD (d : D) (t : String) : Option Bool := if tyNames.contains t then (tyD d).map fun n => n == t || (n == "bool" && t == "int") else none
def isDs (d : D) : List String → Option Bool
  | [] => some false
  | t :: r => (isD d t).bind fun b => if b then some true else isDs d r

def rangeL (lo : Int) : Nat → List D
  | 0 => []
  | n + 1 => .int lo :: rangeL (lo + 1) n
def rangeC (lo c : Int) : Nat → List D
  | 0 => []
  | n + 1 => .int lo :: rangeC (lo + c) c n
def rngD (xs : List D) : Option (List D) := match xs with
  | [.int j] => if lenOk j.natAbs then some (rangeL 0 j.toNat) else none
  | [.int i, .int j] => if lenOk i.natAbs && lenOk j.natAbs then some (rangeL i (j - i).toNat) else none
  | [.int i, .int j, .int c] => if lenOk i.natAbs && lenOk j.natAbs && decide (c = -1) then some (rangeC i (-1) (i - j).toNat) else none
  | _ => none
def itemsD : D → Option (List D)
  | .lst xs => some xs
  | .tup xs => some xs
  | .str s => if lenOk s.length then some (s.cps.toList.map fun c => .str ⟨#[c]⟩) else none
  | _ => none
def zip2D : List D → List D → List D
  | x :: xs, y :: ys => .tup [x, y] :: zip2D xs ys
  | _, _ => []
def zipD (xs : List D) : Option (List D) := match xs with
  | [.lst a, .lst b] => some (zip2D a b)
  | [.tup a, .tup b] => some (zip2D a b)
  | _ => none
def enumL : Nat → List D → List D
  | _, [] => []
  | n, x :: xs => .tup [.int n, x] :: enumL (n + 1) xs

inductive Ix where
  | lit (i : Int) | slot (j : Nat)
inductive Tg where
  | nm (i : Nat) | sb (i : Nat) (k : Ix) | tp (ts : List Tg)
inductive Mth where
  | join | split | split1 | starts | upper | replace | get1 | get2 | items | keys
inductive E where
  | non | bl (b : Bool) | int (i : Int) | str (s : Str)
  | var (i : Nat) | gl (x : Str) (d : D) | fnv (x : Str)
  | bin (op : Op) (a b : E) | neg (a : E)
  | cmp (c : Cop) (a b : E) | chn (c1 c2 : Cop) (a b c : E)
  | and (a b : E) | or (a b : E) | not (a : E) | ite (c a b : E)
  | tup (es : List E) | lst (es : List E) | dic0
  | call (x : Str) (F : Fn) (es : List E) | callk (x : Str) (F : Fn) (ks : List Str) (perm : List Nat) (es ws : List E) | iov (i : Nat)
  | bi (f : Bi) (es : List E) | isi (a : E) (ts : List String)
  | ix (a b : E) | sl (a lo hi : E) | rev (a : E)
  | rng (es : List E) | zip (es : List E) | enu (a : E)
  | lc (own : List Nat) (tg : Tg) (src : E) (cond : List E) (elt : E)
  | mth (m : Mth) (a : E) (es : List E)
  | pop (i : Nat) | popAt (i : Nat) (a : E)
  | eno
  | pix (i : Nat) (b : E) | plen (i : Nat) | pcmp (c : Cop) (i : Nat) (b : E) | psl (i : Nat) (lo hi : E) | pin (c : Cop) (a : E) (i : Nat)
inductive HE where
  | non | str (s : Str) | repr (f : Str) | fld (f : Str) | isi (b : Bool) | lst (es : List HE) | tup (es : List HE)
inductive S where
  | asg (tg : Tg) (e : E) | own (i : Nat) (e : E) | par (is : List Nat) (es : List E)
  | seti (i : Nat) (k v : E) | app (i : Nat) (e : E) | ext (i : Nat) (e : E)
  | ex (e : E) | ife (c : E) (a b : List S) | fo (tg : Tg) (src : E) (body : List S) | wh (c : E) (body : List S)
  | ret (e : E) | rai (C : Str) (fs : List Str) (es : List E) | pas | sno
  | ownc (i : Nat) (x : Str) (F : Fn) (es : List E) | spl (x : Str) (F : Fn) (es : List E) (sel : Option Int)
  | tr (body : List S) (hs : List (List Str × Option HE × Option (Nat × HE)))

/-- an end of a slice: left out, or an int -/
def partE (a : E) (d : D) : Option (Option Int) := match a with
  | .non => some none
  | _ => (match d with | .int i => some (some i) | _ => none)

def ixOf (k : Ix) (e : Env) : Option Int := match k with
  | .lit i => some i
  | .slot j => (match getS e j with | .fr (.int i) => some i | _ => none)
def setL {α : Type} : List α → Nat → α → List α
  | [], _, _ => []
  | _ :: r, 0, y => y :: r
  | x :: r, n + 1, y => x :: setL r n y
def storeD (o k v : D) : Option D := match o, k with
  | .lst xs, .int i => (ixD xs.length i).map fun j => .lst (setL xs j v)
  | _, _ => none
mutual
def asgT : Tg → D → Env → Option Env
  | .nm i, d, e => some (setS e i (.fr d))
  | .sb i k, d, e => (match getS e i with
    | .ow o => (ixOf k e).bind fun j => (storeD o (.int j) d).map fun o => setS e i (.ow o)
    | _ => none)
  | .tp ts, d, e => (match d with
    | .tup xs => asgTs ts xs e
    | _ => none)
def asgTs : List Tg → List D → Env → Option Env
  | [], xs, e => (match xs with | [] => some e | _ => none)
  | t :: ts, xs, e => (match xs with | x :: xs => (asgT t x e).bind fun e => asgTs ts xs e | [] => none)
end

/-- the slot of an argument that may be changed -/
def iovOf : E → Option Nat
  | .iov i => some i
  | _ => none
/-- the contents of what may be changed are put among the arguments -/
def fillIo : List E → List D → Env → Option (List D)
  | [], [], _ => some []
  | a :: es, d :: ds, e => (match iovOf a with
    | some i => (match getS e i with | .ow d => (fillIo es ds e).map fun r => d :: r | _ => none)
    | none => (fillIo es ds e).map fun r => d :: r)
  | _, _, _ => none
def putIo : List E → List D → Env → Option Env
  | [], os, e => (match os with | [] => some e | _ => none)
  | a :: es, os, e => (match iovOf a with
    | some i => (match os with | o :: os => putIo es os (setS e i (.ow o)) | [] => none)
    | none => putIo es os e)
def callF (F : Fn) (es : List E) (ds : List D) (e : Env) : R D := match fillIo es ds e with
  | none => .no
  | some ds => (match F ds with
    | .ok d os => (match putIo es os e with | some e => .ok d e | none => .no)
    | .ex x os => (match putIo es os e with | some e => .ex x e | none => .no)
    | .no => .no)
/-- in the sequence of the parameters -/
def permL {α : Type} (perm : List Nat) (ds : List α) : Option (List α) := match perm with
  | [] => some []
  | i :: r => (match ds[i]?, permL r ds with | some d, some l => some (d :: l) | _, _ => none)
def callK (F : Fn) (perm : List Nat) (ds : List D) (e : Env) : R D := match permL perm ds with
  | none => .no
  | some ds => (match F ds with
    | .ok d _ => .ok d e
    | .ex x _ => .ex x e
    | .no => .no)

def mthD (m : Mth) (x : D) (ys : List D) : Option D := match m, x, ys with
  | .join, .str s, [.lst xs] => (strsD xs).bind fun l => if Nat.ble ((l.map (·.length)).sum + l.length * s.length) 1000000 then some (.str (Txt.join s l)) else none
  | .split, .str s, [.str c] => if Nat.blt 0 c.length && lenOk s.length then some (.lst ((Txt.split s c).map .str)) else none
  | .starts, .str s, [.str p] => some (.bl (Txt.startswith s p))
  | .upper, .str s, [] => if lenOk s.length then some (.str (Txt.upper s)) else none
  | _, _, _ => none

def wipeE (e : Env) : List Nat → Option Env
  | [] => some e
  | v :: vs => (match getS e v with | .ow _ => none | _ => wipeE (setS e v .un) vs)
/-- the slots vs as in e, the others as in e' -/
def unwipe (e e' : Env) : List Nat → Env
  | [] => e'
  | v :: vs => unwipe e (setS e' v (getS e v)) vs
/-- own: the slots that each turn begins without -/
def lcL (own : List Nat) (tg : Tg) (f : Env → R (Option D)) : List D → Env → R (List D)
  | [], e => .ok [] e
  | d :: ds, e => (match asgT tg d e with
    | none => .no
    | some e => (f e).bind fun o e => (match wipeE e own with
      | none => .no
      | some e => (lcL own tg f ds e).bind fun r e => .ok (match o with | some x => x :: r | none => r) e))
def popD (i : Nat) (k : Option D) (e : Env) : R D := match getS e i with
  | .ow (.lst xs) => (match k with
    | none => (match xs.getLast? with | some y => .ok y (setS e i (.ow (.lst xs.dropLast))) | none => .no)
    | some (.int j) => (match ixD xs.length j with | some n => (match xs[n]? with | some y => .ok y (setS e i (.ow (.lst (xs.eraseIdx n)))) | none => .no) | none => .no)
    | _ => .no)
  | _ => .no
def boolR (d : D) (e : Env) (f : Bool → R D) : R D := match d with
  | .bl b => f b
  | _ => .no
mutual
def ev : E → Env → R D
  | .non, e => .ok .non e
  | .bl b, e => .ok (.bl b) e
  | .int i, e => .ok (.int i) e
  | .str s, e => .ok (.str s) e
  | .var i, e => rdS i e
  | .gl _ d, e => .ok d e
  | .fnv x, e => .ok (.fn x) e
  | .bin op a b, e => (ev a e).bind fun x e => (ev b e).bind fun y e => R.opt (binD op x y) e
  | .neg a, e => (ev a e).bind fun x e => (match x with | .int i => .ok (.int (-i)) e | _ => .no)
  | .cmp c a b, e => (ev a e).bind fun x e => (ev b e).bind fun y e => R.opt ((cmpD c x y).map .bl) e
  | .chn c1 c2 a b c, e => (ev a e).bind fun x e => (ev b e).bind fun y e => (match cmpD c1 x y with
    | some true => (ev c e).bind fun z e => R.opt ((cmpD c2 y z).map .bl) e
    | some false => .ok (.bl false) e
    | none => .no)
  | .and a b, e => (ev a e).bind fun x e => (match x with | .bl true => ev b e | .bl false => .ok (.bl false) e | _ => .no)
  | .or a b, e => (ev a e).bind fun x e => (match x with | .bl true => .ok (.bl true) e | .bl false => ev b e | _ => .no)
  | .not a, e => (ev a e).bind fun x e => (match x with | .bl b => .ok (.bl (!b)) e | _ => .no)
  | .ite c a b, e => (ev c e).bind fun x e => (match x with | .bl true => ev a e | .bl false => ev b e | _ => .no)
  | .tup es, e => (evs es e).bind fun ds e => .ok (.tup ds) e
  | .lst es, e => (evs es e).bind fun ds e => .ok (.lst ds) e
  | .dic0, e => .ok (.dic [] []) e
  | .call _ F es, e => (evs es e).bind fun ds e => callF F es ds e
  | .callk _ F _ perm es ws, e => (evs es e).bind fun ds e => (evs ws e).bind fun cs e => callK F perm (ds ++ cs) e
  | .iov i, e => (match getS e i with | .ow _ => .ok .non e | _ => .no)
  | .bi f es, e => (evs es e).bind fun ds e => R.opt (biD f ds) e
  | .isi a ts, e => (ev a e).bind fun x e => R.opt ((isDs x ts).map .bl) e
  | .ix a b, e => (ev a e).bind fun x e => (ev b e).bind fun y e => R.opt (getD x y) e
  | .sl a lo hi, e => (ev a e).bind fun x e => (ev lo e).bind fun l e => (R.opt (partE lo l) e).bind fun l e => (ev hi e).bind fun h e => (R.opt (partE hi h) e).bind fun h e => R.opt (cutD x l h) e
  | .rev a, e => (ev a e).bind fun x e => R.opt (revD x) e
  | .rng es, e => (evs es e).bind fun ds e => R.opt ((rngD ds).map .lst) e
  | .zip es, e => (evs es e).bind fun ds e => R.opt ((zipD ds).map .lst) e
  | .enu a, e => (ev a e).bind fun x e => (match x with | .lst l => .ok (.lst (enumL 0 l)) e | _ => .no)
  | .lc own tg src cond elt, e => (ev src e).bind fun s e => (match itemsD s, wipeE e own with
    | some ds, some e1 => if !lenOk ds.length then .no else (match lcL own tg (fun e => (evs cond e).bind fun c e => (match c with
        | [] => (ev elt e).bind fun d e => .ok (some d) e
        | [.bl true] => (ev elt e).bind fun d e => .ok (some d) e
        | [.bl false] => .ok none e
        | _ => .no)) ds e1 with
      | .ok ds e2 => .ok (.lst ds) (unwipe e e2 own)
      | _ => .no)
    | _, _ => .no)
  | .mth m a es, e => (ev a e).bind fun x e => (match x with | .str s => (evs es e).bind fun ds e => R.opt (mthD m (.str s) ds) e | _ => .no)
  | .pop i, e => popD i none e
  | .popAt i a, e => (ev a e).bind fun x e => popD i (some x) e
  | .eno, _ => .no
  | .pix i b, e => if !hasS i e then .no else (ev b e).bind fun y e => R.opt ((pkS i e).bind fun x => getD x y) e
  | .plen i, e => R.opt ((pkS i e).bind fun x => biD .len [x]) e
  | .pcmp c i b, e => if !hasS i e then .no else (ev b e).bind fun y e => R.opt (((pkS i e).bind fun x => cmpD c x y).map .bl) e
  | .psl i lo hi, e => if !hasS i e then .no else (ev lo e).bind fun l e => (R.opt (partE lo l) e).bind fun l e => (ev hi e).bind fun h e => (R.opt (partE hi h) e).bind fun h e => R.opt ((pkS i e).bind fun x => cutD x l h) e
  | .pin c a i, e => (ev a e).bind fun y e => R.opt (((pkS i e).bind fun x => cmpD c y x).map .bl) e
def evs : List E → Env → R (List D)
  | [], e => .ok [] e
  | a :: as, e => (ev a e).bind fun d e => (evs as e).bind fun ds e => .ok (d :: ds) e
end

inductive RS where
  | nx (e : Env) | rt (d : D) (e : Env) | bk (e : Env) | ct (e : Env) | ex (x : Exc) (e : Env) | no
def R.st (m : R D) (f : D → Env → RS) : RS := match m with
  | .ok d e => f d e
  | .ex x e => .ex x e
  | .no => .no
def R.sts (m : R (List D)) (f : List D → Env → RS) : RS := match m with
  | .ok d e => f d e
  | .ex x e => .ex x e
  | .no => .no
def RS.opt (o : Option Env) : RS := match o with
  | some e => .nx e
  | none => .no
def RS.seq (m : RS) (f : Env → RS) : RS := match m with
  | .nx e => f e
  | r => r
def forL (tg : Tg) (f : Env → RS) : List D → Env → RS
  | [], e => .nx e
  | d :: ds, e => (match asgT tg d e with
    | none => .no
    | some e => (match f e with
      | .nx e => forL tg f ds e
      | .ct e => forL tg f ds e
      | .bk e => .nx e
      | r => r))
def whN (c : Env → R D) (f : Env → RS) : Nat → Env → RS
  | 0, _ => .no
  | n + 1, e => (match c e with
    | .ok (.bl true) e => (match f e with
      | .nx e => whN c f n e
      | .ct e => whN c f n e
      | .bk e => .nx e
      | r => r)
    | .ok (.bl false) e => .nx e
    | .ex x e => .ex x e
    | _ => .no)
/-- more turns than any loop takes -/
def FUEL : Nat := 2 ^ 10000
def freshD : D → Bool
  | .lst _ => true
  | _ => false
def setSs : List Nat → List D → Env → Option Env
  | [], [], e => some e
  | i :: is, d :: ds, e => setSs is ds (setS e i (.fr d))
  | _, _, _ => none
mutual
def hev : HE → Exc → Option D
  | .non, _ => some .non
  | .str s, _ => some (.str s)
  | .repr f, x => (x.fs.lookup f).bind fun d => biD .repr [d]
  | .fld f, x => x.fs.lookup f
  | .isi b, _ => some (.bl b)
  | .lst es, x => (hevs es x).map .lst
  | .tup es, x => (hevs es x).map .tup
def hevs : List HE → Exc → Option (List D)
  | [], _ => some []
  | h :: hs, x => (hev h x).bind fun d => (hevs hs x).map fun r => d :: r
end
def catchL (x : Exc) (e : Env) : List (List Str × Option HE × Option (Nat × HE)) → RS
  | [] => .ex x e
  | (cs, r, s) :: hs => if cs.any fun c => x.cls == c then (match r, s with
      | some h, _ => (match hev h x with | some d => .rt d e | none => .no)
      | none, some (i, h) => (match hev h x with | some d => .nx (setS e i (.fr d)) | none => .no)
      | none, none => .nx e) else catchL x e hs
mutual
/-- without a list in it -/
def D.thin : D → Bool
  | .non => true | .bl _ => true | .int _ => true | .str _ => true | .scr _ => true
  | .tup ds => D.thins ds
  | _ => false
def D.thins : List D → Bool
  | [] => true
  | d :: ds => D.thin d && D.thins ds
end
def D.scal : D → Bool
  | .non => true | .bl _ => true | .int _ => true | .str _ => true
  | _ => false
/-- the list that a call tells, new -/
def owncR (i : Nat) (F : Fn) (ds : List D) (e : Env) : RS := if D.thins ds then (match F ds with
  | .ok (.lst xs) _ => if xs.all D.scal then .nx (setS e i (.ow (.lst xs))) else .no
  | _ => .no) else .no
/-- a list that a call tells is changed and dropped -/
def splR (F : Fn) (sel : Option Int) (ds : List D) (e : Env) : RS := if D.thins ds then (match F ds with
  | .ok d _ => (match sel with
    | none => (match d with | .lst xs => if lenOk xs.length then .nx e else .no | _ => .no)
    | some i => (match d with
      | .tup ys => (match getD (.tup ys) (.int i) with | some (.lst xs) => if lenOk xs.length then .nx e else .no | _ => .no)
      | _ => .no))
  | _ => .no) else .no
mutual
def ex1 : S → Env → RS
  | .asg tg a, e => (ev a e).st fun d e => RS.opt (asgT tg d e)
  | .own i a, e => (ev a e).st fun d e => if freshD d then .nx (setS e i (.ow d)) else .no
  | .par is es, e => (evs es e).sts fun ds e => RS.opt (setSs is ds e)
  | .seti i k v, e => (ev v e).st fun d e => if !isOwnL i e then .no else (ev k e).st fun j e => (match getS e i with
    | .ow o => RS.opt ((storeD o j d).map fun o => setS e i (.ow o))
    | _ => .no)
  | .app i a, e => if !isOwnL i e then .no else (ev a e).st fun d e => (match getS e i with
    | .ow (.lst xs) => if lenOk xs.length then .nx (setS e i (.ow (.lst (xs ++ [d])))) else .no
    | _ => .no)
  | .ext i a, e => if !isOwnL i e then .no else (ev a e).st fun d e => (match getS e i, d with
    | .ow (.lst xs), .lst ys => if lenOk (xs.length + ys.length) then .nx (setS e i (.ow (.lst (xs ++ ys)))) else .no
    | _, _ => .no)
  | .ex a, e => (ev a e).st fun _ e => .nx e
  | .ife c a b, e => (ev c e).st fun d e => (match d with | .bl true => exs a e | .bl false => exs b e | _ => .no)
  | .fo tg src body, e => (ev src e).st fun d e => (match itemsD d with | some ds => forL tg (exs body) ds e | none => .no)
  | .wh c body, e => whN (ev c) (exs body) FUEL e
  | .ret a, e => (ev a e).st fun d e => .rt d e
  | .rai C fs es, e => (evs es e).sts fun ds e => .ex ⟨C, fs.zip ds⟩ e
  | .pas, e => .nx e
  | .sno, _ => .no
  | .ownc i _ F es, e => (evs es e).sts fun ds e => owncR i F ds e
  | .spl _ F es sel, e => (evs es e).sts fun ds e => splR F sel ds e
  | .tr body hs, e => (match exs body e with
    | .ex x e => catchL x e hs
    | r => r)
def exs : List S → Env → RS
  | [], e => .nx e
  | s :: ss, e => (ex1 s e).seq fun e => exs ss e
end

def inEnv : List Bool → List D → Env
  | true :: io, d :: ds => .ow d :: inEnv io ds
  | false :: io, d :: ds => .fr d :: inEnv io ds
  | _, _ => []
/-- what stands in the changed arguments at the end -/
def outsOf : List Bool → Env → Option (List D)
  | [], _ => some []
  | true :: io, .ow d :: e => (outsOf io e).map fun r => d :: r
  | false :: io, _ :: e => outsOf io e
  | _, _ => none
/-- a def of n slots -/
def mkFn (n : Nat) (io : List Bool) (body : List S) : Fn := fun ds =>
  if ds.length == io.length then
    (match exs body (inEnv io ds ++ List.replicate (n - io.length) .un) with
    | .nx e => (match outsOf io e with | some os => .ok .non os | none => .no)
    | .rt d e => (match outsOf io e with | some os => .ok d os | none => .no)
    | .ex x e => (match outsOf io e with | some os => .ex x os | none => .no)
    | _ => .no)
  else .no
end Vi
end
section
set_option maxHeartbeats 1000000
namespace Vi
open PySem L2

/-- everything known stays known -/
def Ext (G G' : Hp) : Prop := ∀ a o, G a = some o → G' a = some o
theorem Ext.refl (G : Hp) : Ext G G := fun _ _ h => h
theorem Ext.trans {G G1 G2 : Hp} (a : Ext G G1) (b : Ext G1 G2) : Ext G G2 := fun x o h => b x o (a x o h)
theorem Ext.new {G : Hp} {p : Addr} {o : HO} (h : G p = none) : Ext G (upd G p o) := fun a u e => by
  rw [upd_ne (ne_of_none e h)]; exact e

/-- the law's script: a list that is never changed, known or written -/
def ScrL (K : PySem.W.Frag) (H : Hp) (a : Addr) (xs : List V) : Prop := (∃ o, H a = some (.frz o (.lst xs))) ∨
  ∃ (o : Obj) (its : Array Value) (n : Nat), K.lookup a = some o ∧ o.cls = .type "list" ∧ o.dict = none ∧ o.data = .seq its n ∧ its.size ≤ sizeLine ∧ Vals xs its.toList
theorem ScrL.sq {K : PySem.W.Frag} {H : Hp} {a : Addr} {xs : List V} (h : ScrL K H a xs) : SqL K H a xs := h.elim (fun h => .inl (.inr h)) .inr
theorem ScrL.mono {K : PySem.W.Frag} {G G' : Hp} {a : Addr} {xs : List V} (e : Ext G G') (h : ScrL K G a xs) : ScrL K G' a xs := h.elim (fun ⟨o, h⟩ => .inl ⟨o, e a _ h⟩) .inr
section
variable (K : PySem.W.Frag) (mg : Str → Option Value)
mutual
inductive Rep (G : Hp) : V → D → Prop
  | non : Rep G .non .non
  | bl (b : Bool) : Rep G (.bl b) (.bl b)
  | int (i : Int) : Rep G (.int i) (.int i)
  | str (x : Str) : Rep G (.str x) (.str x)
  | lst {a : Addr} {xs : List V} {ds : List D} (h : G a = some (.lst xs)) (r : Reps G xs ds) : Rep G (.ref a) (.lst ds)
  | scr {a : Addr} {ns : List Int} (h : ScrL K G a (ns.map V.int)) : Rep G (.ref a) (.scr ns)
  | tup {a : Addr} {xs : List V} {ds : List D} (h : SqT K G a xs) (r : Reps G xs ds) : Rep G (.ref a) (.tup ds)
  | dic {a : Addr} {kvs : List (Key × V)} {ks : List Key} {ds : List D} (h : G a = some (.dK kvs)) (k : kvs.map (·.1) = ks) (r : Reps G (kvs.map (·.2)) ds) : Rep G (.ref a) (.dic ks ds)
  | fn {a : Addr} {x : Str} (h : mg x = some (.ref a)) : Rep G (.ref a) (.fn x)
inductive Reps (G : Hp) : List V → List D → Prop
  | nil : Reps G [] []
  | cons {v : V} {vs : List V} {d : D} {ds : List D} (h : Rep G v d) (t : Reps G vs ds) : Reps G (v :: vs) (d :: ds)
end
end

section
variable {K : PySem.W.Frag} {mg : Str → Option Value} {G G' H H' : Hp}
theorem Rd.mono {a : Addr} {u : HO} (e : Ext G G') (h : Rd G a u) : Rd G' a u := h.elim (fun h => .inl (e a _ h)) fun ⟨o, h⟩ => .inr ⟨o, e a _ h⟩
theorem SqL.mono {a : Addr} {xs : List V} (e : Ext G G') (h : SqL K G a xs) : SqL K G' a xs := h.elim (fun h => .inl (Rd.mono e h)) .inr
theorem SqT.mono {a : Addr} {xs : List V} (e : Ext G G') (h : SqT K G a xs) : SqT K G' a xs := h.elim (fun h => .inl (Rd.mono e h)) .inr
mutual
theorem Rep.mono (e : Ext G G') : ∀ {v : V} {d : D}, Rep K mg G v d → Rep K mg G' v d
  | _, _, .non => .non
  | _, _, .bl b => .bl b
  | _, _, .int i => .int i
  | _, _, .str x => .str x
  | _, _, .lst h r => .lst (e _ _ h) (Reps.mono e r)
  | _, _, .scr h => .scr (ScrL.mono e h)
  | _, _, .tup h r => .tup (SqT.mono e h) (Reps.mono e r)
  | _, _, .dic h k r => .dic (e _ _ h) k (Reps.mono e r)
  | _, _, .fn h => .fn h
theorem Reps.mono (e : Ext G G') : ∀ {vs : List V} {ds : List D}, Reps K mg G vs ds → Reps K mg G' vs ds
  | _, _, .nil => .nil
  | _, _, .cons h t => .cons (Rep.mono e h) (Reps.mono e t)
end
theorem Reps.length : ∀ {vs : List V} {ds : List D}, Reps K mg G vs ds → vs.length = ds.length
  | _, _, .nil => rfl
  | _, _, .cons _ t => congrArg Nat.succ (Reps.length t)
theorem Reps.app : ∀ {vs ws : List V} {ds es : List D}, Reps K mg G vs ds → Reps K mg G ws es → Reps K mg G (vs ++ ws) (ds ++ es)
  | _, _, _, _, .nil, s => s
  | _, _, _, _, .cons h t, s => .cons h (Reps.app t s)
theorem Reps.get : ∀ {vs : List V} {ds : List D} {i : Nat} {d : D}, Reps K mg G vs ds → ds[i]? = some d → ∃ v, vs[i]? = some v ∧ Rep K mg G v d
  | _, _, _, _, .nil, e => by simp at e
  | _, _, 0, _, .cons h _, e => by simp at e; subst e; exact ⟨_, rfl, h⟩
  | _, _, i + 1, _, .cons _ t, e => by simpa using Reps.get (i := i) t (by simpa using e)
theorem Reps.getV : ∀ {vs : List V} {ds : List D} {i : Nat} {v : V}, Reps K mg G vs ds → vs[i]? = some v → ∃ d, ds[i]? = some d ∧ Rep K mg G v d
  | _, _, _, _, .nil, e => by simp at e
  | _, _, 0, _, .cons h _, e => by simp at e; subst e; exact ⟨_, rfl, h⟩
  | _, _, i + 1, _, .cons _ t, e => by simpa using Reps.getV (i := i) t (by simpa using e)
theorem Reps.drop : ∀ {vs : List V} {ds : List D} (n : Nat), Reps K mg G vs ds → Reps K mg G (vs.drop n) (ds.drop n)
  | _, _, 0, r => r
  | _, _, _ + 1, .nil => .nil
  | _, _, n + 1, .cons _ t => Reps.drop n t
theorem Reps.take : ∀ {vs : List V} {ds : List D} (n : Nat), Reps K mg G vs ds → Reps K mg G (vs.take n) (ds.take n)
  | _, _, 0, _ => .nil
  | _, _, _ + 1, .nil => .nil
  | _, _, n + 1, .cons h t => .cons h (Reps.take n t)
theorem Reps.rev : ∀ {vs : List V} {ds : List D}, Reps K mg G vs ds → Reps K mg G vs.reverse ds.reverse
  | _, _, .nil => .nil
  | _, _, .cons h t => by
    rw [List.reverse_cons, List.reverse_cons]
    exact (Reps.rev t).app (.cons h .nil)
theorem setL_eq {α : Type} (y : α) : ∀ (xs : List α) (i : Nat), setL xs i y = xs.set i y
  | [], _ => rfl
  | _ :: _, 0 => rfl
  | x :: r, n + 1 => congrArg (x :: ·) (setL_eq y r n)
theorem Reps.set {v : V} {d : D} (h : Rep K mg G v d) : ∀ {vs : List V} {ds : List D} (i : Nat), Reps K mg G vs ds → Reps K mg G (vs.set i v) (setL ds i d)
  | _, _, _, .nil => .nil
  | _, _, 0, .cons _ t => .cons h t
  | _, _, n + 1, .cons q t => .cons q (Reps.set h n t)
theorem Reps.dropLast : ∀ {vs : List V} {ds : List D}, Reps K mg G vs ds → Reps K mg G vs.dropLast ds.dropLast := fun {vs ds} r => by
  rw [List.dropLast_eq_take, List.dropLast_eq_take, r.length]
  exact r.take _
theorem Reps.eraseIdx : ∀ {vs : List V} {ds : List D} (i : Nat), Reps K mg G vs ds → Reps K mg G (vs.eraseIdx i) (ds.eraseIdx i)
  | _, _, _, .nil => .nil
  | _, _, 0, .cons _ t => t
  | _, _, n + 1, .cons q t => .cons q (Reps.eraseIdx n t)
theorem Reps.rep : ∀ {vs : List V} {ds : List D} (n : Nat), Reps K mg G vs ds → Reps K mg G (List.replicate n vs).flatten (repD n ds)
  | _, _, 0, _ => .nil
  | _, _, n + 1, r => by
    rw [List.replicate_succ, List.flatten_cons]
    exact r.app (Reps.rep n r)

/-- the own thing of a slot -/
def OwnR (K : PySem.W.Frag) (mg : Str → Option Value) (H G : Hp) (a : Addr) (d : D) : Prop :=
  (∃ vs ds, d = .lst ds ∧ H a = some (.lst vs) ∧ Reps K mg G vs ds) ∨
  ∃ kvs ds, d = .dic (kvs.map (·.1)) ds ∧ H a = some (.dK kvs) ∧ Reps K mg G (kvs.map (·.2)) ds
theorem OwnR.mono {a : Addr} {d : D} (e : Ext G G') (k : ∀ o, H a = some o → H' a = some o) (h : OwnR K mg H G a d) : OwnR K mg H' G' a d := h.elim
  (fun ⟨vs, ds, e1, e2, r⟩ => .inl ⟨vs, ds, e1, k _ e2, r.mono e⟩) fun ⟨kvs, ds, e1, e2, r⟩ => .inr ⟨kvs, ds, e1, k _ e2, r.mono e⟩
theorem OwnR.there {a : Addr} {d : D} (h : OwnR K mg H G a d) : ∃ o, H a = some o := h.elim (fun ⟨_, _, _, e, _⟩ => ⟨_, e⟩) fun ⟨_, _, _, e, _⟩ => ⟨_, e⟩
/-- once it is never changed any more -/
theorem OwnR.rep {a : Addr} {d : D} (e : Ext G G') (k : ∀ o, H a = some o → G' a = some o) (h : OwnR K mg H G a d) : Rep K mg G' (.ref a) d := h.elim
  (fun ⟨vs, ds, e1, e2, r⟩ => by subst e1; exact .lst (k _ e2) (r.mono e)) fun ⟨kvs, ds, e1, e2, r⟩ => by subst e1; exact .dic (k _ e2) rfl (r.mono e)
end

/-- a def's entry: the heap there, what its arguments may reach of it, the arguments that it may change -/
structure Ent where
  He : Hp
  Ge : Hp
  io : List (Nat × Addr)

def SlotR (K : PySem.W.Frag) (mg : Str → Option Value) (T : Ent) (H G : Hp) (σ : St) (i : Nat) : Slot → Prop
  | .un => True
  | .fr d => ∃ v, σ[i]? = some (some v) ∧ Rep K mg G v d
  | .ow d => ∃ a, σ[i]? = some (some (.ref a)) ∧ G a = none ∧ (T.He a = none ∨ (i, a) ∈ T.io) ∧ OwnR K mg H G a d

/-- the state: G holds what is never changed any more -/
structure Stt (K : PySem.W.Frag) (mg : Str → Option Value) (T : Ent) (H G : Hp) (σ : St) (e : Env) : Prop where
  len : e.length = σ.length
  sub : Ext G H
  ext : Ext T.Ge G
  new : ∀ a o, G a = some o → T.Ge a = some o ∨ T.He a = none
  keep : ∀ a o, T.He a = some o → (∀ i, (i, a) ∉ T.io) → H a = some o
  slot : ∀ i, SlotR K mg T H G σ i (getS e i)
  apart : ∀ i j a d d', i ≠ j → getS e i = .ow d → getS e j = .ow d' → σ[i]? = some (some (.ref a)) → σ[j]? ≠ some (some (.ref a))
  ios : ∀ p ∈ T.io, σ[p.1]? = some (some (.ref p.2)) ∧ ∃ d, getS e p.1 = .ow d

theorem getS_set_ne {i j : Nat} (t : Slot) (h : i ≠ j) : ∀ e : Env, getS (setS e i t) j = getS e j := by
  intro e
  induction e generalizing i j with
  | nil => rfl
  | cons s r ih =>
    cases i with
    | zero =>
      cases j with
      | zero => exact absurd rfl h
      | succ j => rfl
    | succ i =>
      cases j with
      | zero => rfl
      | succ j => exact ih (fun z => h (congrArg Nat.succ z))
theorem getS_set {i : Nat} (t : Slot) : ∀ e : Env, i < e.length → getS (setS e i t) i = t := by
  intro e
  induction e generalizing i with
  | nil => intro h; exact absurd h (Nat.not_lt_zero _)
  | cons s r ih =>
    intro h
    cases i with
    | zero => rfl
    | succ i => exact ih (Nat.lt_of_succ_lt_succ h)
theorem getS_lt {i : Nat} : ∀ {e : Env}, getS e i ≠ .un → i < e.length := by
  intro e
  induction e generalizing i with
  | nil => intro h; exact absurd rfl h
  | cons s r ih =>
    intro h
    cases i with
    | zero => exact Nat.succ_pos _
    | succ i => exact Nat.succ_lt_succ (ih h)
theorem setS_length (i : Nat) (t : Slot) : ∀ e : Env, (setS e i t).length = e.length := by
  intro e
  induction e generalizing i with
  | nil => rfl
  | cons s r ih =>
    cases i with
    | zero => rfl
    | succ i => exact congrArg Nat.succ (ih i)
theorem setS_out {i : Nat} (t : Slot) : ∀ e : Env, ¬ i < e.length → setS e i t = e := by
  intro e
  induction e generalizing i with
  | nil => intro _; rfl
  | cons s r ih =>
    intro hl
    cases i with
    | zero => exact absurd (Nat.succ_pos _) hl
    | succ i => exact congrArg (s :: ·) (ih (fun q => hl (Nat.succ_lt_succ q)))
/-- where it was, whatever was put elsewhere or behind the end -/
theorem getS_set_or {i j : Nat} (t : Slot) (e : Env) : (i = j ∧ getS (setS e i t) j = t) ∨ getS (setS e i t) j = getS e j := by
  by_cases h : i = j
  · subst h
    by_cases hl : i < e.length
    · exact .inl ⟨rfl, getS_set t e hl⟩
    · exact .inr (by rw [setS_out t e hl])
  · exact .inr (getS_set_ne t h e)

section
variable {K : PySem.W.Frag} {mg : Str → Option Value} {T : Ent} {H H' G G' : Hp} {σ : St} {e : Env}
theorem SlotR.mono {i : Nat} {s : Slot} (x : Ext G G') (n : ∀ a o, H a = some o → G a = none → G' a = none) (k : ∀ a o, H a = some o → H' a = some o) (h : SlotR K mg T H G σ i s) : SlotR K mg T H' G' σ i s := by
  cases s with
  | un => exact h
  | fr d => obtain ⟨v, e1, r⟩ := h; exact ⟨v, e1, r.mono x⟩
  | ow d =>
    obtain ⟨a, e1, g, q, o⟩ := h
    obtain ⟨ob, e2⟩ := o.there
    exact ⟨a, e1, n a ob e2 g, q, o.mono x (k a)⟩
/-- the heap grew, what was known stays; what is new in G was not in H -/
theorem Stt.grow (S : Stt K mg T H G σ e) (kH : Ext H H') (kG : Ext G G') (sub : Ext G' H') (new : ∀ a o, G' a = some o → G a = some o ∨ H a = none) : Stt K mg T H' G' σ e where
  len := S.len
  sub := sub
  ext := S.ext.trans kG
  new := fun a o h => by
    rcases new a o h with z | z
    · exact S.new a o z
    · refine .inr ?_
      cases q : T.He a with
      | none => rfl
      | some u =>
        by_cases hi : ∃ i, (i, a) ∈ T.io
        · obtain ⟨i, hi⟩ := hi
          obtain ⟨h1, d, h2⟩ := S.ios _ hi
          have s := S.slot i
          rw [h2] at s
          obtain ⟨b, e1, _, _, o1⟩ := s
          have h1 : σ[i]? = some (some (.ref a)) := h1
          rw [h1] at e1
          cases e1
          obtain ⟨_, e2⟩ := o1.there
          rw [z] at e2; cases e2
        · rw [S.keep a u q fun i hm => hi ⟨i, hm⟩] at z; cases z
  keep := fun a o h n => kH a o (S.keep a o h n)
  slot := fun i => (S.slot i).mono kG (fun a o h n => by
    cases q : G' a with
    | none => rfl
    | some u =>
      rcases new a u q with z | z
      · rw [n] at z; cases z
      · rw [h] at z; cases z) kH
  apart := S.apart
  ios := S.ios
/-- a new thing that is never changed -/
theorem Stt.made {p : Addr} {o : HO} (S : Stt K mg T H G σ e) (h : H p = none) : Stt K mg T (upd H p o) (upd G p o) σ e ∧ Ext G (upd G p o) := by
  have hg : G p = none := by
    cases q : G p with
    | none => rfl
    | some u => rw [S.sub p u q] at h; cases h
  refine ⟨S.grow (Ext.new h) (Ext.new hg) (fun a u q => ?_) (fun a u q => ?_), Ext.new hg⟩
  · by_cases z : a = p
    · subst z; rw [upd_same] at q ⊢; exact q
    · rw [upd_ne z] at q ⊢; exact S.sub a u q
  · by_cases z : a = p
    · subst z; exact .inr h
    · rw [upd_ne z] at q; exact .inl q
theorem Stt.noG {p : Addr} (S : Stt K mg T H G σ e) (h : H p = none) : G p = none := by
  cases q : G p with
  | none => rfl
  | some u => rw [S.sub p u q] at h; cases h
/-- a new thing of one's own: not in G -/
theorem Stt.made0 {p : Addr} {o : HO} (S : Stt K mg T H G σ e) (h : H p = none) : Stt K mg T (upd H p o) G σ e := S.grow (Ext.new h) (Ext.refl G) (S.sub.trans (Ext.new h)) fun _ _ q => .inl q
theorem Stt.notIo {i : Nat} {d : D} {a : Addr} (S : Stt K mg T H G σ e) (hi : ∀ b, (i, b) ∉ T.io) (h : getS e i = .ow d) (hs : σ[i]? = some (some (.ref a))) : T.He a = none ∧ ∀ j, (j, a) ∉ T.io := by
  have s := S.slot i
  rw [h] at s
  obtain ⟨b, e1, _, q, _⟩ := s
  rw [hs] at e1; cases e1
  refine ⟨q.resolve_right (hi a), fun j hj => ?_⟩
  obtain ⟨h1, d', h2⟩ := S.ios _ hj
  by_cases z : j = i
  · subst z; exact hi a hj
  · exact S.apart i j a d d' (Ne.symm z) h h2 hs h1
/-- an own thing is given up: from now on it is never changed -/
theorem Stt.freeze {i : Nat} {d : D} (S : Stt K mg T H G σ e) (hi : ∀ b, (i, b) ∉ T.io) (h : getS e i = .ow d) :
    ∃ a G', σ[i]? = some (some (.ref a)) ∧ Ext G G' ∧ Rep K mg G' (.ref a) d ∧ Stt K mg T H G' σ (setS e i (.fr d)) := by
  have s := S.slot i
  rw [h] at s
  obtain ⟨a, e1, g, q, o⟩ := s
  obtain ⟨ob, e2⟩ := o.there
  obtain ⟨q0, q1⟩ := S.notIo hi h e1
  have hl : i < e.length := getS_lt (by rw [h]; exact fun z => by cases z)
  have x : Ext G (upd G a ob) := Ext.new g
  have r : Rep K mg (upd G a ob) (.ref a) d := o.rep x fun u q => by rw [e2] at q; cases q; exact upd_same
  refine ⟨a, upd G a ob, e1, x, r, ?_⟩
  refine ⟨(setS_length i _ e).trans S.len, fun b u q => ?_, S.ext.trans x, fun b u q => ?_, S.keep, fun j => ?_, fun j k b dj dk hjk hj hk => ?_, fun p hp => ?_⟩
  · by_cases z : b = a
    · subst z; rw [upd_same] at q; cases q; exact e2
    · rw [upd_ne z] at q; exact S.sub b u q
  · by_cases z : b = a
    · subst z; exact .inr q0
    · rw [upd_ne z] at q; exact S.new b u q
  · by_cases z : i = j
    · subst z; rw [getS_set _ e hl]; exact ⟨_, e1, r⟩
    · rw [getS_set_ne _ z]
      have sj := S.slot j
      cases hs : getS e j with
      | un => trivial
      | fr dj => rw [hs] at sj; obtain ⟨v, f1, f2⟩ := sj; exact ⟨v, f1, f2.mono x⟩
      | ow dj =>
        rw [hs] at sj
        obtain ⟨b, f1, f2, f3, f4⟩ := sj
        have nb : b ≠ a := fun w => S.apart i j a d dj z h hs e1 (by rw [f1, w])
        exact ⟨b, f1, by rw [upd_ne nb]; exact f2, f3, f4.mono x fun _ q => q⟩
  · by_cases zj : i = j
    · subst zj; rw [getS_set _ e hl] at hj; cases hj
    · by_cases zk : i = k
      · subst zk; rw [getS_set _ e hl] at hk; cases hk
      · rw [getS_set_ne _ zj] at hj
        rw [getS_set_ne _ zk] at hk
        exact S.apart j k b dj dk hjk hj hk
  · obtain ⟨h1, d', h2⟩ := S.ios p hp
    have z : i ≠ p.1 := fun z => hi p.2 (by rw [z]; exact hp)
    exact ⟨h1, d', by rw [getS_set_ne _ z]; exact h2⟩
/-- an own thing is changed -/
theorem Stt.chg {i : Nat} {d d' : D} {a : Addr} {o : HO} (S : Stt K mg T H G σ e) (h : getS e i = .ow d) (hs : σ[i]? = some (some (.ref a))) (r : OwnR K mg (upd H a o) G a d') : Stt K mg T (upd H a o) G σ (setS e i (.ow d')) := by
  have s := S.slot i
  rw [h] at s
  obtain ⟨b, e1, g, q, _⟩ := s
  rw [hs] at e1; cases e1
  have hl : i < e.length := getS_lt (by rw [h]; exact fun z => by cases z)
  refine ⟨(setS_length i _ e).trans S.len, fun b u z => ?_, S.ext, S.new, fun b u z n => ?_, fun j => ?_, fun j k b dj dk hjk hj hk => ?_, fun p hp => ?_⟩
  · have nb : b ≠ a := fun w => by rw [w, g] at z; cases z
    rw [upd_ne nb]; exact S.sub b u z
  · have nb : b ≠ a := fun w => by
      subst w
      rcases q with q | q
      · rw [q] at z; cases z
      · exact n i q
    rw [upd_ne nb]; exact S.keep b u z n
  · by_cases z : i = j
    · subst z; rw [getS_set _ e hl]; exact ⟨a, hs, g, q, r⟩
    · rw [getS_set_ne _ z]
      have sj := S.slot j
      cases hj : getS e j with
      | un => trivial
      | fr dj => rw [hj] at sj; exact sj
      | ow dj =>
        rw [hj] at sj
        obtain ⟨b, f1, f2, f3, f4⟩ := sj
        have nb : b ≠ a := fun w => S.apart i j a d dj z h hj hs (by rw [f1, w])
        exact ⟨b, f1, f2, f3, f4.mono (Ext.refl G) fun u q => by rw [upd_ne nb]; exact q⟩
  · have back : ∀ {k : Nat} {dk : D}, getS (setS e i (.ow d')) k = .ow dk → ∃ d0, getS e k = .ow d0 := fun {k dk} hk => by
      by_cases z : i = k
      · subst z; exact ⟨d, h⟩
      · rw [getS_set_ne _ z] at hk; exact ⟨dk, hk⟩
    obtain ⟨x1, y1⟩ := back hj
    obtain ⟨x2, y2⟩ := back hk
    exact S.apart j k b x1 x2 hjk y1 y2
  · obtain ⟨h1, d0, h2⟩ := S.ios p hp
    refine ⟨h1, ?_⟩
    by_cases z : i = p.1
    · exact ⟨d', by rw [← z]; exact getS_set _ e hl⟩
    · exact ⟨d0, by rw [getS_set_ne _ z]; exact h2⟩
/-- a slot is stored: a value that is never changed -/
theorem Stt.store {i : Nat} {v : V} {d : D} (S : Stt K mg T H G σ e) (hi : ∀ b, (i, b) ∉ T.io) (r : Rep K mg G v d) : Stt K mg T H G (σ.set i (some v)) (setS e i (.fr d)) := by
  refine ⟨by rw [setS_length, List.length_set]; exact S.len, S.sub, S.ext, S.new, S.keep, fun j => ?_, fun j k b dj dk hjk hj hk => ?_, fun p hp => ?_⟩
  · rcases getS_set_or (i := i) (j := j) (.fr d) e with ⟨z, q⟩ | q
    · subst z
      rw [q]
      have hl : i < σ.length := by
        rw [← S.len, ← setS_length i (.fr d) e]
        exact getS_lt (by rw [q]; exact fun z => by cases z)
      exact ⟨v, by rw [List.getElem?_set_self hl], r⟩
    · rw [q]
      by_cases z : i = j
      · subst z
        by_cases hl : i < e.length
        · rw [getS_set _ e hl] at q
          have hl' : i < σ.length := by rw [← S.len]; exact hl
          rw [← q]
          exact ⟨v, by rw [List.getElem?_set_self hl'], r⟩
        · have hn : getS e i = .un := Classical.byContradiction fun hn => hl (getS_lt hn)
          rw [hn]; trivial
      · have s := S.slot j
        cases hs : getS e j with
        | un => trivial
        | fr dj => rw [hs] at s; obtain ⟨v', f1, f2⟩ := s; exact ⟨v', by rw [List.getElem?_set_ne z]; exact f1, f2⟩
        | ow dj => rw [hs] at s; obtain ⟨b, f1, f2⟩ := s; exact ⟨b, by rw [List.getElem?_set_ne z]; exact f1, f2⟩
  · have off : ∀ {k : Nat} {dk : D}, getS (setS e i (.fr d)) k = .ow dk → i ≠ k ∧ getS e k = .ow dk := fun {k dk} hk => by
      by_cases z : i = k
      · subst z
        rcases getS_set_or (i := i) (j := i) (.fr d) e with ⟨_, q⟩ | q
        · rw [q] at hk; cases hk
        · by_cases hl : i < e.length
          · rw [getS_set _ e hl] at hk; cases hk
          · rw [q] at hk
            exact absurd (getS_lt (by rw [hk]; exact fun z => by cases z)) hl
      · rw [getS_set_ne _ z] at hk; exact ⟨z, hk⟩
    obtain ⟨n1, y1⟩ := off hj
    obtain ⟨n2, y2⟩ := off hk
    rw [List.getElem?_set_ne n1, List.getElem?_set_ne n2]
    exact S.apart j k b dj dk hjk y1 y2
  · obtain ⟨h1, d', h2⟩ := S.ios p hp
    have z : i ≠ p.1 := fun z => hi p.2 (by rw [z]; exact hp)
    exact ⟨by rw [List.getElem?_set_ne z]; exact h1, d', by rw [getS_set_ne _ z]; exact h2⟩
/-- a slot is stored: a thing of its own, new since the entry, that no other slot has -/
theorem Stt.storeOwn {i : Nat} {a : Addr} {d : D} (S : Stt K mg T H G σ e) (hi : ∀ b, (i, b) ∉ T.io) (g : G a = none) (q : T.He a = none) (r : OwnR K mg H G a d) (fresh : ∀ j dj, getS e j = .ow dj → σ[j]? ≠ some (some (.ref a))) :
    Stt K mg T H G (σ.set i (some (.ref a))) (setS e i (.ow d)) := by
  have hsl : ∀ j, getS (setS e i (.ow d)) j = getS e j ∨ (i = j ∧ i < σ.length) := fun j => by
    by_cases z : i = j
    · by_cases hl : i < e.length
      · exact .inr ⟨z, by rw [← S.len]; exact hl⟩
      · subst z
        rcases getS_set_or (i := i) (j := i) (.ow d) e with ⟨_, q⟩ | q
        · exact absurd (by rw [← setS_length i (.ow d) e]; exact getS_lt (by rw [q]; exact fun z => by cases z)) hl
        · exact .inl q
    · exact .inl (getS_set_ne _ z e)
  refine ⟨by rw [setS_length, List.length_set]; exact S.len, S.sub, S.ext, S.new, S.keep, fun j => ?_, fun j k b dj dk hjk hj hk => ?_, fun p hp => ?_⟩
  · by_cases z : i = j
    · subst z
      rcases hsl i with w | ⟨_, hl⟩
      · by_cases hl : i < e.length
        · have hl' : i < σ.length := by rw [← S.len]; exact hl
          rw [getS_set _ e hl]
          exact ⟨a, by rw [List.getElem?_set_self hl'], g, .inl q, r⟩
        · rw [w, (Classical.byContradiction fun hn => hl (getS_lt hn) : getS e i = .un)]; trivial
      · rw [getS_set _ e (by rw [S.len]; exact hl)]
        exact ⟨a, by rw [List.getElem?_set_self hl], g, .inl q, r⟩
    · rw [getS_set_ne _ z]
      have s := S.slot j
      cases hs : getS e j with
      | un => trivial
      | fr dj => rw [hs] at s; obtain ⟨v', f1, f2⟩ := s; exact ⟨v', by rw [List.getElem?_set_ne z]; exact f1, f2⟩
      | ow dj => rw [hs] at s; obtain ⟨b, f1, f2⟩ := s; exact ⟨b, by rw [List.getElem?_set_ne z]; exact f1, f2⟩
  · have off : ∀ {k : Nat} {dk : D}, i ≠ k → getS (setS e i (.ow d)) k = .ow dk → getS e k = .ow dk := fun {k dk} z hk => by
      rw [getS_set_ne _ z] at hk; exact hk
    intro h1 h2
    by_cases zj : i = j
    · have zk : i ≠ k := fun w => hjk (zj.symm.trans w)
      subst zj
      have hl : i < σ.length := by
        have := getS_lt (i := i) (e := setS e i (.ow d)) (by rw [hj]; exact fun z => by cases z)
        rw [setS_length, S.len] at this
        exact this
      rw [List.getElem?_set_self hl] at h1
      cases h1
      rw [List.getElem?_set_ne zk] at h2
      exact fresh k dk (off zk hk) h2
    · rw [List.getElem?_set_ne zj] at h1
      by_cases zk : i = k
      · subst zk
        have hl : i < σ.length := by
          have := getS_lt (i := i) (e := setS e i (.ow d)) (by rw [hk]; exact fun z => by cases z)
          rw [setS_length, S.len] at this
          exact this
        rw [List.getElem?_set_self hl] at h2
        cases h2
        exact fresh j dj (off zj hj) h1
      · rw [List.getElem?_set_ne zk] at h2
        exact S.apart j k b dj dk hjk (off zj hj) (off zk hk) h1 h2
  · obtain ⟨h1, d', h2⟩ := S.ios p hp
    have z : i ≠ p.1 := fun z => hi p.2 (by rw [z]; exact hp)
    exact ⟨by rw [List.getElem?_set_ne z]; exact h1, d', by rw [getS_set_ne _ z]; exact h2⟩
end
end Vi
end
section
set_option maxHeartbeats 2000000
namespace Vi
open PySem L2

/-- what is wanted behind an operation with the value d -/
def Fin (K : PySem.W.Frag) (mg : Str → Option Value) (H : Hp) (d : D) (Q : VK) : Prop :=
  ∃ (T : Ent) (G : Hp) (σ : St) (e : Env), Stt K mg T H G σ e ∧ ∀ v H' G', Stt K mg T H' G' σ e → Ext H H' → Ext G G' → Rep K mg G' v d → Q v H'
section
variable {K : PySem.W.Frag} {mg : Str → Option Value} {T : Ent} {H G : Hp} {σ : St} {e : Env}

theorem len_le {n : Nat} (h : lenOk n = true) : n ≤ 1000000 := Nat.le_of_ble_eq_true h
theorem len_line {n : Nat} (h : lenOk n = true) : n ≤ sizeLine := Nat.le_trans (len_le h) (by decide)
theorem bits_ok {i j : Int} (h : bitsOk i j = true) : CMulW i j := by
  have h1 : i.natAbs.log2 + j.natAbs.log2 < 1000000 := Nat.lt_of_succ_le (Nat.le_of_ble_eq_true h)
  exact h1

/-- the operands: relation and continuation in one -/
structure Two (K : PySem.W.Frag) (mg : Str → Option Value) (H : Hp) (x y : V) (dx dy dz : D) (Q : VK) : Prop where
  go : ∃ (T : Ent) (G : Hp) (σ : St) (e : Env), Stt K mg T H G σ e ∧ Rep K mg G x dx ∧ Rep K mg G y dy ∧ ∀ v H' G', Stt K mg T H' G' σ e → Ext H H' → Ext G G' → Rep K mg G' v dz → Q v H'
def rB (K : PySem.W.Frag) (mg : Str → Option Value) (op : Op) : R2 := fun x y H Q => ∃ dx dy dz, binD op dx dy = some dz ∧ Two K mg H x y dx dy dz Q

theorem add_cases {x y z : D} (h : binD .add x y = some z) :
    (∃ i j, x = .int i ∧ y = .int j ∧ z = .int (i + j)) ∨ (∃ a b, x = .str a ∧ y = .str b ∧ z = .str (a ++ b) ∧ lenOk (a.length + b.length) = true) ∨
    (∃ a b, x = .lst a ∧ y = .lst b ∧ z = .lst (a ++ b) ∧ lenOk (a.length + b.length) = true) ∨ (∃ a b, x = .tup a ∧ y = .tup b ∧ z = .tup (a ++ b) ∧ lenOk (a.length + b.length) = true) := by
  unfold binD at h
  split at h <;> first
    | (simp at h; done)
    | (rename_i q; cases q; done)
    | skip
  all_goals simp_all
theorem mul_cases {x y z : D} (h : binD .mul x y = some z) :
    (∃ i j, x = .int i ∧ y = .int j ∧ z = .int (i * j) ∧ bitsOk i j = true) ∨
    (∃ a j, x = .lst a ∧ y = .int j ∧ z = .lst (repD j.toNat a) ∧ j ≤ 1000 ∧ -1000 ≤ j ∧ lenOk (a.length * j.toNat) = true) ∨
    (∃ a j, x = .tup a ∧ y = .int j ∧ z = .tup (repD j.toNat a) ∧ a.length ≤ 1000 ∧ 2 ≤ j ∧ j ≤ 1000 ∧ a ≠ []) := by
  unfold binD at h
  split at h <;> first
    | (simp at h; done)
    | (rename_i q; cases q; done)
    | skip
  all_goals (simp at h)
  all_goals simp_all
end

section
variable {X : Cx}
theorem opB_add : OpR X (binaryOp .Add) (rB X.K X.mg .add) := by
  intro pins s σ H x y v u Q I rx ry h
  obtain ⟨dx, dy, dz, h, ⟨T, G, σ', e, S, hx, hy, q⟩⟩ := h
  rcases add_cases h with ⟨i, j, rfl, rfl, rfl⟩ | ⟨a, b, rfl, rfl, rfl, hz⟩ | ⟨a, b, rfl, rfl, rfl, hz⟩ | ⟨a, b, rfl, rfl, rfl, hz⟩
  · cases hx; cases hy
    exact op_add pins s σ H _ _ v u Q I rx ry ⟨i, j, rfl, rfl, q _ H G S (Ext.refl H) (Ext.refl G) (.int _)⟩
  · cases hx; cases hy
    exact op_add_str pins s σ H _ _ v u Q I rx ry ⟨a, b, rfl, rfl, len_line hz, q _ H G S (Ext.refl H) (Ext.refl G) (.str _)⟩
  · cases hx with
    | lst h1 r1 =>
      cases hy with
      | lst h2 r2 =>
        refine op_cat pins s σ H _ _ v u Q I rx ry ⟨_, _, _, _, rfl, rfl, S.sub _ _ h1, S.sub _ _ h2, by rw [r1.length, r2.length]; exact len_line hz, fun p hp => ?_⟩
        obtain ⟨S', x'⟩ := S.made (o := .lst _) hp
        exact q _ _ _ S' (Ext.new hp) x' (.lst upd_same ((r1.mono x').app (r2.mono x')))
  · cases hx with
    | tup h1 r1 =>
      cases hy with
      | tup h2 r2 =>
        have l1 := r1.length
        have l2 := r2.length
        refine op_catA pins s σ H _ _ v u Q I rx ry ⟨_, _, _, _, rfl, rfl, SqT.mono S.sub h1, SqT.mono S.sub h2, by rw [l1, l2]; exact len_line hz, fun e1 => ?_, fun _ e2 => ?_, fun _ _ p hp => ?_⟩
        · subst e1
          cases r1
          exact q _ H G S (Ext.refl H) (Ext.refl G) (.tup h2 r2)
        · subst e2
          cases r2
          rw [List.append_nil] at q
          exact q _ H G S (Ext.refl H) (Ext.refl G) (.tup h1 r1)
        · obtain ⟨S', x'⟩ := S.made (o := .tup _) hp
          exact q _ _ _ S' (Ext.new hp) x' (.tup (.inl (.inl upd_same)) ((r1.mono x').app (r2.mono x')))
theorem opB_sub : OpR X (binaryOp .Sub) (rB X.K X.mg .sub) := by
  intro pins s σ H x y v u Q I rx ry h
  obtain ⟨dx, dy, dz, h, ⟨T, G, σ', e, S, hx, hy, q⟩⟩ := h
  cases hx <;> cases hy <;> first
    | (simp [binD] at h; done)
    | (simp only [binD, Option.some.injEq] at h
       subst h
       exact op_sub pins s σ H _ _ v u Q I rx ry ⟨_, _, rfl, rfl, q _ H G S (Ext.refl H) (Ext.refl G) (.int _)⟩)
theorem opB_mul : OpR X (binaryOp .Mult) (rB X.K X.mg .mul) := by
  intro pins s σ H x y v u Q I rx ry h
  obtain ⟨dx, dy, dz, h, ⟨T, G, σ', e, S, hx, hy, q⟩⟩ := h
  rcases mul_cases h with ⟨i, j, rfl, rfl, rfl, hz⟩ | ⟨a, j, rfl, rfl, rfl, h1, h2, hz⟩ | ⟨a, j, rfl, rfl, rfl, hl, h1, h2, hn⟩
  · cases hx; cases hy
    exact op_mulW pins s σ H _ _ v u Q I rx ry ⟨i, j, rfl, rfl, bits_ok hz, q _ H G S (Ext.refl H) (Ext.refl G) (.int _)⟩
  · cases hx with
    | lst g1 r1 =>
      cases hy
      refine op_rep pins s σ H _ _ v u Q I rx ry ⟨_, j, _, rfl, rfl, S.sub _ _ g1, by omega, by omega, by rw [r1.length]; exact len_line hz, fun p hp => ?_⟩
      obtain ⟨S', x'⟩ := S.made (o := .lst _) hp
      exact q _ _ _ S' (Ext.new hp) x' (.lst upd_same ((r1.mono x').rep _))
  · cases hx with
    | tup g1 r1 =>
      cases hy
      have l1 := r1.length
      refine op_repT pins s σ H _ _ v u Q I rx ry ⟨_, j, _, rfl, rfl, SqT.mono S.sub g1, ?_, h1, h2, by omega, fun p hp => ?_⟩
      · intro z; subst z; cases r1; exact hn rfl
      · obtain ⟨S', x'⟩ := S.made (o := .tup _) hp
        exact q _ _ _ S' (Ext.new hp) x' (.tup (.inl (.inl upd_same)) ((r1.mono x').rep _))
theorem op_fdivM : OpR X (binaryOp .FloorDiv) (rI (fun _ j => j ≠ 0 ∧ j.natAbs.log2 < 9000) fun i j => .int (i.fdiv j)) :=
  opI fun _ _ _ _ _ _ _ hc q => PyProof.Rows.floordiv_int hc.1 q (.inl (PyProof.noPylong_of_log2 hc.2))
theorem opB_fdiv : OpR X (binaryOp .FloorDiv) (rB X.K X.mg .fdiv) := by
  intro pins s σ H x y v u Q I rx ry h
  obtain ⟨dx, dy, dz, h, ⟨T, G, σ', e, S, hx, hy, q⟩⟩ := h
  cases hx <;> cases hy <;> first
    | (simp [binD] at h; done)
    | skip
  rename_i i j
  simp only [binD] at h
  split at h
  · rename_i c
    simp only [Bool.and_eq_true, decide_eq_true_eq] at c
    cases h
    have c2 : j.natAbs.log2 < 9000 := Nat.lt_of_succ_le (Nat.le_of_ble_eq_true c.2)
    exact op_fdivW pins s σ H _ _ v u Q I rx ry ⟨i, j, rfl, rfl, ⟨c.1, c2⟩, q _ H G S (Ext.refl H) (Ext.refl G) (.int _)⟩
  · split at h
    · rename_i c
      simp only [Bool.and_eq_true, decide_eq_true_eq] at c
      cases h
      have c1 := c.1
      have c2 : j.natAbs.log2 < 9000 := Nat.lt_of_succ_le (Nat.le_of_ble_eq_true c.2)
      exact op_fdivM pins s σ H _ _ v u Q I rx ry ⟨i, j, rfl, rfl, ⟨by omega, c2⟩, q _ H G S (Ext.refl H) (Ext.refl G) (.int _)⟩
    · cases h
theorem opB_mod : OpR X (binaryOp .Mod) (rB X.K X.mg .mod) := by
  intro pins s σ H x y v u Q I rx ry h
  obtain ⟨dx, dy, dz, h, ⟨T, G, σ', e, S, hx, hy, q⟩⟩ := h
  cases hx <;> cases hy <;> first
    | (simp [binD] at h; done)
    | skip
  rename_i i j
  simp only [binD] at h
  split at h
  · rename_i c
    cases h
    exact op_mod pins s σ H _ _ v u Q I rx ry ⟨i, j, rfl, rfl, c, q _ H G S (Ext.refl H) (Ext.refl G) (.int _)⟩
  · cases h
theorem opB_pow : OpR X (binaryOp .Pow) (rB X.K X.mg .pow) := by
  intro pins s σ H x y v u Q I rx ry h
  obtain ⟨dx, dy, dz, h, ⟨T, G, σ', e, S, hx, hy, q⟩⟩ := h
  cases hx <;> cases hy <;> first
    | (simp [binD] at h; done)
    | skip
  rename_i i j
  simp only [binD] at h
  split at h
  · rename_i c
    simp only [Bool.and_eq_true, decide_eq_true_eq] at c
    cases h
    obtain ⟨⟨c1, c2⟩, c3⟩ := c
    exact op_pow pins s σ H _ _ v u Q I rx ry ⟨i, j, rfl, rfl, ⟨c1, by omega, c3⟩, q _ H G S (Ext.refl H) (Ext.refl G) (.int _)⟩
  · cases h
def opOf : Op → Operator
  | .add => .Add | .sub => .Sub | .mul => .Mult | .fdiv => .FloorDiv | .mod => .Mod | .pow => .Pow
theorem opB (op : Op) : OpR X (binaryOp (opOf op)) (rB X.K X.mg op) := by
  cases op
  · exact opB_add
  · exact opB_sub
  · exact opB_mul
  · exact opB_fdiv
  · exact opB_mod
  · exact opB_pow
end
end Vi
end
section
set_option maxHeartbeats 2000000
namespace Vi
open PySem L2

mutual
theorem py_lay : ∀ d : D, d.pure = true → d.py.canLay0 = true
  | .non, _ => by simp only [D.py, PyData.canLay0]
  | .bl _, _ => by simp only [D.py, PyData.canLay0]
  | .int _, _ => by simp only [D.py, PyData.canLay0]
  | .str s, h => by
    simp only [D.py, PyData.canLay0]
    exact (show (s.cps.all fun c => decide (c < 0x110000)) = true by simpa only [D.pure] using h)
  | .lst xs, h => by
    simp only [D.py, PyData.canLay0]
    exact pys_lay xs (by simpa only [D.pure] using h)
  | .tup xs, h => by
    simp only [D.py, PyData.canLay0]
    exact pys_lay xs (by simpa only [D.pure] using h)
  | .dic _ _, h => by simp [D.pure] at h
  | .fn _, h => by simp [D.pure] at h
  | .clo _ _, h => by simp [D.pure] at h
  | .ins _ _ _, h => by simp [D.pure] at h
  | .scr _, h => by simp [D.pure] at h
theorem pys_lay : ∀ xs : List D, D.pures xs = true → PyData.canLayAll0 (D.pys xs) = true
  | [], _ => by simp only [D.pys, PyData.canLayAll0]
  | x :: xs, h => by
    have h : D.pure x = true ∧ D.pures xs = true := by simpa only [D.pures, Bool.and_eq_true] using h
    simp only [D.pys, PyData.canLayAll0, py_lay x h.1, pys_lay xs h.2, Bool.and_self]
end
mutual
theorem py_depth : ∀ d : D, d.py.depth ≤ d.depth
  | .non => by simp [D.py, D.depth, PyData.depth]
  | .bl _ => by simp [D.py, D.depth, PyData.depth]
  | .int _ => by simp [D.py, D.depth, PyData.depth]
  | .str _ => by simp [D.py, D.depth, PyData.depth]
  | .lst xs => by simp only [D.py, D.depth, PyData.depth]; exact Nat.succ_le_succ (pys_depth xs)
  | .tup xs => by simp only [D.py, D.depth, PyData.depth]; exact Nat.succ_le_succ (pys_depth xs)
  | .dic _ _ => by simp [D.py, D.depth, PyData.depth]
  | .fn _ => by simp [D.py, D.depth, PyData.depth]
  | .clo _ _ => by simp [D.py, D.depth, PyData.depth]
  | .ins _ _ _ => by simp [D.py, D.depth, PyData.depth]
  | .scr _ => by simp [D.py, D.depth, PyData.depth]
theorem pys_depth : ∀ xs : List D, PyData.depthAll (D.pys xs) ≤ D.depths xs
  | [] => by simp [D.pys, D.depths, PyData.depthAll]
  | x :: xs => by
    simp only [D.pys, D.depths, PyData.depthAll]
    exact Nat.max_le.mpr ⟨Nat.le_trans (py_depth x) (Nat.le_max_left _ _), Nat.le_trans (pys_depth xs) (Nat.le_max_right _ _)⟩
end
theorem flat_shaped {d : D} (h : d.flat = true) : SeqAt.shaped d.py = true ∧ d.pure = true := by
  unfold D.flat at h
  rw [Bool.and_eq_true] at h
  have h2 : d.depth ≤ 60 := Nat.le_of_ble_eq_true h.2
  refine ⟨?_, h.1⟩
  unfold SeqAt.shaped
  rw [py_lay d h.1, decide_eq_true (Nat.le_trans (py_depth d) (Nat.le_trans h2 (by decide)))]
  rfl
mutual
theorem py_eqv : ∀ x y : D, x.pure = true → y.pure = true → PyData.eqv x.py y.py = D.eqv x y
  | .non, y, _, hy => by cases y <;> first | (simp [D.py, D.eqv, PyData.eqv]; done) | (simp [D.pure] at hy; done)
  | .bl _, y, _, hy => by cases y <;> first | (simp [D.py, D.eqv, PyData.eqv]; done) | (simp [D.pure] at hy; done)
  | .int _, y, _, hy => by cases y <;> first | (simp [D.py, D.eqv, PyData.eqv]; done) | (simp [D.pure] at hy; done)
  | .str _, y, _, hy => by cases y <;> first | (simp [D.py, D.eqv, PyData.eqv]; done) | (simp [D.pure] at hy; done)
  | .lst xs, y, hx, hy => by
    cases y <;> first
      | (simp [D.pure] at hy; done)
      | (simp [D.py, D.eqv, PyData.eqv]; done)
      | (rename_i ys
         simp only [D.py, D.eqv, PyData.eqv]
         exact pys_eqv xs ys (by simpa only [D.pure] using hx) (by simpa only [D.pure] using hy))
  | .tup xs, y, hx, hy => by
    cases y <;> first
      | (simp [D.pure] at hy; done)
      | (simp [D.py, D.eqv, PyData.eqv]; done)
      | (rename_i ys
         simp only [D.py, D.eqv, PyData.eqv]
         exact pys_eqv xs ys (by simpa only [D.pure] using hx) (by simpa only [D.pure] using hy))
  | .dic _ _, _, h, _ => by simp [D.pure] at h
  | .fn _, _, h, _ => by simp [D.pure] at h
  | .clo _ _, _, h, _ => by simp [D.pure] at h
  | .ins _ _ _, _, h, _ => by simp [D.pure] at h
  | .scr _, _, h, _ => by simp [D.pure] at h
theorem pys_eqv : ∀ xs ys : List D, D.pures xs = true → D.pures ys = true → PyData.eqvAll (D.pys xs) (D.pys ys) = D.eqvs xs ys
  | [], [], _, _ => by simp only [D.pys, D.eqvs, PyData.eqvAll]
  | [], _ :: _, _, _ => by simp only [D.pys, D.eqvs, PyData.eqvAll]
  | _ :: _, [], _, _ => by simp only [D.pys, D.eqvs, PyData.eqvAll]
  | x :: xs, y :: ys, hx, hy => by
    have hx : D.pure x = true ∧ D.pures xs = true := by simpa only [D.pures, Bool.and_eq_true] using hx
    have hy : D.pure y = true ∧ D.pures ys = true := by simpa only [D.pures, Bool.and_eq_true] using hy
    simp only [D.pys, D.eqvs, PyData.eqvAll, py_eqv x y hx.1 hy.1, pys_eqv xs ys hx.2 hy.2]
end
section
variable {K : PySem.W.Frag} {mg : Str → Option Value} {G H : Hp}
mutual
theorem Rep.dp (e : Ext G H) : ∀ (d : D) (v : V), d.pure = true → Rep K mg G v d → Dp K H v d.py
  | .non, _, _, h => by cases h; simp only [D.py]; exact .non
  | .bl _, _, _, h => by cases h; simp only [D.py]; exact .bl _
  | .int _, _, _, h => by cases h; simp only [D.py]; exact .int _
  | .str _, _, _, h => by cases h; simp only [D.py]; exact .str _
  | .lst xs, _, p, h => by
    cases h with
    | lst h1 r => simp only [D.py]; exact .lst (.inl (.inl (e _ _ h1))) (Reps.dp e xs _ (by simpa only [D.pure] using p) r)
  | .tup xs, _, p, h => by
    cases h with
    | tup h1 r => simp only [D.py]; exact .tup (SqT.mono e h1) (Reps.dp e xs _ (by simpa only [D.pure] using p) r)
  | .dic _ _, _, p, _ => by simp [D.pure] at p
  | .fn _, _, p, _ => by simp [D.pure] at p
  | .clo _ _, _, p, _ => by simp [D.pure] at p
  | .ins _ _ _, _, p, _ => by simp [D.pure] at p
  | .scr _, _, p, _ => by simp [D.pure] at p
theorem Reps.dp (e : Ext G H) : ∀ (ds : List D) (vs : List V), D.pures ds = true → Reps K mg G vs ds → DpAll K H vs (D.pys ds)
  | [], _, _, h => by cases h; simp only [D.pys]; exact .nil
  | d :: ds, _, p, h => by
    have p : D.pure d = true ∧ D.pures ds = true := by simpa only [D.pures, Bool.and_eq_true] using p
    cases h with
    | cons h1 t => simp only [D.pys]; exact .cons (Rep.dp e d _ p.1 h1) (Reps.dp e ds _ p.2 t)
end
end

def rC (K : PySem.W.Frag) (mg : Str → Option Value) (c : Cop) : R2 := fun x y H Q => ∃ dx dy b, cmpD c dx dy = some b ∧ ∃ (G : Hp), Ext G H ∧ Rep K mg G x dx ∧ Rep K mg G y dy ∧ Q (.bl b) H
section
variable {X : Cx}
theorem opC_eq (hu : X.A.units + 64 < cLine) : OpR X (compareOp .Eq) (rC X.K X.mg .eq) := by
  intro pins s σ H x y v u Q I rx ry ⟨dx, dy, b, h, G, e, hx, hy, q⟩
  have h : eqD dx dy = some b := h
  unfold eqD at h
  split at h
  · rename_i a c
    cases h; cases hx; cases hy
    exact op_eq pins s σ H _ _ v u Q I rx ry ⟨rfl, by rw [L2.dec_str]; exact q⟩
  · rename_i a c
    cases h; cases hx; cases hy
    exact op_eq pins s σ H _ _ v u Q I rx ry ⟨rfl, by rw [L2.dec_int]; exact q⟩
  · split at h
    · rename_i c
      cases h
      rw [Bool.and_eq_true] at c
      obtain ⟨s1, p1⟩ := flat_shaped c.1
      obtain ⟨s2, p2⟩ := flat_shaped c.2
      exact op_eqD hu pins s σ H x y v u Q I rx ry ⟨_, _, hx.dp e dx x p1, hy.dp e dy y p2, s1, s2, by rw [py_eqv dx dy p1 p2]; exact q⟩
    · cases h
theorem opC_ne (hu : X.A.units + 64 < cLine) : OpR X (compareOp .NotEq) (rC X.K X.mg .ne) := by
  intro pins s σ H x y v u Q I rx ry ⟨dx, dy, b, h, G, e, hx, hy, q⟩
  have h : (eqD dx dy).map (fun b => !b) = some b := h
  unfold eqD at h
  split at h
  · rename_i a c
    cases h; cases hx; cases hy
    exact op_ne pins s σ H _ _ v u Q I rx ry ⟨rfl, by rw [L2.dec_str]; exact q⟩
  · rename_i a c
    cases h; cases hx; cases hy
    exact op_ne pins s σ H _ _ v u Q I rx ry ⟨rfl, by rw [L2.dec_int]; exact q⟩
  · split at h
    · rename_i c
      cases h
      rw [Bool.and_eq_true] at c
      obtain ⟨s1, p1⟩ := flat_shaped c.1
      obtain ⟨s2, p2⟩ := flat_shaped c.2
      exact op_neD hu pins s σ H x y v u Q I rx ry ⟨_, _, hx.dp e dx x p1, hy.dp e dy y p2, s1, s2, by rw [py_eqv dx dy p1 p2]; exact q⟩
    · cases h
theorem opC_lt : OpR X (compareOp .Lt) (rC X.K X.mg .lt) := by
  intro pins s σ H x y v u Q I rx ry ⟨dx, dy, b, h, G, e, hx, hy, q⟩
  cases hx <;> cases hy <;> first
    | (simp [cmpD] at h; done)
    | (simp only [cmpD, Option.some.injEq] at h; subst h; exact op_lt pins s σ H _ _ v u Q I rx ry ⟨_, _, rfl, rfl, q⟩)
theorem opC_le : OpR X (compareOp .LtE) (rC X.K X.mg .le) := by
  intro pins s σ H x y v u Q I rx ry ⟨dx, dy, b, h, G, e, hx, hy, q⟩
  cases hx <;> cases hy <;> first
    | (simp [cmpD] at h; done)
    | (simp only [cmpD, Option.some.injEq] at h; subst h; exact op_le pins s σ H _ _ v u Q I rx ry ⟨_, _, rfl, rfl, q⟩)
theorem opC_gt : OpR X (compareOp .Gt) (rC X.K X.mg .gt) := by
  intro pins s σ H x y v u Q I rx ry ⟨dx, dy, b, h, G, e, hx, hy, q⟩
  cases hx <;> cases hy <;> first
    | (simp [cmpD] at h; done)
    | (simp only [cmpD, Option.some.injEq] at h; subst h; exact op_gt pins s σ H _ _ v u Q I rx ry ⟨_, _, rfl, rfl, q⟩)
theorem opC_ge : OpR X (compareOp .GtE) (rC X.K X.mg .ge) := by
  intro pins s σ H x y v u Q I rx ry ⟨dx, dy, b, h, G, e, hx, hy, q⟩
  cases hx <;> cases hy <;> first
    | (simp [cmpD] at h; done)
    | (simp only [cmpD, Option.some.injEq] at h; subst h; exact op_ge pins s σ H _ _ v u Q I rx ry ⟨_, _, rfl, rfl, q⟩)
theorem opC_isN : OpR X (compareOp .Is) (rC X.K X.mg .isN) := by
  intro pins s σ H x y v u Q I rx ry ⟨dx, dy, b, h, G, e, hx, hy, q⟩
  cases hy <;> first
    | (simp [cmpD] at h; done)
    | skip
  refine op_isN pins s σ H x _ v u Q I rx ry ⟨rfl, ?_⟩
  cases hx <;> (simp [cmpD] at h; subst h; exact q)
theorem opC_notN : OpR X (compareOp .IsNot) (rC X.K X.mg .notN) := by
  intro pins s σ H x y v u Q I rx ry ⟨dx, dy, b, h, G, e, hx, hy, q⟩
  cases hy <;> first
    | (simp [cmpD] at h; done)
    | skip
  refine op_notN pins s σ H x _ v u Q I rx ry ⟨rfl, ?_⟩
  cases hx <;> (simp [cmpD] at h; subst h; exact q)
end
theorem memD_any (x : D) (ys : List D) (hx : x.pure = true) : ∀ ys : List D, D.pures ys = true → ((D.pys ys).any fun z => PyData.eqv z x.py) = memD x ys
  | [], _ => by simp [D.pys, memD]
  | y :: ys, h => by
    have h : D.pure y = true ∧ D.pures ys = true := by simpa only [D.pures, Bool.and_eq_true] using h
    have ih := memD_any x ys hx ys h.2
    unfold memD at ih ⊢
    simp only [D.pys, List.any_cons, py_eqv y x h.1 hx, ih]
theorem str_one {c : Str} (h : (c.length == 1) = true) : c = ⟨#[c.cps.getD 0 0]⟩ := by
  obtain ⟨⟨l⟩⟩ := c
  have h : l.length = 1 := by simpa [Str.length] using h
  match l, h with
  | [a], _ => rfl
section
variable {X : Cx}
theorem opC_inn (hu : X.A.units + 65 < cLine) : OpR X (compareOp .In) (rC X.K X.mg .inn) := by
  intro pins s σ H x y v u Q I rx ry ⟨dx, dy, b, h, G, e, hx, hy, q⟩
  cases hy with
  | lst h1 r =>
    rename_i a xs ds
    simp only [cmpD] at h
    split at h
    · rename_i c
      cases h
      rw [Bool.and_eq_true] at c
      obtain ⟨s1, p1⟩ := flat_shaped c.1
      obtain ⟨s2, p2⟩ := flat_shaped c.2
      have d2 := (Rep.lst (K := X.K) (mg := X.mg) h1 r).dp e _ _ p2
      simp only [D.py] at d2 s2
      have p3 : D.pures ds = true := by simpa only [D.pure] using p2
      exact op_inD hu pins s σ H x _ v u Q I rx ry ⟨_, _, hx.dp e dx x p1, d2, s1, s2, by rw [memD_any dx ds p1 ds p3]; exact q⟩
    · cases h
  | tup h1 r =>
    rename_i a xs ds
    simp only [cmpD] at h
    split at h
    · rename_i c
      cases h
      rw [Bool.and_eq_true] at c
      obtain ⟨s1, p1⟩ := flat_shaped c.1
      obtain ⟨s2, p2⟩ := flat_shaped c.2
      have d2 := (Rep.tup (K := X.K) (mg := X.mg) h1 r).dp e _ _ p2
      simp only [D.py] at d2 s2
      have p3 : D.pures ds = true := by simpa only [D.pure] using p2
      obtain ⟨as, r1⟩ := Dp.reads I _ x v (hx.dp e dx x p1) rx
      obtain ⟨bs, r2⟩ := Dp.reads I _ _ u d2 ry
      have hd : X.A.units + 1 + min (PyData.depthAll (D.pys ds)) dx.py.depth < cLine := by
        have := SeqAt.depth_of_shaped s1
        have := Nat.min_le_right (PyData.depthAll (D.pys ds)) dx.py.depth
        omega
      refine SeqAt.in_tuple_reads r2 r1 (pys_lay ds p3) (py_lay dx p1) hd ⟨.bl _, H, I, rfl, ?_⟩
      rw [memD_any dx ds p1 ds p3]; exact q
    · cases h
  | str z =>
    cases hx <;> first
      | (simp [cmpD] at h; done)
      | skip
    rename_i c
    simp only [cmpD] at h
    split at h
    · rename_i hc
      cases h
      rw [str_one hc] at rx q
      exact op_in_sign pins s σ H _ _ v u Q I rx ry ⟨_, z, rfl, rfl, by simpa using q⟩
    · cases h
  | _ => simp [cmpD] at h
theorem opC_nin (hu : X.A.units + 65 < cLine) : OpR X (compareOp .NotIn) (rC X.K X.mg .nin) := by
  intro pins s σ H x y v u Q I rx ry ⟨dx, dy, b, h, G, e, hx, hy, q⟩
  cases hy with
  | lst h1 r =>
    rename_i a xs ds
    simp only [cmpD] at h
    split at h
    · rename_i c
      cases h
      rw [Bool.and_eq_true] at c
      obtain ⟨s1, p1⟩ := flat_shaped c.1
      obtain ⟨s2, p2⟩ := flat_shaped c.2
      have d2 := (Rep.lst (K := X.K) (mg := X.mg) h1 r).dp e _ _ p2
      simp only [D.py] at d2 s2
      have p3 : D.pures ds = true := by simpa only [D.pure] using p2
      exact op_notInD hu pins s σ H x _ v u Q I rx ry ⟨_, _, hx.dp e dx x p1, d2, s1, s2, by rw [memD_any dx ds p1 ds p3]; exact q⟩
    · cases h
  | tup h1 r =>
    rename_i a xs ds
    simp only [cmpD] at h
    split at h
    · rename_i c
      cases h
      rw [Bool.and_eq_true] at c
      obtain ⟨s1, p1⟩ := flat_shaped c.1
      obtain ⟨s2, p2⟩ := flat_shaped c.2
      have d2 := (Rep.tup (K := X.K) (mg := X.mg) h1 r).dp e _ _ p2
      simp only [D.py] at d2 s2
      have p3 : D.pures ds = true := by simpa only [D.pure] using p2
      obtain ⟨as, r1⟩ := Dp.reads I _ x v (hx.dp e dx x p1) rx
      obtain ⟨bs, r2⟩ := Dp.reads I _ _ u d2 ry
      have hd : X.A.units + 1 + min (PyData.depthAll (D.pys ds)) dx.py.depth < cLine := by
        have := SeqAt.depth_of_shaped s1
        have := Nat.min_le_right (PyData.depthAll (D.pys ds)) dx.py.depth
        omega
      refine SeqAt.notIn_tuple_reads r2 r1 (pys_lay ds p3) (py_lay dx p1) hd ⟨.bl _, H, I, rfl, ?_⟩
      rw [memD_any dx ds p1 ds p3]; exact q
    · cases h
  | str z =>
    cases hx <;> first
      | (simp [cmpD] at h; done)
      | skip
    rename_i c
    simp only [cmpD] at h
    split at h
    · rename_i hc
      cases h
      rw [str_one hc] at rx q
      exact op_notIn_sign pins s σ H _ _ v u Q I rx ry ⟨_, z, rfl, rfl, by simpa using q⟩
    · cases h
  | _ => simp [cmpD] at h
def copOf : Cop → CmpOp
  | .eq => .Eq | .ne => .NotEq | .lt => .Lt | .le => .LtE | .gt => .Gt | .ge => .GtE | .isN => .Is | .notN => .IsNot | .inn => .In | .nin => .NotIn
theorem opC (hu : X.A.units + 65 < cLine) (c : Cop) : OpR X (compareOp (copOf c)) (rC X.K X.mg c) := by
  cases c
  · exact opC_eq (by omega)
  · exact opC_ne (by omega)
  · exact opC_lt
  · exact opC_le
  · exact opC_gt
  · exact opC_ge
  · exact opC_isN
  · exact opC_notN
  · exact opC_inn hu
  · exact opC_nin hu
end
end Vi
end
section
set_option maxHeartbeats 2000000
namespace Vi
open PySem L2

structure One (K : PySem.W.Frag) (mg : Str → Option Value) (H : Hp) (xs : List V) (ds : List D) (dz : D) (Q : VK) : Prop where
  go : ∃ (T : Ent) (G : Hp) (σ : St) (e : Env), Stt K mg T H G σ e ∧ Reps K mg G xs ds ∧ ∀ v H' G', Stt K mg T H' G' σ e → Ext H H' → Ext G G' → Rep K mg G' v dz → Q v H'
def rX (K : PySem.W.Frag) (mg : Str → Option Value) (f : List D → Option D) : List V → Hp → VK → Prop := fun xs H Q => ∃ ds dz, f ds = some dz ∧ One K mg H xs ds dz Q

section
variable {K : PySem.W.Frag} {mg : Str → Option Value} {G H : Hp}
theorem Reps.one {xs : List V} {d : D} (h : Reps K mg G xs [d]) : ∃ v, xs = [v] ∧ Rep K mg G v d := by
  cases h with
  | cons h t => cases t; exact ⟨_, rfl, h⟩
theorem Reps.two {xs : List V} {d e : D} (h : Reps K mg G xs [d, e]) : ∃ v w, xs = [v, w] ∧ Rep K mg G v d ∧ Rep K mg G w e := by
  cases h with
  | cons h t => obtain ⟨w, rfl, k⟩ := t.one; exact ⟨_, _, rfl, h, k⟩
theorem Reps.nil' {xs : List V} (h : Reps K mg G xs []) : xs = [] := by cases h; rfl
theorem Reps.ints : ∀ {xs : List V} {ns : List Int}, Reps K mg G xs (ns.map D.int) → xs = ns.map V.int
  | _, [], h => by cases h; rfl
  | _, n :: ns, h => by
    cases h with
    | cons h t => cases h; rw [Reps.ints t]; rfl
theorem Reps.bls : ∀ {xs : List V} {ns : List Bool}, Reps K mg G xs (ns.map D.bl) → xs = ns.map V.bl
  | _, [], h => by cases h; rfl
  | _, n :: ns, h => by
    cases h with
    | cons h t => cases h; rw [Reps.bls t]; rfl
theorem Reps.strs : ∀ {xs : List V} {ns : List Str}, Reps K mg G xs (ns.map D.str) → xs = ns.map V.str
  | _, [], h => by cases h; rfl
  | _, n :: ns, h => by
    cases h with
    | cons h t => cases h; rw [Reps.strs t]; rfl
theorem reps_strs : ∀ ns : List Str, Reps K mg G (ns.map V.str) (ns.map D.str)
  | [] => .nil
  | n :: ns => .cons (.str n) (reps_strs ns)
theorem reps_ints : ∀ ns : List Int, Reps K mg G (ns.map V.int) (ns.map D.int)
  | [] => .nil
  | n :: ns => .cons (.int n) (reps_ints ns)
theorem intsD_eq : ∀ {xs : List D} {l : List Int}, intsD xs = some l → xs = l.map D.int
  | [], _, h => by cases h; rfl
  | .int b :: r, l, h => by
    simp only [intsD, Option.map_eq_some_iff] at h
    obtain ⟨l', h1, rfl⟩ := h
    rw [intsD_eq h1]; rfl
  | .non :: _, _, h => by simp [intsD] at h
  | .bl _ :: _, _, h => by simp [intsD] at h
  | .str _ :: _, _, h => by simp [intsD] at h
  | .lst _ :: _, _, h => by simp [intsD] at h
  | .tup _ :: _, _, h => by simp [intsD] at h
  | .dic _ _ :: _, _, h => by simp [intsD] at h
  | .fn _ :: _, _, h => by simp [intsD] at h
  | .clo _ _ :: _, _, h => by simp [intsD] at h
  | .ins _ _ _ :: _, _, h => by simp [intsD] at h
  | .scr _ :: _, _, h => by simp [intsD] at h
theorem blsD_eq : ∀ {xs : List D} {l : List Bool}, blsD xs = some l → xs = l.map D.bl
  | [], _, h => by cases h; rfl
  | .bl b :: r, l, h => by
    simp only [blsD, Option.map_eq_some_iff] at h
    obtain ⟨l', h1, rfl⟩ := h
    rw [blsD_eq h1]; rfl
  | .non :: _, _, h => by simp [blsD] at h
  | .int _ :: _, _, h => by simp [blsD] at h
  | .str _ :: _, _, h => by simp [blsD] at h
  | .lst _ :: _, _, h => by simp [blsD] at h
  | .tup _ :: _, _, h => by simp [blsD] at h
  | .dic _ _ :: _, _, h => by simp [blsD] at h
  | .fn _ :: _, _, h => by simp [blsD] at h
  | .clo _ _ :: _, _, h => by simp [blsD] at h
  | .ins _ _ _ :: _, _, h => by simp [blsD] at h
  | .scr _ :: _, _, h => by simp [blsD] at h
theorem strsD_eq : ∀ {xs : List D} {l : List Str}, strsD xs = some l → xs = l.map D.str
  | [], _, h => by cases h; rfl
  | .str b :: r, l, h => by
    simp only [strsD, Option.map_eq_some_iff] at h
    obtain ⟨l', h1, rfl⟩ := h
    rw [strsD_eq h1]; rfl
  | .non :: _, _, h => by simp [strsD] at h
  | .int _ :: _, _, h => by simp [strsD] at h
  | .bl _ :: _, _, h => by simp [strsD] at h
  | .lst _ :: _, _, h => by simp [strsD] at h
  | .tup _ :: _, _, h => by simp [strsD] at h
  | .dic _ _ :: _, _, h => by simp [strsD] at h
  | .fn _ :: _, _, h => by simp [strsD] at h
  | .clo _ _ :: _, _, h => by simp [strsD] at h
  | .ins _ _ _ :: _, _, h => by simp [strsD] at h
  | .scr _ :: _, _, h => by simp [strsD] at h
theorem ixD_atI {α β : Type} {xs : List α} {ds : List β} {i : Int} {d : β} (hl : xs.length = ds.length) (h : ((ixD ds.length i).bind fun j => ds[j]?) = some d) : ∃ j, ixN ds.length i = some j ∧ ds[j]? = some d ∧ ∀ v, xs[j]? = some v → atI xs i = some v := by
  obtain ⟨j, h1, h2⟩ := Option.bind_eq_some_iff.mp h
  refine ⟨j, h1, h2, fun v hv => ?_⟩
  unfold atI
  rw [hl, show ixN ds.length i = some j from h1]
  exact hv
end

section
variable {X : Cx}
def rIxD (K : PySem.W.Frag) (mg : Str → Option Value) : R2 := fun x y H Q => ∃ dx dy dz, getD dx dy = some dz ∧ ∃ G : Hp, Ext G H ∧ Rep K mg G x dx ∧ Rep K mg G y dy ∧ ∀ v, Rep K mg G v dz → Q v H
theorem ixD_ok : IxR X (rIxD X.K X.mg) := by
  intro value slice pins s σ H x y v u Q I rx ry ⟨dx, dy, dz, h, G, e, hx, hy, q⟩ hp
  cases hx with
  | lst h1 r =>
    cases hy <;> first
      | (simp [getD] at h; done)
      | skip
    obtain ⟨j, h2, h3, h4⟩ := ixD_atI r.length h
    obtain ⟨w, hw, rw'⟩ := r.get h3
    exact ix_list value slice pins s σ H _ _ v u Q I rx ry ⟨_, _, _, w, rfl, rfl, .inl (.inl (e _ _ h1)), h4 w hw, q w rw'⟩ hp
  | tup h1 r =>
    cases hy <;> first
      | (simp [getD] at h; done)
      | skip
    obtain ⟨j, h2, h3, h4⟩ := ixD_atI r.length h
    obtain ⟨w, hw, rw'⟩ := r.get h3
    exact ix_tup value slice pins s σ H _ _ v u Q I rx ry ⟨_, _, _, w, rfl, rfl, SqT.mono e h1, h4 w hw, q w rw'⟩ hp
  | str z =>
    cases hy <;> first
      | (simp [getD] at h; done)
      | skip
    rename_i i
    simp only [getD] at h
    split at h
    · rename_i hz
      obtain ⟨j, h1, h2⟩ := Option.bind_eq_some_iff.mp h
      obtain ⟨c, h3, rfl⟩ := Option.map_eq_some_iff.mp h2
      refine ix_str value slice pins s σ H _ _ v u Q I rx ry ⟨z, i, c, rfl, rfl, len_line hz, ?_, q _ (.str _)⟩ hp
      unfold atI
      rw [show ixN z.cps.toList.length i = some j from h1]
      exact h3
    · cases h
  | scr h1 =>
    cases hy <;> first
      | (simp [getD] at h; done)
      | skip
    rename_i a ns i
    obtain ⟨j, h2, h3⟩ := Option.bind_eq_some_iff.mp h
    obtain ⟨n, h4, rfl⟩ := Option.map_eq_some_iff.mp h3
    refine ix_list value slice pins s σ H _ _ v u Q I rx ry ⟨_, _, _, .int n, rfl, rfl, SqL.mono e h1.sq, ?_, q _ (.int n)⟩ hp
    unfold atI
    rw [List.length_map, show ixN ns.length i = some j from h2]
    simp [h4]
  | _ => simp [getD] at h

def rSlD (K : PySem.W.Frag) (mg : Str → Option Value) : V → Option Int → Option Int → Hp → VK → Prop := fun x lo hi H Q => ∃ dx dz, cutD dx lo hi = some dz ∧ One K mg H [x] [dx] dz Q
theorem Reps.cut {K : PySem.W.Frag} {mg : Str → Option Value} {G : Hp} {vs : List V} {ds : List D} (r : Reps K mg G vs ds) (lo hi : Option Int) : Reps K mg G (cutV vs lo hi) (cutL ds lo hi) := by
  have e : cutV vs lo hi = (vs.drop (HT.sIx ds.length 0 lo)).take (HT.sIx ds.length ds.length hi - HT.sIx ds.length 0 lo) := by
    unfold cutV; rw [r.length]
  rw [e]
  exact (r.drop _).take _
theorem slD_ok : SlR X (rSlD X.K X.mg) := by
  intro pins s σ H x v vl vu lo hi sl Q I rx hs pl pu ⟨dx, dz, h, ⟨T, G, σ', e, S, hx, q⟩⟩
  obtain ⟨x', e1, hx⟩ := hx.one
  cases e1
  cases hx with
  | lst h1 r =>
    cases h
    refine sl_list pins s σ H _ v vl vu lo hi sl Q I rx hs pl pu ⟨_, _, rfl, .inl (.inl (S.sub _ _ h1)), fun p hp => ?_⟩
    obtain ⟨S', x'⟩ := S.made (o := .lst _) hp
    refine q _ _ _ S' (Ext.new hp) x' (.lst upd_same ?_)
    exact (r.mono x').cut lo hi
  | tup h1 r =>
    cases h
    refine sl_tupA pins s σ H _ v vl vu lo hi sl Q I rx hs pl pu ⟨_, _, rfl, SqT.mono S.sub h1, fun hw => ?_, fun hw p hp => ?_⟩
    · refine q _ H G S (Ext.refl H) (Ext.refl G) (.tup h1 ?_)
      rename_i xs ds
      have e2 : cutL ds lo hi = ds := by
        unfold cutL
        rw [← r.length, hw.1, hw.2, List.drop_zero, Nat.sub_zero, r.length, List.take_length]
      rw [e2]; exact r
    · obtain ⟨S', x'⟩ := S.made (o := .tup _) hp
      refine q _ _ _ S' (Ext.new hp) x' (.tup (.inl (.inl upd_same)) ?_)
      exact (r.mono x').cut lo hi
  | str z =>
    simp only [cutD] at h
    split at h
    · rename_i hz
      cases h
      exact sl_str pins s σ H _ v vl vu lo hi sl Q I rx hs pl pu ⟨z, rfl, len_line hz, q _ H G S (Ext.refl H) (Ext.refl G) (.str _)⟩
    · cases h
  | _ => simp [cutD] at h

theorem biD1 {f : Bi} {ds : List D} {dz : D} (h : biD f ds = some dz) : (∃ d, ds = [d]) ∨ ∃ d e, ds = [d, e] := by
  unfold biD at h
  split at h <;> first
    | exact .inl ⟨_, rfl⟩
    | exact .inr ⟨_, _, rfl⟩
    | cases h
theorem bi_len : CallR X (.builtin "len") (rX X.K X.mg (biD .len)) := by
  intro pins s σ H xs us Q I r ⟨ds, dz, h, ⟨T, G, σ', e, S, hx, q⟩⟩
  rcases biD1 h with ⟨d, rfl⟩ | ⟨d, d', rfl⟩
  · obtain ⟨x, rfl, hd⟩ := hx.one
    cases hd with
    | lst h1 r1 =>
      cases h
      rw [← r1.length] at q
      exact call_len pins s σ H _ us Q I r ⟨_, _, rfl, .inl ⟨_, .inl (.inl (S.sub _ _ h1)), rfl⟩, q _ H G S (Ext.refl H) (Ext.refl G) (.int _)⟩
    | tup h1 r1 =>
      cases h
      rw [← r1.length] at q
      exact call_len pins s σ H _ us Q I r ⟨_, _, rfl, .inr ⟨_, SqT.mono S.sub h1, rfl⟩, q _ H G S (Ext.refl H) (Ext.refl G) (.int _)⟩
    | str z =>
      simp only [biD] at h
      split at h
      · rename_i hz
        cases h
        exact call_len pins s σ H _ us Q I r ⟨_, _, rfl, ⟨len_line hz, rfl⟩, q _ H G S (Ext.refl H) (Ext.refl G) (.int _)⟩
      · cases h
    | scr h1 =>
      cases h
      rename_i a ns
      rw [← List.length_map (f := V.int)] at q
      exact call_len pins s σ H _ us Q I r ⟨_, _, rfl, .inl ⟨_, SqL.mono S.sub h1.sq, rfl⟩, q _ H G S (Ext.refl H) (Ext.refl G) (.int _)⟩
    | _ => simp [biD] at h
  · simp [biD] at h
theorem bi_abs : CallR X (.builtin "abs") (rX X.K X.mg (biD .abs)) := by
  intro pins s σ H xs us Q I r ⟨ds, dz, h, ⟨T, G, σ', e, S, hx, q⟩⟩
  rcases biD1 h with ⟨d, rfl⟩ | ⟨d, d', rfl⟩
  · obtain ⟨x, rfl, hd⟩ := hx.one
    cases hd <;> first
      | (simp [biD] at h; done)
      | skip
    cases h
    exact call_abs pins s σ H _ us Q I r ⟨_, rfl, q _ H G S (Ext.refl H) (Ext.refl G) (.int _)⟩
  · simp [biD] at h
theorem bi_int : CallR X (.type "int") (rX X.K X.mg (biD .int)) := by
  intro pins s σ H xs us Q I r ⟨ds, dz, h, ⟨T, G, σ', e, S, hx, q⟩⟩
  rcases biD1 h with ⟨d, rfl⟩ | ⟨d, d', rfl⟩
  · obtain ⟨x, rfl, hd⟩ := hx.one
    cases hd with
    | int i => cases h; exact call_int1 pins s σ H _ us Q I r (.inl ⟨_, rfl, q _ H G S (Ext.refl H) (Ext.refl G) (.int _)⟩)
    | bl i => cases h; exact call_int1 pins s σ H _ us Q I r (.inr ⟨_, rfl, q _ H G S (Ext.refl H) (Ext.refl G) (.int _)⟩)
    | str z =>
      simp only [biD] at h
      split at h
      · rename_i hz
        obtain ⟨n, h1, rfl⟩ := Option.map_eq_some_iff.mp h
        exact call_int_str pins s σ H _ us Q I r ⟨z, n, rfl, h1, Nat.le_trans (Nat.le_of_ble_eq_true hz) (by decide), q _ H G S (Ext.refl H) (Ext.refl G) (.int _)⟩
      · cases h
    | _ => simp [biD] at h
  · simp [biD] at h
theorem bi_str : CallR X (.type "str") (rX X.K X.mg (biD .str)) := by
  intro pins s σ H xs us Q I r ⟨ds, dz, h, ⟨T, G, σ', e, S, hx, q⟩⟩
  rcases biD1 h with ⟨d, rfl⟩ | ⟨d, d', rfl⟩
  · obtain ⟨x, rfl, hd⟩ := hx.one
    cases hd with
    | int i =>
      simp only [biD] at h
      split at h
      · rename_i hz
        cases h
        exact call_str_int pins s σ H _ us Q I r ⟨i, rfl, by have := Nat.lt_of_succ_le (Nat.le_of_ble_eq_true hz); omega, q _ H G S (Ext.refl H) (Ext.refl G) (.str _)⟩
      · cases h
    | str z => cases h; exact SkE.call_str_str pins s σ H _ us Q I r ⟨z, rfl, q _ H G S (Ext.refl H) (Ext.refl G) (.str _)⟩
    | _ => simp [biD] at h
  · simp [biD] at h
theorem bi_sum (hc : X.calm = true) : CallR X (.builtin "sum") (rX X.K X.mg (biD .sum)) := by
  intro pins s σ H xs us Q I r ⟨ds, dz, h, ⟨T, G, σ', e, S, hx, q⟩⟩
  rcases biD1 h with ⟨d, rfl⟩ | ⟨d, d', rfl⟩
  · obtain ⟨x, rfl, hd⟩ := hx.one
    cases hd <;> first
      | (simp [biD] at h; done)
      | skip
    rename_i a xs ds h1 r1
    obtain ⟨l, h2, rfl⟩ := Option.map_eq_some_iff.mp h
    have e2 := intsD_eq h2
    subst e2
    have e3 := r1.ints
    subst e3
    exact cr_sum hc pins s σ H _ us Q I r ⟨_, l, rfl, .inl (.inl (S.sub _ _ h1)), q _ H G S (Ext.refl H) (Ext.refl G) (.int _)⟩
  · simp [biD] at h
theorem bi_all (hc : X.calm = true) : CallR X (.builtin "all") (rX X.K X.mg (biD .all)) := by
  intro pins s σ H xs us Q I r ⟨ds, dz, h, ⟨T, G, σ', e, S, hx, q⟩⟩
  rcases biD1 h with ⟨d, rfl⟩ | ⟨d, d', rfl⟩
  · obtain ⟨x, rfl, hd⟩ := hx.one
    cases hd <;> first
      | (simp [biD] at h; done)
      | skip
    rename_i a xs ds h1 r1
    obtain ⟨l, h2, rfl⟩ := Option.map_eq_some_iff.mp h
    have e2 := blsD_eq h2
    subst e2
    have e3 := r1.bls
    subst e3
    exact cr_all hc pins s σ H _ us Q I r ⟨_, l, rfl, .inl (.inl (S.sub _ _ h1)), q _ H G S (Ext.refl H) (Ext.refl G) (.bl _)⟩
  · simp [biD] at h
theorem bi_any (hc : X.calm = true) : CallR X (.builtin "any") (rX X.K X.mg (biD .any)) := by
  intro pins s σ H xs us Q I r ⟨ds, dz, h, ⟨T, G, σ', e, S, hx, q⟩⟩
  rcases biD1 h with ⟨d, rfl⟩ | ⟨d, d', rfl⟩
  · obtain ⟨x, rfl, hd⟩ := hx.one
    cases hd <;> first
      | (simp [biD] at h; done)
      | skip
    rename_i a xs ds h1 r1
    obtain ⟨l, h2, rfl⟩ := Option.map_eq_some_iff.mp h
    have e2 := blsD_eq h2
    subst e2
    have e3 := r1.bls
    subst e3
    exact cr_any hc pins s σ H _ us Q I r ⟨_, l, rfl, .inl (.inl (S.sub _ _ h1)), q _ H G S (Ext.refl H) (Ext.refl G) (.bl _)⟩
  · simp [biD] at h
theorem bi_min (hc : X.calm = true) : CallR X (.builtin "min") (rX X.K X.mg (biD .min)) := by
  intro pins s σ H xs us Q I r ⟨ds, dz, h, ⟨T, G, σ', e, S, hx, q⟩⟩
  rcases biD1 h with ⟨d, rfl⟩ | ⟨d, d', rfl⟩
  · simp [biD] at h
  · obtain ⟨x, y, rfl, hd, hy⟩ := hx.two
    cases hd <;> cases hy <;> first
      | (simp [biD] at h; done)
      | skip
    cases h
    exact call_min2 hc pins s σ H _ us Q I r ⟨_, _, rfl, q _ H G S (Ext.refl H) (Ext.refl G) (.int _)⟩
theorem bi_max (hc : X.calm = true) : CallR X (.builtin "max") (rX X.K X.mg (biD .max)) := by
  intro pins s σ H xs us Q I r ⟨ds, dz, h, ⟨T, G, σ', e, S, hx, q⟩⟩
  rcases biD1 h with ⟨d, rfl⟩ | ⟨d, d', rfl⟩
  · simp [biD] at h
  · obtain ⟨x, y, rfl, hd, hy⟩ := hx.two
    cases hd <;> cases hy <;> first
      | (simp [biD] at h; done)
      | skip
    cases h
    exact call_max2 hc pins s σ H _ us Q I r ⟨_, _, rfl, q _ H G S (Ext.refl H) (Ext.refl G) (.int _)⟩
theorem bi_list : CallR X (.type "list") (rX X.K X.mg (biD .list)) := by
  intro pins s σ H xs us Q I r ⟨ds, dz, h, ⟨T, G, σ', e, S, hx, q⟩⟩
  rcases biD1 h with ⟨d, rfl⟩ | ⟨d, d', rfl⟩
  · obtain ⟨x, rfl, hd⟩ := hx.one
    cases hd with
    | lst h1 r1 =>
      cases h
      refine call_list_of pins s σ H _ us Q I r ⟨_, _, rfl, .inl (.inl (.inl (S.sub _ _ h1))), fun l hl => ?_⟩
      obtain ⟨S', x'⟩ := S.made (o := .lst _) hl
      exact q _ _ _ S' (Ext.new hl) x' (.lst upd_same (r1.mono x'))
    | tup h1 r1 =>
      cases h
      refine call_list_of pins s σ H _ us Q I r ⟨_, _, rfl, .inr (SqT.mono S.sub h1), fun l hl => ?_⟩
      obtain ⟨S', x'⟩ := S.made (o := .lst _) hl
      exact q _ _ _ S' (Ext.new hl) x' (.lst upd_same (r1.mono x'))
    | _ => simp [biD] at h
  · simp [biD] at h
theorem bi_tuple : CallR X (.type "tuple") (rX X.K X.mg (biD .tuple)) := by
  intro pins s σ H xs us Q I r ⟨ds, dz, h, ⟨T, G, σ', e, S, hx, q⟩⟩
  rcases biD1 h with ⟨d, rfl⟩ | ⟨d, d', rfl⟩
  · obtain ⟨x, rfl, hd⟩ := hx.one
    cases hd with
    | lst h1 r1 =>
      cases h
      refine call_tuple_of pins s σ H _ us Q I r ⟨_, _, rfl, .inl ⟨.inl (.inl (S.sub _ _ h1)), fun l hl => ?_⟩⟩
      obtain ⟨S', x'⟩ := S.made (o := .tup _) hl
      exact q _ _ _ S' (Ext.new hl) x' (.tup (.inl (.inl upd_same)) (r1.mono x'))
    | tup h1 r1 =>
      cases h
      exact call_tuple_of pins s σ H _ us Q I r ⟨_, _, rfl, .inr ⟨SqT.mono S.sub h1, q _ H G S (Ext.refl H) (Ext.refl G) (.tup h1 r1)⟩⟩
    | _ => simp [biD] at h
  · simp [biD] at h
theorem bi_divmod : CallR X (.builtin "divmod") (rX X.K X.mg (biD .divmod)) := by
  intro pins s σ H xs us Q I r ⟨ds, dz, h, ⟨T, G, σ', e, S, hx, q⟩⟩
  rcases biD1 h with ⟨d, rfl⟩ | ⟨d, d', rfl⟩
  · simp [biD] at h
  · obtain ⟨x, y, rfl, hd, hy⟩ := hx.two
    cases hd <;> cases hy <;> first
      | (simp [biD] at h; done)
      | skip
    simp only [biD] at h
    split at h
    · rename_i c
      simp only [Bool.and_eq_true, decide_eq_true_eq] at c
      cases h
      refine call_divmod pins s σ H _ us Q I r ⟨_, _, rfl, c, fun p hp => ?_⟩
      obtain ⟨S', x'⟩ := S.made (o := .tup _) hp
      exact q _ _ _ S' (Ext.new hp) x' (.tup (.inl (.inl upd_same)) (.cons (.int _) (.cons (.int _) .nil)))
    · cases h
theorem bi_repr (hg : X.A.guards = some []) (hu : X.A.units + 65 < cLine) : CallR X (.builtin "repr") (rX X.K X.mg (biD .repr)) := by
  intro pins s σ H xs us Q I r ⟨ds, dz, h, ⟨T, G, σ', e, S, hx, q⟩⟩
  rcases biD1 h with ⟨d, rfl⟩ | ⟨d, d', rfl⟩
  · obtain ⟨x, rfl, hd⟩ := hx.one
    have go : ∀ a, x = .ref a → (d.flat && d.py.showable && Nat.ble d.py.shown.length 1000000) = true → dz = .str d.py.shown → wpAny (model X.prog X.w) X.A (call (.builtin "repr") us) (EP X pins σ Q) X.xe s := by
      intro a ea c ez
      subst ea ez
      simp only [Bool.and_eq_true] at c
      obtain ⟨⟨c1, c2⟩, c3⟩ := c
      obtain ⟨s1, p1⟩ := flat_shaped c1
      rw [Vals.ref1 r]
      obtain ⟨as, r1⟩ := Dp.reads I _ _ _ (hd.dp S.sub d _ p1) (show RelV (.ref a) (.ref a) from rfl)
      refine PySem.repr_of_reads' r1 c2 (PyData.noDict_hsm (PyData.hasDict_of_canLay _ (py_lay d p1))) hg ?_ (fun _ _ h => h) (fun h' u tk hk => ?_) (Nat.le_trans (Nat.le_of_ble_eq_true c3) (by decide))
      · have := SeqAt.depth_of_shaped s1
        omega
      · exact ⟨.str _, H, I.kept hk, ⟨u, rfl⟩, q _ H G S (Ext.refl H) (Ext.refl G) (.str _)⟩
    cases hd with
    | int i =>
      simp only [biD] at h
      split at h
      · rename_i hz
        cases h
        exact SkE.call_repr_int pins s σ H _ us Q I r ⟨i, rfl, by have := Nat.lt_of_succ_le (Nat.le_of_ble_eq_true hz); omega, q _ H G S (Ext.refl H) (Ext.refl G) (.str _)⟩
      · cases h
    | lst h1 r1 =>
      simp only [biD] at h
      split at h
      · rename_i c
        cases h
        exact go _ rfl c rfl
      · cases h
    | tup h1 r1 =>
      simp only [biD] at h
      split at h
      · rename_i c
        cases h
        exact go _ rfl c rfl
      · cases h
    | _ => simp [biD] at h
  · simp [biD] at h
/-- the value of a built-in function -/
def biV : Bi → Option Value
  | .len => some (.builtin "len") | .abs => some (.builtin "abs") | .int => some (.type "int") | .str => some (.type "str") | .repr => some (.builtin "repr") | .sum => some (.builtin "sum")
  | .min => some (.builtin "min") | .max => some (.builtin "max") | .all => some (.builtin "all") | .any => some (.builtin "any") | .list => some (.type "list") | .tuple => some (.type "tuple")
  | .divmod => some (.builtin "divmod") | _ => none
theorem bi_ok (hc : X.calm = true) (hg : X.A.guards = some []) (hu : X.A.units + 65 < cLine) {f : Bi} {v : Value} (h : biV f = some v) : CallR X v (rX X.K X.mg (biD f)) := by
  cases f <;> first
    | (cases h; done)
    | skip
  all_goals simp only [biV, Option.some.injEq] at h
  all_goals subst h
  · exact bi_len
  · exact bi_abs
  · exact bi_int
  · exact bi_str
  · exact bi_repr hg hu
  · exact bi_sum hc
  · exact bi_min hc
  · exact bi_max hc
  · exact bi_all hc
  · exact bi_any hc
  · exact bi_list
  · exact bi_tuple
  · exact bi_divmod

theorem tyX_of {K : PySem.W.Frag} {mg : Str → Option Value} {G H : Hp} {v : V} {d : D} {n : String} (e : Ext G H) (r : Rep K mg G v d) (h : tyD d = some n) : TyX K H v (.type n) := by
  cases r <;> first
    | (simp [tyD] at h; done)
    | skip
  case non => cases h; exact .base .non
  case bl b => cases h; exact .base (.bl b)
  case int i => cases h; exact .base (.int i)
  case str z => cases h; exact .base (.str z)
  case lst h1 r1 => cases h; exact .base (.lst (e _ _ h1))
  case dic h1 k r1 => cases h; exact .base (.dK (e _ _ h1))
  case tup h1 r1 =>
    cases h
    rcases SqT.mono e h1 with q | ⟨o, its, n, q, c, _⟩
    · rcases q with q | ⟨o, q⟩
      · exact .base (.tup q)
      · exact .fTuple q
    · exact .kTuple q c
theorem isD_kit {K : PySem.W.Frag} {d : D} {t n : String} {b : Bool} (h : isD d t = some b) (hn : tyD d = some n) : PySem.W.kitOne K (.type n) (.type t) = some b := by
  unfold isD at h
  split at h
  · rename_i c
    rw [hn] at h
    cases h
    have c : t = "bool" ∨ t = "int" ∨ t = "str" ∨ t = "list" ∨ t = "tuple" ∨ t = "dict" := by
      simpa [tyNames] using c
    have n1 : n = "NoneType" ∨ n = "bool" ∨ n = "int" ∨ n = "str" ∨ n = "list" ∨ n = "tuple" ∨ n = "dict" := by
      cases d <;> simp [tyD] at hn <;> simp [← hn]
    refine kit_ty ?_
    rcases c with rfl | rfl | rfl | rfl | rfl | rfl <;> rcases n1 with rfl | rfl | rfl | rfl | rfl | rfl | rfl <;> decide +kernel
  · cases h
theorem isD_ty {d : D} {t : String} {b : Bool} (h : isD d t = some b) : ∃ n, tyD d = some n := by
  unfold isD at h
  split at h
  · obtain ⟨n, h1, _⟩ := Option.map_eq_some_iff.mp h
    exact ⟨n, h1⟩
  · cases h
theorem isDs_kit {K : PySem.W.Frag} {d : D} {n : String} (hn : tyD d = some n) : ∀ {ts : List String} {b : Bool}, isDs d ts = some b → PySem.W.kitAny K (.type n) (ts.map Value.type) = some b
  | [], b, h => h
  | t :: ts, b, h => by
    unfold isDs at h
    obtain ⟨c, h1, h2⟩ := Option.bind_eq_some_iff.mp h
    show (match PySem.W.kitOne K (.type n) (.type t) with
      | some true => some true
      | some false => PySem.W.kitAny K (.type n) (ts.map Value.type)
      | none => none) = some b
    rw [isD_kit h1 hn]
    cases c with
    | true => exact h2
    | false => exact isDs_kit hn h2
theorem cls_tys : ∀ ts : List String, Paired ClsV (ts.map V.ty) (ts.map Value.type)
  | [] => .nil
  | t :: ts => .cons (.ty t) (cls_tys ts)
def rIsD1 (K : PySem.W.Frag) (mg : Str → Option Value) (t : String) : List V → Hp → VK → Prop := fun xs H Q => ∃ x d b, xs = [x, .ty t] ∧ isD d t = some b ∧ ∃ G, Ext G H ∧ Rep K mg G x d ∧ Q (.bl b) H
def rIsDs (K : PySem.W.Frag) (mg : Str → Option Value) (ts : List String) : List V → Hp → VK → Prop := fun xs H Q => ∃ x tp d b, xs = [x, .ref tp] ∧ H tp = some (.tup (ts.map V.ty)) ∧ isDs d ts = some b ∧ (∃ n, tyD d = some n) ∧ ∃ G, Ext G H ∧ Rep K mg G x d ∧ Q (.bl b) H
theorem isD1_ok {t : String} : CallR X (.builtin "isinstance") (rIsD1 X.K X.mg t) := by
  intro pins s σ H xs us Q I r h0
  obtain ⟨x, d, b, rfl, h, G, e, rx, q⟩ := h0
  obtain ⟨n, hn⟩ := isD_ty h
  exact call_isi pins s σ H _ us Q I r ⟨x, .ty t, .type n, .type t, b, rfl, .ty t, tyX_of e rx hn, isD_kit h hn, q⟩
theorem isDs_ok {ts : List String} : CallR X (.builtin "isinstance") (rIsDs X.K X.mg ts) := by
  intro pins s σ H xs us Q I r h0
  obtain ⟨x, tp, d, b, rfl, ht, h, ⟨n, hn⟩, G, e, rx, q⟩ := h0
  exact call_isiT pins s σ H _ us Q I r ⟨x, tp, ts.map V.ty, .type n, ts.map Value.type, b, rfl, ht, cls_tys ts, tyX_of e rx hn, isDs_kit hn h, q⟩
end

section
variable {X : Cx}
def mtId : Mth → Option (Str × String)
  | .join => some ("join", "str.join") | .split => some ("split", "str.split") | .starts => some ("startswith", "str.startswith") | .upper => some ("upper", "str.upper") | _ => none
def rMt (K : PySem.W.Frag) (mg : Str → Option Value) (m : Mth) : V → List V → Hp → VK → Prop := fun x xs H Q => ∃ d ds dz, mthD m d ds = some dz ∧ One K mg H (x :: xs) (d :: ds) dz Q
theorem mt_ok {m : Mth} {nm : Str} {id : String} (h : mtId m = some (nm, id)) : MtR X id (rMt X.K X.mg m) := by
  intro pins s σ H x xs v us Q I rx rs ⟨d, ds, dz, hm, ⟨T, G, σ', e, S, hx, q⟩⟩
  cases hx with
  | cons hd ht =>
  cases m <;> first
    | (cases h; done)
    | skip
  all_goals simp only [mtId, Option.some.injEq, Prod.mk.injEq] at h
  all_goals obtain ⟨_, rfl⟩ := h
  · -- join
    unfold mthD at hm
    split at hm <;> first
      | (cases hm; done)
      | (rename_i z; cases z; done)
      | skip
    rename_i z0 z1 z2 a ys _
    cases hd
    obtain ⟨y, e1, hy⟩ := ht.one
    subst e1
    cases hy with
    | lst h1 r1 =>
    obtain ⟨l, h2, h3⟩ := Option.bind_eq_some_iff.mp hm
    split at h3
    · rename_i hz
      cases h3
      have e2 := strsD_eq h2
      subst e2
      have e3 := r1.strs
      subst e3
      exact mt_join pins s σ H _ _ v us Q I rx rs ⟨a, _, l, rfl, rfl, .inl (.inl (.inl (S.sub _ _ h1))), Nat.le_trans (Nat.le_of_ble_eq_true hz) (by decide), q _ H G S (Ext.refl H) (Ext.refl G) (.str _)⟩
    · cases h3
  · -- split
    unfold mthD at hm
    split at hm <;> first
      | (cases hm; done)
      | (rename_i z; cases z; done)
      | skip
    rename_i z0 z1 z2 a c _
    cases hd
    obtain ⟨y, e1, hy⟩ := ht.one
    subst e1
    cases hy
    split at hm
    · rename_i hz
      rw [Bool.and_eq_true] at hz
      cases hm
      have h1 : 0 < c.length := Nat.lt_of_succ_le (Nat.le_of_ble_eq_true hz.1)
      have h2 := len_le hz.2
      refine mt_split pins s σ H _ _ v us Q I rx rs ⟨a, c, rfl, rfl, by simp; omega, by rw [sizeLine_eq]; omega, fun p hp => ?_⟩
      obtain ⟨S', x'⟩ := S.made (o := .lst _) hp
      exact q _ _ _ S' (Ext.new hp) x' (.lst upd_same (reps_strs _))
    · cases hm
  · -- startswith
    unfold mthD at hm
    split at hm <;> first
      | (cases hm; done)
      | (rename_i z; cases z; done)
      | skip
    cases hd
    obtain ⟨y, e1, hy⟩ := ht.one
    subst e1
    cases hy
    cases hm
    exact mt_startswith pins s σ H _ _ v us Q I rx rs ⟨_, _, rfl, rfl, q _ H G S (Ext.refl H) (Ext.refl G) (.bl _)⟩
  · -- upper
    unfold mthD at hm
    split at hm <;> first
      | (cases hm; done)
      | (rename_i z; cases z; done)
      | skip
    cases hd
    cases ht
    split at hm
    · rename_i hz
      cases hm
      exact mt_upper pins s σ H _ _ v us Q I rx rs ⟨_, rfl, rfl, Nat.le_trans (len_le hz) (by decide), q _ H G S (Ext.refl H) (Ext.refl G) (.str _)⟩
    · cases hm
end
end Vi
end
section
set_option maxHeartbeats 2000000
namespace Vi
open PySem L2

/-- ends well as k says, or raises as WE lets -/
def RW {α : Type} (WE : Exc → Env → Prop) (m : R α) (k : α → Env → Prop) : Prop := match m with
  | .ok a e => k a e
  | .ex x e => WE x e
  | .no => False
section
variable {α β : Type} {WE : Exc → Env → Prop}
theorem RW.bind {m : R α} {f : α → Env → R β} {k : β → Env → Prop} (h : RW WE (m.bind f) k) : RW WE m fun a e => RW WE (f a e) k := by
  cases m <;> exact h
theorem RW.opt {o : Option α} {e : Env} {k : α → Env → Prop} (h : RW WE (R.opt o e) k) : ∃ a, o = some a ∧ k a e := by
  cases o with
  | none => exact h.elim
  | some a => exact ⟨a, rfl, h⟩
theorem RW.mono {m : R α} {k k' : α → Env → Prop} (h : RW WE m k) (f : ∀ a e, k a e → k' a e) : RW WE m k' := by
  cases m with
  | ok a e => exact f a e h
  | ex x e => exact h
  | no => exact h
end

section
variable (K : PySem.W.Frag) (mg : Str → Option Value) (T : Ent) (WE : Exc → Env → Prop)
/-- of a value -/
def tV (f : Env → R D) : TE := fun σ H Q => ∃ G e, Stt K mg T H G σ e ∧ RW WE (f e) fun d e' => ∀ v H' G', Stt K mg T H' G' σ e' → Ext G G' → Rep K mg G' v d → Q v H'
/-- of a bool -/
def tW (f : Env → R D) : TT := fun σ H Q => ∃ G e, Stt K mg T H G σ e ∧ RW WE (f e) fun d e' => ∃ b, d = .bl b ∧ ∀ H' G', Stt K mg T H' G' σ e' → Ext G G' → Q b H'
/-- of values in a row -/
def tL (f : Env → R (List D)) : TA := fun σ H Q => ∃ G e, Stt K mg T H G σ e ∧ RW WE (f e) fun ds e' => ∀ vs H' G', Stt K mg T H' G' σ e' → Ext G G' → Reps K mg G' vs ds → Q vs H'
end

theorem pe_imp {X : Cx} {a : Expr} {t t' : TE} (h : PE X a t) (i : ∀ σ H Q, t' σ H Q → t σ H Q) : PE X a t' := ⟨fun pins s σ H Q I q => h.run pins s σ H Q I (i σ H Q q)⟩
theorem pt_imp {X : Cx} {a : Expr} {t t' : TT} (h : PT X a t) (i : ∀ σ H Q, t' σ H Q → t σ H Q) : PT X a t' := ⟨fun pins s σ H Q I q => h.run pins s σ H Q I (i σ H Q q)⟩
theorem pw_imp {X : Cx} {a : Expr} {t t' : TT} (h : PW X a t) (i : ∀ σ H Q, t' σ H Q → t σ H Q) : PW X a t' := ⟨fun whole pins s σ H Q I q => h.run whole pins s σ H Q I (i σ H Q q)⟩
theorem pa_imp {X : Cx} {a : List Expr} {t t' : TA} (h : PA X a t) (i : ∀ σ H Q, t' σ H Q → t σ H Q) : PA X a t' := ⟨fun pos pins s σ H Q I q => h.run pos pins s σ H Q I (i σ H Q q)⟩
theorem ps_imp {X : Cx} {a : Stmt} {t t' : TS} (h : PS X a t) (i : ∀ D σ H, t' D σ H → t D σ H) : PS X a t' := ⟨fun pins s σ H D I q => h.run pins s σ H D I (i D σ H q)⟩
theorem pss_imp {X : Cx} {a : List Stmt} {t t' : TS} (h : PSs X a t) (i : ∀ D σ H, t' D σ H → t D σ H) : PSs X a t' := ⟨fun pins s σ H D I q => h.run pins s σ H D I (i D σ H q)⟩

section
variable {K : PySem.W.Frag} {mg : Str → Option Value} {T : Ent} {WE : Exc → Env → Prop} {σ : St} {H : Hp}
/-- a value is computed, then more -/
theorem tV_then {f : Env → R D} {G : Hp} {e : Env} {k : D → Env → Prop} {Q : VK} (S : Stt K mg T H G σ e) (h : RW WE (f e) k) (q : ∀ d e' v H' G', k d e' → Stt K mg T H' G' σ e' → Ext G G' → Rep K mg G' v d → Q v H') : tV K mg T WE f σ H Q :=
  ⟨G, e, S, h.mono fun d e' hk v H' G' S' x r => q d e' v H' G' hk S' x r⟩
theorem tL_then {f : Env → R (List D)} {G : Hp} {e : Env} {k : List D → Env → Prop} {Q : List V → Hp → Prop} (S : Stt K mg T H G σ e) (h : RW WE (f e) k) (q : ∀ d e' v H' G', k d e' → Stt K mg T H' G' σ e' → Ext G G' → Reps K mg G' v d → Q v H') : tL K mg T WE f σ H Q :=
  ⟨G, e, S, h.mono fun d e' hk v H' G' S' x r => q d e' v H' G' hk S' x r⟩
theorem tW_then {f : Env → R D} {G : Hp} {e : Env} {k : D → Env → Prop} {Q : Bool → Hp → Prop} (S : Stt K mg T H G σ e) (h : RW WE (f e) k) (b : ∀ d e', k d e' → ∃ b, d = .bl b) (q : ∀ b e' H' G', k (.bl b) e' → Stt K mg T H' G' σ e' → Ext G G' → Q b H') : tW K mg T WE f σ H Q :=
  ⟨G, e, S, h.mono fun d e' hk => by
    obtain ⟨c, rfl⟩ := b d e' hk
    exact ⟨c, rfl, fun H' G' S' x => q c e' H' G' hk S' x⟩⟩

theorem slot_var {G : Hp} {e : Env} {i : Nat} {Q : VK} (S : Stt K mg T H G σ e) (hi : ∀ b, (i, b) ∉ T.io) (h : RW WE (rdS i e) fun d e' => ∀ v H' G', Stt K mg T H' G' σ e' → Ext G G' → Rep K mg G' v d → Q v H') : tVar i σ H Q := by
  unfold rdS at h
  have s := S.slot i
  cases q : getS e i with
  | un => rw [q] at h; exact h.elim
  | fr d =>
    rw [q] at h s
    obtain ⟨v, e1, r⟩ := s
    exact ⟨v, e1, h v H G S (Ext.refl G) r⟩
  | ow d =>
    rw [q] at h
    obtain ⟨a, G', e1, x, r, S'⟩ := S.freeze hi q
    exact ⟨_, e1, h _ H G' S' x r⟩
end
end Vi
end
section
set_option maxHeartbeats 2000000
namespace Vi
open PySem L2

section
variable (K : PySem.W.Frag) (mg : Str → Option Value)
/-- the places of the changed arguments -/
def ioOf : Nat → List Bool → List V → List (Nat × Addr)
  | k, b :: io, v :: vs => (match b, v with
    | true, .ref a => (k, a) :: ioOf (k + 1) io vs
    | _, _ => ioOf (k + 1) io vs)
  | _, _, _ => []
def ArgsR (H G : Hp) : List Bool → List V → List D → Prop
  | [], [], [] => True
  | true :: io, v :: vs, d :: ds => (∃ a, v = .ref a ∧ G a = none ∧ OwnR K mg H G a d) ∧ ArgsR H G io vs ds
  | false :: io, v :: vs, d :: ds => Rep K mg G v d ∧ ArgsR H G io vs ds
  | _, _, _ => False
def OutsR (H G : Hp) : List Bool → List V → List D → Prop
  | [], [], [] => True
  | true :: io, v :: vs, o :: os => (∃ a, v = .ref a ∧ OwnR K mg H G a o) ∧ OutsR H G io vs os
  | false :: io, _ :: vs, os => OutsR H G io vs os
  | _, _, _ => False
/-- the promise of a def that computes F -/
def spD (F : Fn) (io : List Bool) (vs : List V) (H : Hp) (Q : VK) : Prop := ∃ (G : Hp) (ds : List D), Ext G H ∧ ArgsR K mg H G io vs ds ∧ ((ioOf 0 io vs).map (·.2)).Nodup ∧
  match F ds with
  | .ok d os => ∀ (v : V) (H' G' : Hp), Ext G G' → Ext G' H' → (∀ a o, G' a = some o → G a = some o ∨ H a = none) → (∀ a o, H a = some o → (∀ i, (i, a) ∉ ioOf 0 io vs) → H' a = some o) → Rep K mg G' v d → OutsR K mg H' G' io vs os → Q v H'
  | _ => False
end

structure FnG (P : Program) (w : World) (K : PySem.W.Frag) (mg : Str → Option Value) (base : Heap) (k : Nat) (f : Addr) (fd : FuncData) (ps : List Str) (F : Fn) (io : List Bool) : Prop where
  run : ∀ (A : Around) (outer : List PySem.Env) (s : Shared) (H : Hp) (args : Args) (us : List Value) (vs : List V) (Q : VK), Room k A → A.guards = some [] → Env0 P w K mg base A outer s H → BindsTo s fd args (ps.zip us) → Vals vs us → spD K mg F io vs H Q →
    codeAny (model P w) A (.call (.ref f) args) (CR (L2.CX P w) outer P w H s Q fun _ _ _ => False) s

/-- what a text needs beyond itself -/
inductive Need where
  | fn (x : Str) (F : Fn) (io : List Bool)
  | fnk (x : Str) (F : Fn) (n : Nat) (ks : List Str) (perm : List Nat)
  | gl (x : Str) (d : D)
  | fv (x : Str)
/-- the values of a keyword call, in the sequence of the parameters -/
def KwTo (fd : FuncData) (ps : List Str) (n : Nat) (ks : List Str) (perm : List Nat) : Prop :=
  ∀ us ws : List Value, us.length = n → ws.length = ks.length → ∀ l, permL perm (us ++ ws) = some l → bindArgs fd ⟨us, ks.zip ws⟩ = pure (ps.zip l)
def NeedOk (P : Program) (w : World) (K : PySem.W.Frag) (mg : Str → Option Value) (base : Heap) (k : Nat) : Need → Prop
  | .fn x F io => (∀ ds, F ds = .no) ∨ ∃ f fd ps, mg x = some (.ref f) ∧ PySem.W.keepIn K (.ref f) = true ∧ ps.length = io.length ∧ Binds K fd ps [] ∧ FnG P w K mg base k f fd ps F io
  | .fnk x F n ks perm => ∃ f fd ps, mg x = some (.ref f) ∧ PySem.W.keepIn K (.ref f) = true ∧ ps.length = perm.length ∧ KwTo fd ps n ks perm ∧ FnG P w K mg base k f fd ps F (List.replicate perm.length false)
  | .gl x d => ∃ u v, mg x = some u ∧ RelV v u ∧ ∀ G, Rep K mg G v d
  | .fv x => ∃ a, mg x = some (.ref a)

section
variable {K : PySem.W.Frag} {mg : Str → Option Value} {T : Ent} {H H' G G' : Hp} {σ : St} {e e' : Env}
theorem Stt.call {A : Addr → Prop} (S : Stt K mg T H G σ e) (xG : Ext G G') (sub : Ext G' H') (new : ∀ a o, G' a = some o → G a = some o ∨ H a = none) (keep : ∀ a o, H a = some o → ¬ A a → H' a = some o) (len : e'.length = e.length)
    (hA : ∀ a, A a → ∃ i d, getS e i = .ow d ∧ σ[i]? = some (some (.ref a)))
    (hs : ∀ j, (getS e' j = getS e j ∧ ∀ a d, getS e j = .ow d → σ[j]? = some (some (.ref a)) → ¬ A a) ∨ ∃ d d' a, getS e j = .ow d ∧ getS e' j = .ow d' ∧ σ[j]? = some (some (.ref a)) ∧ OwnR K mg H' G' a d') : Stt K mg T H' G' σ e' := by
  have there : ∀ {i : Nat} {d : D} {a : Addr}, getS e i = .ow d → σ[i]? = some (some (.ref a)) → G a = none ∧ (T.He a = none ∨ (i, a) ∈ T.io) ∧ ∃ o, H a = some o := fun {i d a} h1 h2 => by
    have s := S.slot i
    rw [h1] at s
    obtain ⟨b, e1, g, q, o⟩ := s
    rw [h2] at e1; cases e1
    exact ⟨g, q, o.there⟩
  have noG : ∀ {i : Nat} {d : D} {a : Addr}, getS e i = .ow d → σ[i]? = some (some (.ref a)) → G' a = none := fun {i d a} h1 h2 => by
    obtain ⟨g, _, o, ho⟩ := there h1 h2
    cases q : G' a with
    | none => rfl
    | some u =>
      rcases new a u q with z | z
      · rw [g] at z; cases z
      · rw [ho] at z; cases z
  have back : ∀ {j : Nat} {d : D}, getS e' j = .ow d → ∃ d0, getS e j = .ow d0 := fun {j d} h => by
    rcases hs j with ⟨h1, _⟩ | ⟨d0, _, _, h1, _⟩
    · exact ⟨d, h1 ▸ h⟩
    · exact ⟨d0, h1⟩
  refine ⟨len.trans S.len, sub, S.ext.trans xG, fun a o h => ?_, fun a o h n => ?_, fun j => ?_, fun i j a d d' hij hi hj => ?_, fun p hp => ?_⟩
  · rcases new a o h with z | z
    · exact S.new a o z
    · refine .inr ?_
      cases q : T.He a with
      | none => rfl
      | some u =>
        by_cases hi : ∃ i, (i, a) ∈ T.io
        · obtain ⟨i, hi⟩ := hi
          obtain ⟨h1, d, h2⟩ := S.ios _ hi
          obtain ⟨_, _, o, ho⟩ := there h2 h1
          have ho : H a = some o := ho
          rw [z] at ho; cases ho
        · rw [S.keep a u q fun i hm => hi ⟨i, hm⟩] at z; cases z
  · refine keep a o (S.keep a o h n) fun ha => ?_
    obtain ⟨i, d, h1, h2⟩ := hA a ha
    obtain ⟨_, q, _⟩ := there h1 h2
    rcases q with q | q
    · rw [q] at h; cases h
    · exact n i q
  · rcases hs j with ⟨h1, h2⟩ | ⟨d, d', a, h1, h2, h3, h4⟩
    · rw [h1]
      have s := S.slot j
      cases q : getS e j with
      | un => trivial
      | fr d => rw [q] at s; obtain ⟨v, e1, r⟩ := s; exact ⟨v, e1, r.mono xG⟩
      | ow d =>
        rw [q] at s
        obtain ⟨a, e1, g, z, o⟩ := s
        exact ⟨a, e1, noG q e1, z, o.mono xG fun u hu => keep a u hu (h2 a d q e1)⟩
    · rw [h2]
      obtain ⟨_, z, _⟩ := there h1 h3
      exact ⟨a, h3, noG h1 h3, z, h4⟩
  · obtain ⟨d1, q1⟩ := back hi
    obtain ⟨d2, q2⟩ := back hj
    exact S.apart i j a d1 d2 hij q1 q2
  · obtain ⟨h1, d, h2⟩ := S.ios p hp
    refine ⟨h1, ?_⟩
    rcases hs p.1 with ⟨z, _⟩ | ⟨_, d', _, _, z, _⟩
    · exact ⟨d, z ▸ h2⟩
    · exact ⟨d', z⟩
theorem ArgsR.mono (x : Ext G G') (n : ∀ a o, H a = some o → G a = none → G' a = none) : ∀ {io : List Bool} {vs : List V} {ds : List D}, ArgsR K mg H G io vs ds → ArgsR K mg H G' io vs ds
  | [], [], [], h => h
  | true :: io, v :: vs, d :: ds, ⟨⟨a, e, g, o⟩, t⟩ => by
    obtain ⟨u, hu⟩ := o.there
    exact ⟨⟨a, e, n a u hu g, o.mono x fun _ q => q⟩, ArgsR.mono x n t⟩
  | false :: io, v :: vs, d :: ds, ⟨r, t⟩ => ⟨r.mono x, ArgsR.mono x n t⟩

/-- what a row of arguments stands for; an own one by its slot -/
def RepAs (K : PySem.W.Frag) (mg : Str → Option Value) (σ : St) (G : Hp) : List E → List V → List D → Prop
  | [], [], [] => True
  | a :: es, v :: vs, d :: ds => (match iovOf a with | some i => σ[i]? = some (some v) | none => Rep K mg G v d) ∧ RepAs K mg σ G es vs ds
  | _, _, _ => False
theorem RepAs.mono (x : Ext G G') : ∀ {es : List E} {vs : List V} {ds : List D}, RepAs K mg σ G es vs ds → RepAs K mg σ G' es vs ds
  | [], [], [], h => h
  | a :: es, v :: vs, d :: ds, ⟨r, t⟩ => by
    refine ⟨?_, RepAs.mono x t⟩
    cases q : iovOf a with
    | some i => rw [q] at r; exact r
    | none => rw [q] at r; exact r.mono x
def plainEs (es : List E) : Bool := es.all fun a => (iovOf a).isNone
theorem RepAs.reps : ∀ {es : List E} {vs : List V} {ds : List D}, plainEs es = true → RepAs K mg σ G es vs ds → Reps K mg G vs ds
  | [], [], [], _, _ => .nil
  | a :: es, v :: vs, d :: ds, p, ⟨r, t⟩ => by
    simp only [plainEs, List.all_cons, Bool.and_eq_true] at p
    cases q : iovOf a with
    | some i => rw [q] at p; cases p.1
    | none => rw [q] at r; exact .cons r (RepAs.reps p.2 t)
def isIov (a : E) : Bool := (iovOf a).isSome
def iovIx (es : List E) : List Nat := es.filterMap iovOf
theorem fill_args (S : Stt K mg T H G σ e) : ∀ {es : List E} {vs : List V} {ds ds' : List D}, RepAs K mg σ G es vs ds → fillIo es ds e = some ds' → ArgsR K mg H G (es.map isIov) vs ds'
  | [], [], [], _, _, h => by cases h; trivial
  | a :: es, v :: vs, d :: ds, ds', ⟨r, t⟩, h => by
    unfold fillIo at h
    cases q : iovOf a with
    | some i =>
      rw [q] at h r
      have ei : isIov a = true := by unfold isIov; rw [q]; rfl
      simp only at h r
      cases z : getS e i with
      | un => rw [z] at h; cases h
      | fr d => rw [z] at h; cases h
      | ow d0 =>
        rw [z] at h
        obtain ⟨l, h1, rfl⟩ := Option.map_eq_some_iff.mp h
        have s := S.slot i
        rw [z] at s
        obtain ⟨b, e1, g, _, o⟩ := s
        rw [r] at e1; cases e1
        rw [List.map_cons, ei]
        exact ⟨⟨b, rfl, g, o⟩, fill_args S t h1⟩
    | none =>
      rw [q] at h r
      have ei : isIov a = false := by unfold isIov; rw [q]; rfl
      obtain ⟨l, h1, rfl⟩ := Option.map_eq_some_iff.mp h
      rw [List.map_cons, ei]
      exact ⟨r, fill_args S t h1⟩
/-- the changed arguments' addresses are the slots' -/
theorem io_slot : ∀ {es : List E} {vs : List V} {ds : List D} {k : Nat} {i : Nat} {a : Addr}, RepAs K mg σ G es vs ds → (i, a) ∈ ioOf k (es.map isIov) vs → ∃ j, j ∈ iovIx es ∧ σ[j]? = some (some (.ref a))
  | [], [], [], _, _, _, _, h => by cases h
  | b :: es, v :: vs, d :: ds, k, i, a, ⟨r, t⟩, h => by
    rw [List.map_cons] at h
    cases q : iovOf b with
    | some j =>
      rw [q] at r
      have ei : isIov b = true := by unfold isIov; rw [q]; rfl
      rw [ei] at h
      unfold ioOf at h
      have hix : iovIx (b :: es) = j :: iovIx es := by unfold iovIx; rw [List.filterMap_cons, q]
      rw [hix]
      cases v with
      | ref c =>
        simp only at h
        rcases List.mem_cons.mp h with z | z
        · cases z; exact ⟨j, List.mem_cons_self, r⟩
        · obtain ⟨m, h1, h2⟩ := io_slot t z
          exact ⟨m, List.mem_cons_of_mem _ h1, h2⟩
      | _ =>
        obtain ⟨m, h1, h2⟩ := io_slot t h
        exact ⟨m, List.mem_cons_of_mem _ h1, h2⟩
    | none =>
      have ei : isIov b = false := by unfold isIov; rw [q]; rfl
      rw [ei] at h
      unfold ioOf at h
      have hix : iovIx (b :: es) = iovIx es := by unfold iovIx; rw [List.filterMap_cons, q]
      rw [hix]
      exact io_slot t h
theorem slot_io : ∀ {es : List E} {vs : List V} {ds : List D} {k j : Nat} {a : Addr}, RepAs K mg σ G es vs ds → j ∈ iovIx es → σ[j]? = some (some (.ref a)) → ∃ i, (i, a) ∈ ioOf k (es.map isIov) vs
  | [], [], [], _, _, _, _, h, _ => by cases h
  | b :: es, v :: vs, d :: ds, k, j, a, ⟨r, t⟩, h, hs => by
    rw [List.map_cons]
    cases q : iovOf b with
    | some m =>
      rw [q] at r
      have ei : isIov b = true := by unfold isIov; rw [q]; rfl
      rw [ei]
      unfold ioOf
      have hix : iovIx (b :: es) = m :: iovIx es := by unfold iovIx; rw [List.filterMap_cons, q]
      rw [hix] at h
      rcases List.mem_cons.mp h with z | z
      · subst z
        simp only at r
        rw [r] at hs
        cases hs
        exact ⟨k, List.mem_cons_self⟩
      · obtain ⟨i, hi⟩ := slot_io (k := k + 1) t z hs
        cases v <;> first
          | exact ⟨i, List.mem_cons_of_mem _ hi⟩
          | exact ⟨i, hi⟩
    | none =>
      have ei : isIov b = false := by unfold isIov; rw [q]; rfl
      rw [ei]
      unfold ioOf
      have hix : iovIx (b :: es) = iovIx es := by unfold iovIx; rw [List.filterMap_cons, q]
      rw [hix] at h
      exact slot_io t h hs
theorem io_nodup (S : Stt K mg T H G σ e) : ∀ {es : List E} {vs : List V} {ds : List D} {k : Nat}, RepAs K mg σ G es vs ds → (iovIx es).Nodup → (∀ j ∈ iovIx es, ∃ d, getS e j = .ow d) → ((ioOf k (es.map isIov) vs).map (·.2)).Nodup
  | [], [], [], _, _, _, _ => List.nodup_nil
  | b :: es, v :: vs, d :: ds, k, ⟨r, t⟩, n, o => by
    rw [List.map_cons]
    cases q : iovOf b with
    | some m =>
      rw [q] at r
      have ei : isIov b = true := by unfold isIov; rw [q]; rfl
      rw [ei]
      unfold ioOf
      have hix : iovIx (b :: es) = m :: iovIx es := by unfold iovIx; rw [List.filterMap_cons, q]
      rw [hix] at n o
      have n := List.nodup_cons.mp n
      have ih := io_nodup (k := k + 1) S t n.2 fun j hj => o j (List.mem_cons_of_mem _ hj)
      cases v <;> first
        | exact ih
        | skip
      rename_i a
      simp only [List.map_cons]
      refine List.nodup_cons.mpr ⟨fun hm => ?_, ih⟩
      obtain ⟨⟨i, a'⟩, h1, h2⟩ := List.mem_map.mp hm
      simp only at h2
      subst h2
      obtain ⟨j, hj, hs⟩ := io_slot t h1
      obtain ⟨d1, o1⟩ := o m List.mem_cons_self
      obtain ⟨d2, o2⟩ := o j (List.mem_cons_of_mem _ hj)
      have hne : m ≠ j := fun z => n.1 (z ▸ hj)
      exact S.apart m j _ d1 d2 hne o1 o2 r hs
    | none =>
      have ei : isIov b = false := by unfold isIov; rw [q]; rfl
      rw [ei]
      unfold ioOf
      have hix : iovIx (b :: es) = iovIx es := by unfold iovIx; rw [List.filterMap_cons, q]
      rw [hix] at n o
      exact io_nodup S t n o
theorem fill_own : ∀ {es : List E} {ds ds' : List D}, fillIo es ds e = some ds' → ∀ j ∈ iovIx es, ∃ d, getS e j = .ow d
  | [], _, _, _, j, hj => by cases hj
  | b :: es, [], _, h, j, hj => by unfold fillIo at h; cases h
  | b :: es, d :: ds, ds', h, j, hj => by
    unfold fillIo at h
    cases q : iovOf b with
    | some m =>
      rw [q] at h
      have hix : iovIx (b :: es) = m :: iovIx es := by unfold iovIx; rw [List.filterMap_cons, q]
      rw [hix] at hj
      simp only at h
      cases z : getS e m with
      | un => rw [z] at h; cases h
      | fr d => rw [z] at h; cases h
      | ow d0 =>
        rw [z] at h
        obtain ⟨l, h1, rfl⟩ := Option.map_eq_some_iff.mp h
        rcases List.mem_cons.mp hj with y | y
        · subst y; exact ⟨d0, z⟩
        · exact fill_own h1 j y
    | none =>
      rw [q] at h
      have hix : iovIx (b :: es) = iovIx es := by unfold iovIx; rw [List.filterMap_cons, q]
      rw [hix] at hj
      obtain ⟨l, h1, rfl⟩ := Option.map_eq_some_iff.mp h
      exact fill_own h1 j hj
theorem put_out : ∀ {es : List E} {vs : List V} {ds os : List D} {e e' : Env}, RepAs K mg σ G es vs ds → OutsR K mg H' G' (es.map isIov) vs os → putIo es os e = some e' → (iovIx es).Nodup → (∀ j ∈ iovIx es, j < e.length) →
    e'.length = e.length ∧ (∀ j, j ∉ iovIx es → getS e' j = getS e j) ∧ ∀ j, j ∈ iovIx es → ∃ o a, getS e' j = .ow o ∧ σ[j]? = some (some (.ref a)) ∧ OwnR K mg H' G' a o
  | [], [], [], os, e, e', _, h, p, _, _ => by
    cases os with
    | nil => cases p; exact ⟨rfl, fun _ _ => rfl, fun j hj => by cases hj⟩
    | cons _ _ => exact h.elim
  | b :: es, v :: vs, d :: ds, os, e, e', ⟨r, t⟩, h, p, n, l => by
    rw [List.map_cons] at h
    cases q : iovOf b with
    | some m =>
      rw [q] at r
      have ei : isIov b = true := by unfold isIov; rw [q]; rfl
      rw [ei] at h
      have hix : iovIx (b :: es) = m :: iovIx es := by unfold iovIx; rw [List.filterMap_cons, q]
      rw [hix] at n l ⊢
      have n := List.nodup_cons.mp n
      unfold putIo at p
      rw [q] at p
      cases os with
      | nil => cases p
      | cons o os =>
        simp only at p
        obtain ⟨⟨a, ea, ho⟩, ht⟩ := h
        subst ea
        obtain ⟨h1, h2, h3⟩ := put_out t ht p n.2 fun j hj => by rw [setS_length]; exact l j (List.mem_cons_of_mem _ hj)
        refine ⟨by rw [h1, setS_length], fun j hj => ?_, fun j hj => ?_⟩
        · rw [h2 j fun z => hj (List.mem_cons_of_mem _ z)]
          exact getS_set_ne _ (fun z => hj (by rw [← z]; exact List.mem_cons_self)) e
        · rcases List.mem_cons.mp hj with z | z
          · subst z
            exact ⟨o, a, by rw [h2 j n.1]; exact getS_set _ e (l j List.mem_cons_self), r, ho⟩
          · exact h3 j z
    | none =>
      have ei : isIov b = false := by unfold isIov; rw [q]; rfl
      rw [ei] at h
      have hix : iovIx (b :: es) = iovIx es := by unfold iovIx; rw [List.filterMap_cons, q]
      rw [hix] at n l ⊢
      unfold putIo at p
      rw [q] at p
      exact put_out t h p n l
theorem plain_ix : ∀ {es : List E}, plainEs es = true → iovIx es = [] ∧ es.map isIov = List.replicate es.length false
  | [], _ => ⟨rfl, rfl⟩
  | a :: es, h => by
    simp only [plainEs, List.all_cons, Bool.and_eq_true] at h
    obtain ⟨h1, h2⟩ := plain_ix (es := es) h.2
    have q : iovOf a = none := by simpa using h.1
    refine ⟨by unfold iovIx at h1 ⊢; rw [List.filterMap_cons, q]; exact h1, ?_⟩
    rw [List.map_cons, h2, List.length_cons, List.replicate_succ]
    unfold isIov
    rw [q]; rfl
/-- a call as the caller sees it -/
theorem call_sp {es : List E} {vs : List V} {ds : List D} {F : Fn} {WE : Exc → Env → Prop} {Q : VK} (hW : ∀ x e, ¬ WE x e) (S : Stt K mg T H G σ e) (r : RepAs K mg σ G es vs ds) (n : (iovIx es).Nodup)
    (h : RW WE (callF F es ds e) fun d e' => ∀ v H' G', Stt K mg T H' G' σ e' → Ext G G' → Rep K mg G' v d → Q v H') : spD K mg F (es.map isIov) vs H Q := by
  unfold callF at h
  cases hf : fillIo es ds e with
  | none => rw [hf] at h; exact h.elim
  | some ds' =>
    rw [hf] at h
    simp only at h
    refine ⟨G, ds', S.sub, fill_args S r hf, io_nodup S r n (fill_own hf), ?_⟩
    cases hF : F ds' with
    | no => rw [hF] at h; exact h.elim
    | ex x os =>
      rw [hF] at h
      simp only at h
      cases hp : putIo es os e with
      | none => rw [hp] at h; exact h.elim
      | some e' => rw [hp] at h; exact (hW _ _ h).elim
    | ok d os =>
      rw [hF] at h
      simp only at h ⊢
      intro v H' G' xG sub new keep rv ro
      cases hp : putIo es os e with
      | none => rw [hp] at h; exact h.elim
      | some e' =>
        rw [hp] at h
        have own := fill_own hf
        have lt : ∀ j ∈ iovIx es, j < e.length := fun j hj => by
          obtain ⟨d, hd⟩ := own j hj
          exact getS_lt (by rw [hd]; exact fun z => by cases z)
        obtain ⟨h1, h2, h3⟩ := put_out r ro hp n lt
        refine h v H' G' (S.call (A := fun a => ∃ i, (i, a) ∈ ioOf 0 (es.map isIov) vs) xG sub new (fun a o ha hn => keep a o ha fun i hi => hn ⟨i, hi⟩) h1 (fun a ⟨i, hi⟩ => ?_) fun j => ?_) xG rv
        · obtain ⟨j, hj, hs⟩ := io_slot r hi
          obtain ⟨d, hd⟩ := own j hj
          exact ⟨j, d, hd, hs⟩
        · by_cases hj : j ∈ iovIx es
          · obtain ⟨o, a, q1, q2, q3⟩ := h3 j hj
            obtain ⟨d, hd⟩ := own j hj
            exact .inr ⟨d, o, a, hd, q1, q2, q3⟩
          · refine .inl ⟨h2 j hj, fun a d hd hs ⟨i, hi⟩ => ?_⟩
            obtain ⟨m, hm, hms⟩ := io_slot r hi
            obtain ⟨dm, hdm⟩ := own m hm
            exact S.apart j m a d dm (fun z => hj (z ▸ hm)) hd hdm hs hms
theorem args_of_reps : ∀ {vs : List V} {ds : List D}, Reps K mg G vs ds → ArgsR K mg H G (List.replicate vs.length false) vs ds
  | _, _, .nil => trivial
  | _, _, .cons h t => ⟨h, args_of_reps t⟩
theorem io_plain : ∀ {vs : List V} {k n : Nat}, ioOf k (List.replicate n false) vs = []
  | [], k, n => by cases n <;> rfl
  | v :: vs, k, 0 => rfl
  | v :: vs, k, n + 1 => by
    rw [List.replicate_succ]
    unfold ioOf
    exact io_plain
theorem Reps.perm : ∀ {perm : List Nat} {vs : List V} {ds dl : List D}, Reps K mg G vs ds → permL perm ds = some dl → ∃ vl, permL perm vs = some vl ∧ Reps K mg G vl dl
  | [], vs, ds, dl, _, h => by cases h; exact ⟨[], rfl, .nil⟩
  | i :: r, vs, ds, dl, hr, h => by
    unfold permL at h
    split at h
    · rename_i d l h1 h2
      cases h
      obtain ⟨v, hv, rv⟩ := hr.get h1
      obtain ⟨vl, q1, q2⟩ := Reps.perm hr h2
      refine ⟨v :: vl, ?_, .cons rv q2⟩
      unfold permL
      rw [hv, q1]
    · cases h
theorem permL_length {α : Type} : ∀ {perm : List Nat} {l m : List α}, permL perm l = some m → m.length = perm.length
  | [], _, _, h => by cases h; rfl
  | i :: r, l, m, h => by
    unfold permL at h
    split at h
    · rename_i d k h1 h2
      cases h
      simp [permL_length h2]
    · cases h
theorem callk_sp {vs : List V} {ds : List D} {F : Fn} {perm : List Nat} {WE : Exc → Env → Prop} {Q : VK} (hW : ∀ x e, ¬ WE x e) (S : Stt K mg T H G σ e) (r : Reps K mg G vs ds)
    (h : RW WE (callK F perm ds e) fun d e' => ∀ v H' G', Stt K mg T H' G' σ e' → Ext G G' → Rep K mg G' v d → Q v H') : ∃ vl, permL perm vs = some vl ∧ spD K mg F (List.replicate perm.length false) vl H Q := by
  unfold callK at h
  cases hp : permL perm ds with
  | none => rw [hp] at h; exact h.elim
  | some dl =>
    rw [hp] at h
    simp only at h
    obtain ⟨vl, hv, rl⟩ := r.perm hp
    have hl := permL_length hv
    refine ⟨vl, hv, G, dl, S.sub, hl ▸ args_of_reps rl, by rw [io_plain]; exact List.nodup_nil, ?_⟩
    cases hF : F dl with
    | no => rw [hF] at h; exact h.elim
    | ex x os => rw [hF] at h; exact (hW _ _ h).elim
    | ok d os =>
      rw [hF] at h
      simp only at h ⊢
      intro v H' G' xG sub new keep rv ro
      rw [io_plain] at keep
      exact h v H' G' (S.grow (fun a o ha => keep a o ha fun i hi => by cases hi) xG sub new) xG rv
end
end Vi
end
section
set_option maxHeartbeats 2000000
namespace Vi
open PySem L2

def WE0 : Exc → Env → Prop := fun _ _ => False
theorem we0 : ∀ x e, ¬ WE0 x e := fun _ _ h => h

def visB (sc : Scope) (x : Str) : Bool := match sc.names.lookup x with
  | some .local => true
  | some .cell => true
  | some .free => true
  | _ => false
def glB (sc : Scope) (x : Str) : Bool := match sc.names.lookup x with
  | some .globalImplicit => true
  | _ => false
def cfB (sc : Scope) (x : Str) : Bool := match sc.names.lookup x with
  | some .cell => true
  | some .free => true
  | _ => false
def locB (sc : Scope) (x : Str) : Bool := match sc.names.lookup x with
  | some .local => true
  | some .cell => true
  | _ => false
def okName (x : Str) : Bool := !(x == ("__debug__" : Str)) && !(x == ("__classdict__" : Str)) && !(x == ("__name__" : Str))
def bnames : List Str := ["len", "abs", "int", "str", "repr", "sum", "min", "max", "all", "any", "list", "tuple", "divmod", "isinstance", "range", "zip", "enumerate", "bool", "dict"]

structure Vx (X : Cx) (k : Nat) (N : List Str) (ro : List Nat) (sc : Scope) (T : Ent) : Prop where
  hN : X.N = N
  nd : N.Nodup
  calm : X.calm = true
  guards : X.A.guards = some []
  room : Room k X.A
  xe : X.xe = fun _ _ => False
  vis : ∀ x, visB sc x = true → Vis X.env.scope x
  gl : ∀ x, glB sc x = true → Gl X x
  cf : ∀ x, cfB sc x = true → X.env.scope.names.lookup x = some .cell ∨ X.env.scope.names.lookup x = some .free
  loc : ∀ x, locB sc x = true → Loc X.env.scope x ∧ (X.fn x = true ∨ X.env.scope.names.lookup x = some .local)
  ro : ∀ p ∈ T.io, p.1 ∈ ro
  bn : ∀ x ∈ bnames, X.mg x = none
theorem Vx.units {X : Cx} {k : Nat} {N : List Str} {ro : List Nat} {sc : Scope} {T : Ent} (V : Vx X k N ro sc T) : X.A.units + 65 < cLine := by
  have := V.room.un
  omega
theorem Vx.noio {X : Cx} {k : Nat} {N : List Str} {ro : List Nat} {sc : Scope} {T : Ent} (V : Vx X k N ro sc T) {i : Nat} (h : i ∉ ro) : ∀ b, (i, b) ∉ T.io := fun b hb => h (V.ro _ hb)

abbrev TV (X : Cx) (T : Ent) (WE : Exc → Env → Prop) := tV X.K X.mg T WE
abbrev TW (X : Cx) (T : Ent) (WE : Exc → Env → Prop) := tW X.K X.mg T WE
abbrev TL (X : Cx) (T : Ent) (WE : Exc → Env → Prop) := tL X.K X.mg T WE
section
variable {X : Cx} {T : Ent} {WE : Exc → Env → Prop} {a b c : E} {x y z : Expr} {pos : Pos}

theorem n_no : PE X x (TV X T WE fun _ => .no) := ⟨fun pins s σ H Q I ⟨G, e, S, h⟩ => h.elim⟩
theorem n_const {d : D} {v : V} (h : PE X x (tC v)) (r : ∀ G, Rep X.K X.mg G v d) : PE X x (TV X T WE fun e => .ok d e) :=
  pe_imp h fun σ H Q ⟨G, e, S, q⟩ => q v H G S (Ext.refl G) (r G)
theorem n_bin (op : Op) (ha : PE X x (TV X T WE (ev a))) (hb : PE X y (TV X T WE (ev b))) : PE X (.BinOp x (opOf op) y pos) (TV X T WE (ev (.bin op a b))) := by
  refine pe_imp (pe_op (opB op) ha hb) fun σ H Q ⟨G, e, S, h⟩ => ?_
  simp only [ev] at h
  refine tV_then S h.bind fun dx e1 v H1 G1 h1 S1 x1 r1 => tV_then S1 h1.bind fun dy e2 w H2 G2 h2 S2 x2 r2 => ?_
  obtain ⟨dz, hz, q⟩ := h2.opt
  exact ⟨dx, dy, dz, hz, ⟨T, G2, σ, e2, S2, r1.mono x2, r2, fun u H' G' S' _ x' r' => q u H' G' S' ((x1.trans x2).trans x') r'⟩⟩
theorem n_neg (ha : PE X x (TV X T WE (ev a))) : PE X (.UnaryOp .USub x pos) (TV X T WE (ev (.neg a))) := by
  refine pe_imp (pe_un un_neg ha) fun σ H Q ⟨G, e, S, h⟩ => ?_
  simp only [ev] at h
  refine tV_then S h.bind fun dx e1 v H1 G1 h1 S1 x1 r1 => ?_
  cases r1 <;> first
    | exact h1.elim
    | exact ⟨_, rfl, h1 _ H1 G1 S1 x1 (.int _)⟩
theorem n_cmp (hu : X.A.units + 65 < cLine) (o : Cop) (ha : PE X x (TV X T WE (ev a))) (hb : PE X y (TV X T WE (ev b))) (hm : behindInMarks (copOf o) y = false) :
    PE X (.Compare x [copOf o] [y] pos) (TV X T WE (ev (.cmp o a b))) ∧ PT X (.Compare x [copOf o] [y] pos) (TW X T WE (ev (.cmp o a b))) := by
  constructor
  · refine pe_imp (pe_cmpR (opC hu o) ha hb hm) fun σ H Q ⟨G, e, S, h⟩ => ?_
    simp only [ev] at h
    refine tV_then S h.bind fun dx e1 v H1 G1 h1 S1 x1 r1 => tV_then S1 h1.bind fun dy e2 w H2 G2 h2 S2 x2 r2 => ?_
    obtain ⟨dz, hz, q⟩ := h2.opt
    obtain ⟨k, hk, rfl⟩ := Option.map_eq_some_iff.mp hz
    exact ⟨dx, dy, k, hk, G2, S2.sub, r1.mono x2, r2, q _ H2 G2 S2 (x1.trans x2) (.bl k)⟩
  · refine pt_imp (pt_cmpR (opC hu o) ha hb hm) fun σ H Q ⟨G, e, S, h⟩ => ?_
    simp only [ev] at h
    refine tV_then S h.bind fun dx e1 v H1 G1 h1 S1 x1 r1 => tV_then S1 h1.bind fun dy e2 w H2 G2 h2 S2 x2 r2 => ?_
    obtain ⟨dz, hz, q⟩ := h2.opt
    obtain ⟨k, hk, rfl⟩ := Option.map_eq_some_iff.mp hz
    obtain ⟨k', ek, q⟩ := q
    cases ek
    exact ⟨dx, dy, k, hk, G2, S2.sub, r1.mono x2, r2, k, rfl, q H2 G2 S2 (x1.trans x2)⟩
theorem n_chn (hu : X.A.units + 65 < cLine) (o o' : Cop) (ha : PE X x (TV X T WE (ev a))) (hb : PE X y (TV X T WE (ev b))) (hc : PE X z (TV X T WE (ev c))) (hm : lastMarks [copOf o, copOf o'] [y, z] = false) :
    PE X (.Compare x [copOf o, copOf o'] [y, z] pos) (TV X T WE (ev (.chn o o' a b c))) ∧ PT X (.Compare x [copOf o, copOf o'] [y, z] pos) (TW X T WE (ev (.chn o o' a b c))) := by
  constructor
  · refine pe_imp (pe_chain (opC hu o) (opC hu o') ha hb hc hm) fun σ H Q ⟨G, e, S, h⟩ => ?_
    simp only [ev] at h
    refine tV_then S h.bind fun dx e1 v H1 G1 h1 S1 x1 r1 => tV_then S1 h1.bind fun dy e2 w H2 G2 h2 S2 x2 r2 => ?_
    cases hk : cmpD o dx dy with
    | none => rw [hk] at h2; exact h2.elim
    | some k =>
      rw [hk] at h2
      refine ⟨dx, dy, k, hk, G2, S2.sub, r1.mono x2, r2, k, rfl, ?_⟩
      cases k with
      | false => exact h2 _ H2 G2 S2 (x1.trans x2) (.bl false)
      | true =>
        refine tV_then S2 (RW.bind h2) fun dz e3 u H3 G3 h3 S3 x3 r3 => ?_
        obtain ⟨dw, hw, q⟩ := h3.opt
        obtain ⟨k, hk, rfl⟩ := Option.map_eq_some_iff.mp hw
        exact ⟨dy, dz, k, hk, G3, S3.sub, r2.mono x3, r3, q _ H3 G3 S3 ((x1.trans x2).trans x3) (.bl k)⟩
  · refine pt_imp (pt_chain (opC hu o) (opC hu o') ha hb hc hm) fun σ H Q ⟨G, e, S, h⟩ => ?_
    simp only [ev] at h
    refine tV_then S h.bind fun dx e1 v H1 G1 h1 S1 x1 r1 => tV_then S1 h1.bind fun dy e2 w H2 G2 h2 S2 x2 r2 => ?_
    cases hk : cmpD o dx dy with
    | none => rw [hk] at h2; exact h2.elim
    | some k =>
      rw [hk] at h2
      refine ⟨dx, dy, k, hk, G2, S2.sub, r1.mono x2, r2, k, rfl, ?_⟩
      cases k with
      | false =>
        obtain ⟨k', ek, q⟩ := h2
        cases ek
        exact ⟨false, rfl, q H2 G2 S2 (x1.trans x2)⟩
      | true =>
        refine tV_then S2 (RW.bind h2) fun dz e3 u H3 G3 h3 S3 x3 r3 => ?_
        obtain ⟨dw, hw, q⟩ := h3.opt
        obtain ⟨k, hk, rfl⟩ := Option.map_eq_some_iff.mp hw
        obtain ⟨k', ek, q⟩ := q
        cases ek
        exact ⟨dy, dz, k, hk, G3, S3.sub, r2.mono x3, r3, k, rfl, q H3 G3 S3 ((x1.trans x2).trans x3)⟩
theorem n_and {rest : List Expr} (ha : PE X x (TV X T WE (ev a))) (hb : PE X (.BoolOp .And (y :: rest) pos) (TV X T WE (ev b))) : PE X (.BoolOp .And (x :: y :: rest) pos) (TV X T WE (ev (.and a b))) := by
  refine pe_imp (pe_and ha hb) fun σ H Q ⟨G, e, S, h⟩ => ?_
  simp only [ev] at h
  refine tV_then S h.bind fun dx e1 v H1 G1 h1 S1 x1 r1 => ?_
  cases r1 <;> first
    | exact h1.elim
    | skip
  rename_i k
  refine ⟨k, rfl, ?_⟩
  cases k with
  | false => exact h1 _ H1 G1 S1 x1 (.bl false)
  | true => exact tV_then S1 h1 fun dz e3 u H3 G3 h3 S3 x3 r3 => h3 u H3 G3 S3 (x1.trans x3) r3
theorem n_or {rest : List Expr} (ha : PE X x (TV X T WE (ev a))) (hb : PE X (.BoolOp .Or (y :: rest) pos) (TV X T WE (ev b))) : PE X (.BoolOp .Or (x :: y :: rest) pos) (TV X T WE (ev (.or a b))) := by
  refine pe_imp (pe_or ha hb) fun σ H Q ⟨G, e, S, h⟩ => ?_
  simp only [ev] at h
  refine tV_then S h.bind fun dx e1 v H1 G1 h1 S1 x1 r1 => ?_
  cases r1 <;> first
    | exact h1.elim
    | skip
  rename_i k
  refine ⟨k, rfl, ?_⟩
  cases k with
  | true => exact h1 _ H1 G1 S1 x1 (.bl true)
  | false => exact tV_then S1 h1 fun dz e3 u H3 G3 h3 S3 x3 r3 => h3 u H3 G3 S3 (x1.trans x3) r3
theorem n_not (ha : PE X x (TV X T WE (ev a))) : PE X (.UnaryOp .Not x pos) (TV X T WE (ev (.not a))) := by
  refine pe_imp (pe_not ha) fun σ H Q ⟨G, e, S, h⟩ => ?_
  simp only [ev] at h
  refine tV_then S h.bind fun dx e1 v H1 G1 h1 S1 x1 r1 => ?_
  cases r1 <;> first
    | exact h1.elim
    | exact ⟨_, rfl, h1 _ H1 G1 S1 x1 (.bl _)⟩
theorem n_ite (hc : PT X z (TW X T WE (ev c))) (ha : PE X x (TV X T WE (ev a))) (hb : PE X y (TV X T WE (ev b))) : PE X (.IfExp z x y pos) (TV X T WE (ev (.ite c a b))) := by
  refine pe_imp (pe_ifExp hc ha hb) fun σ H Q ⟨G, e, S, h⟩ => ?_
  simp only [ev] at h
  refine tW_then S h.bind (fun d e' hd => ?_) fun k e1 H1 G1 h1 S1 x1 => ?_
  · cases d <;> first
      | exact ⟨_, rfl⟩
      | exact hd.elim
  · cases k with
    | true => exact tV_then S1 h1 fun dz e3 u H3 G3 h3 S3 x3 r3 => h3 u H3 G3 S3 (x1.trans x3) r3
    | false => exact tV_then S1 h1 fun dz e3 u H3 G3 h3 S3 x3 r3 => h3 u H3 G3 S3 (x1.trans x3) r3

theorem t_and {rest : List Expr} (ha : PT X x (TW X T WE (ev a))) (hb : PW X (.BoolOp .And (y :: rest) pos) (TW X T WE (ev b))) : PW X (.BoolOp .And (x :: y :: rest) pos) (TW X T WE (ev (.and a b))) := by
  refine pw_imp (pw_and ha hb) fun σ H Q ⟨G, e, S, h⟩ => ?_
  simp only [ev] at h
  refine tW_then S h.bind (fun d e' hd => ?_) fun k e1 H1 G1 h1 S1 x1 => ?_
  · cases d <;> first
      | exact ⟨_, rfl⟩
      | exact hd.elim
  · cases k with
    | false =>
      obtain ⟨k', ek, q⟩ := h1
      cases ek
      exact q H1 G1 S1 x1
    | true => exact ⟨G1, e1, S1, h1.mono fun d e' ⟨k, ek, q⟩ => ⟨k, ek, fun H' G' S' x' => q H' G' S' (x1.trans x')⟩⟩
theorem t_or {rest : List Expr} (ha : PT X x (TW X T WE (ev a))) (hb : PW X (.BoolOp .Or (y :: rest) pos) (TW X T WE (ev b))) : PW X (.BoolOp .Or (x :: y :: rest) pos) (TW X T WE (ev (.or a b))) := by
  refine pw_imp (pw_or ha hb) fun σ H Q ⟨G, e, S, h⟩ => ?_
  simp only [ev] at h
  refine tW_then S h.bind (fun d e' hd => ?_) fun k e1 H1 G1 h1 S1 x1 => ?_
  · cases d <;> first
      | exact ⟨_, rfl⟩
      | exact hd.elim
  · cases k with
    | true =>
      obtain ⟨k', ek, q⟩ := h1
      cases ek
      exact q H1 G1 S1 x1
    | false => exact ⟨G1, e1, S1, h1.mono fun d e' ⟨k, ek, q⟩ => ⟨k, ek, fun H' G' S' x' => q H' G' S' (x1.trans x')⟩⟩
theorem t_not (ha : PT X x (TW X T WE (ev a))) : PT X (.UnaryOp .Not x pos) (TW X T WE (ev (.not a))) := by
  refine pt_imp (pt_not ha) fun σ H Q ⟨G, e, S, h⟩ => ?_
  simp only [ev] at h
  refine tW_then S h.bind (fun d e' hd => ?_) fun k e1 H1 G1 h1 S1 x1 => ?_
  · cases d <;> first
      | exact ⟨_, rfl⟩
      | exact hd.elim
  · obtain ⟨k', ek, q⟩ := h1
    cases ek
    exact q H1 G1 S1 x1
/-- texts whose test is their value's -/
def plainT : Expr → Bool
  | .Call .. => true
  | .Name .. => true
  | .Subscript .. => true
  | .Constant .. => true
  | .Attribute .. => true
  | _ => false
theorem t_val {f : Env → R D} (h : PE X x (TV X T WE f)) (p : plainT x = true) : PT X x (TW X T WE f) := by
  have he : ∀ whole, isTrue x X.env whole = (do let v ← whole; standAt x.pos; holding [v] (truthy v)) := by
    intro whole
    cases x <;> first
      | rfl
      | (cases p; done)
  refine pt_imp (pt_val h he) fun σ H Q ⟨G, e, S, h⟩ => ?_
  refine tV_then S h fun d e1 v H1 G1 ⟨k, ek, q⟩ S1 x1 r1 => ?_
  subst ek
  cases r1
  exact ⟨k, rfl, q H1 G1 S1 x1⟩

def notStar : Expr → Bool
  | .Starred .. => false
  | _ => true
def notStars (xs : List Expr) : Bool := xs.all notStar
theorem star1 {env : PySem.Env} {xs : List Expr} (h : notStar x = true) : starEach (x :: xs) env = (false, eval x env) :: starEach xs env := by
  cases x <;> first
    | rfl
    | cases h
theorem stars {env : PySem.Env} : ∀ {xs : List Expr}, notStars xs = true → (starEach xs env).any (·.1) = false ∧ ∀ p : Pos, (backTo p (starEach xs env)).any (·.1) = false
  | [], _ => ⟨rfl, fun _ => rfl⟩
  | x :: xs, h => by
    simp only [notStars, List.all_cons, Bool.and_eq_true] at h
    have h1 : (starEach (x :: xs) env).any (·.1) = false := by
      rw [star1 h.1, List.any_cons, (stars h.2).1]; rfl
    refine ⟨h1, fun p => ?_⟩
    rw [star1 h.1]
    show ((false, eval x env) :: backTo p (starEach xs env)).any (·.1) = false
    rw [List.any_cons, (stars h.2).2 p]; rfl
/-- of a row of arguments -/
def TR (X : Cx) (T : Ent) (WE : Exc → Env → Prop) (es : List E) : TA := fun σ H Q => ∃ G e, Stt X.K X.mg T H G σ e ∧ RW WE (evs es e) fun ds e' => ∀ vs H' G', Stt X.K X.mg T H' G' σ e' → Ext G G' → RepAs X.K X.mg σ G' es vs ds → Q vs H'
theorem r_nil : PA X [] (TR X T WE []) := pa_imp pa_nil fun σ H Q ⟨G, e, S, h⟩ => by
  simp only [evs] at h
  exact h [] H G S (Ext.refl G) trivial
theorem r_cons {xs : List Expr} {as : List E} (ha : PE X x (TV X T WE (ev a))) (hr : PA X xs (TR X T WE as)) (hs : notStar x = true) (hi : iovOf a = none) : PA X (x :: xs) (TR X T WE (a :: as)) := by
  refine pa_imp (pa_cons ha hr (star1 hs)) fun σ H Q ⟨G, e, S, h⟩ => ?_
  simp only [evs] at h
  refine tV_then S h.bind fun d e1 v H1 G1 h1 S1 x1 r1 => ⟨G1, e1, S1, h1.bind.mono fun ds e2 h2 vs H2 G2 S2 x2 r2 => ?_⟩
  refine h2 (v :: vs) H2 G2 S2 (x1.trans x2) ⟨?_, r2⟩
  rw [hi]
  exact r1.mono x2
theorem r_iov {xs : List Expr} {as : List E} {i : Nat} (hx : PE X x (tVar i)) (hr : PA X xs (TR X T WE as)) (hs : notStar x = true) (hi : iovOf a = some i) : PA X (x :: xs) (TR X T WE (a :: as)) := by
  refine pa_imp (pa_cons hx hr (star1 hs)) fun σ H Q ⟨G, e, S, h⟩ => ?_
  have ea : a = .iov i := by
    cases a <;> first
      | (simp [iovOf] at hi; done)
      | (simp only [iovOf, Option.some.injEq] at hi; rw [hi])
  subst ea
  simp only [evs, ev] at h
  cases q : getS e i with
  | un => rw [q] at h; exact h.bind.elim
  | fr d => rw [q] at h; exact h.bind.elim
  | ow d =>
    rw [q] at h
    have s := S.slot i
    rw [q] at s
    obtain ⟨b, e1, g, _, o⟩ := s
    refine ⟨_, e1, G, e, S, (RW.bind h.bind).mono fun ds e2 h2 vs H2 G2 S2 x2 r2 => ?_⟩
    exact h2 (.ref b :: vs) H2 G2 S2 x2 ⟨e1, r2⟩
theorem r_plain {xs : List Expr} {as : List E} (h : PA X xs (TR X T WE as)) (p : plainEs as = true) : PA X xs (TL X T WE (evs as)) := pa_imp h fun σ H Q ⟨G, e, S, h⟩ =>
  ⟨G, e, S, h.mono fun ds e' q vs H' G' S' x' r' => q vs H' G' S' x' (r'.reps p)⟩
theorem n_tup {xs : List Expr} {as : List E} {k : Nat} (h : PA X xs (TL X T WE (evs as))) (hz : Nat.ble as.length 1000 = true) (hl : ∀ {ds e e'}, evs as e = .ok ds e' → ds.length = as.length) : PE X (.Tuple xs k pos) (TV X T WE (ev (.tup as))) := by
  refine pe_imp (pe_tup h) fun σ H Q ⟨G, e, S, h⟩ => ?_
  simp only [ev] at h
  have h1 := h.bind
  have hz := Nat.le_of_ble_eq_true hz
  cases q : evs as e with
  | no => rw [q] at h1; exact h1.elim
  | ex x e' => rw [q] at h1; exact ⟨G, e, S, by rw [q]; exact h1⟩
  | ok ds e' =>
    rw [q] at h1
    have el := hl q
    refine ⟨G, e, S, ?_⟩
    rw [q]
    intro vs H1 G1 S1 x1 r1
    refine ⟨by rw [r1.length, el]; exact Nat.le_trans hz (by decide), fun p hp => ?_⟩
    obtain ⟨S', x'⟩ := S1.made (o := .tup _) hp
    exact h1 _ _ _ S' (x1.trans x') (.tup (.inl (.inl upd_same)) (r1.mono x'))
theorem n_lst {xs : List Expr} {as : List E} (h : PA X xs (TL X T WE (evs as))) (hz : Nat.ble as.length 1000 = true) (hl : ∀ {ds e e'}, evs as e = .ok ds e' → ds.length = as.length) : PE X (.List xs pos) (TV X T WE (ev (.lst as))) := by
  refine pe_imp (pe_lst h) fun σ H Q ⟨G, e, S, h⟩ => ?_
  simp only [ev] at h
  have h1 := h.bind
  have hz := Nat.le_of_ble_eq_true hz
  cases q : evs as e with
  | no => rw [q] at h1; exact h1.elim
  | ex x e' => rw [q] at h1; exact ⟨G, e, S, by rw [q]; exact h1⟩
  | ok ds e' =>
    rw [q] at h1
    have el := hl q
    refine ⟨G, e, S, ?_⟩
    rw [q]
    intro vs H1 G1 S1 x1 r1
    refine ⟨by rw [r1.length, el]; exact Nat.le_trans hz (by decide), fun p hp => ?_⟩
    obtain ⟨S', x'⟩ := S1.made (o := .lst _) hp
    exact h1 _ _ _ S' (x1.trans x') (.lst upd_same (r1.mono x'))
theorem evs_length : ∀ {as : List E} {ds : List D} {e e' : Env}, evs as e = .ok ds e' → ds.length = as.length
  | [], _, _, _, h => by simp only [evs] at h; cases h; rfl
  | a :: as, ds, e, e', h => by
    simp only [evs] at h
    cases q : ev a e with
    | no => rw [q] at h; cases h
    | ex x e1 => rw [q] at h; cases h
    | ok d e1 =>
      rw [q] at h
      simp only [R.bind] at h
      cases q2 : evs as e1 with
      | no => rw [q2] at h; cases h
      | ex x e1 => rw [q2] at h; cases h
      | ok dl e2 =>
        rw [q2] at h
        cases h
        rw [List.length_cons, List.length_cons, evs_length q2]

theorem bi_go {f : Bi} {as : List E} {σ : St} {H : Hp} {Q : VK} (h : TV X T WE (ev (.bi f as)) σ H Q) : TL X T WE (evs as) σ H fun vs H1 => rX X.K X.mg (biD f) vs H1 Q := by
  obtain ⟨G, e, S, h⟩ := h
  simp only [ev] at h
  refine tL_then S h.bind fun ds e1 vs H1 G1 h1 S1 x1 r1 => ?_
  obtain ⟨dz, hz, q⟩ := h1.opt
  exact ⟨ds, dz, hz, ⟨T, G1, σ, e1, S1, r1, fun u H' G' S' _ x' r' => q u H' G' S' (x1.trans x') r'⟩⟩
theorem n_bi {f : Bi} {as : List E} {xs : List Expr} {nm : Str} {v : Value} {p : Pos} (hc : X.calm = true) (hg : X.A.guards = some []) (hu : X.A.units + 65 < cLine) (hv : biV f = some v) (hb : bootBuiltins nm = some v) (gl : Gl X nm) (mg : X.mg nm = none) (ok : okName nm = true)
    (ha : PA X (x :: xs) (TL X T WE (evs as))) (hs : notStars (x :: xs) = true) : PE X (.Call (.Name nm p) (x :: xs) [] pos) (TV X T WE (ev (.bi f as))) := by
  simp only [okName, Bool.and_eq_true, Bool.not_eq_true'] at ok
  have hs' : notStar x = true ∧ notStars xs = true := by simpa only [notStars, List.all_cons, Bool.and_eq_true] using hs
  have hn : nm ≠ "__name__" := fun z => by rw [z] at ok; simp at ok
  have ok2 := bi_ok (X := X) hc hg hu hv
  cases f <;> first
    | (cases hv; done)
    | skip
  all_goals simp only [biV, Option.some.injEq] at hv
  all_goals subst hv
  all_goals first
    | exact pe_imp (pe_callB ok2 gl mg hb ha hn ok.1.1 (star1 hs'.1) ((stars hs'.2).2 pos)) fun σ H Q h => bi_go h
    | exact pe_imp (pe_callTy ok2 gl mg hb ha hn ok.1.1 (star1 hs'.1) ((stars hs'.2).2 pos)) fun σ H Q h => bi_go h
def notSlice : Expr → Bool
  | .Slice .. => false
  | _ => true
theorem n_ix (ha : PE X x (TV X T WE (ev a))) (hb : PE X y (TV X T WE (ev b))) (hs : notSlice y = true) : PE X (.Subscript x y pos) (TV X T WE (ev (.ix a b))) := by
  have hp : PlainIx y := fun o i => by
    cases y <;> first
      | rfl
      | cases hs
  refine pe_imp (pe_ix ixD_ok ha hb hp) fun σ H Q ⟨G, e, S, h⟩ => ?_
  simp only [ev] at h
  refine tV_then S h.bind fun dx e1 v H1 G1 h1 S1 x1 r1 => tV_then S1 h1.bind fun dy e2 w H2 G2 h2 S2 x2 r2 => ?_
  obtain ⟨dz, hz, q⟩ := h2.opt
  exact ⟨dx, dy, dz, hz, G2, S2.sub, r1.mono x2, r2, fun u r' => q u H2 G2 S2 (x1.trans x2) r'⟩
/-- an end of a slice, against its text -/
def EndOk (X : Cx) (T : Ent) (WE : Exc → Env → Prop) (a : E) : Option Expr → Prop
  | none => a = .non
  | some x => PE X x (tV X.K X.mg T WE (ev a)) ∧ a ≠ .non
def tEnd (X : Cx) (T : Ent) (WE : Exc → Env → Prop) (a : E) : TO := fun σ H Q => ∃ G e, Stt X.K X.mg T H G σ e ∧ RW WE (ev a e) fun d e' => ∃ o, partE a d = some o ∧ ∀ H' G', Stt X.K X.mg T H' G' σ e' → Ext G G' → Q o H'
theorem partE_ne {a : E} {d : D} (h : a ≠ .non) {o : Option Int} (q : partE a d = some o) : ∃ i, d = .int i ∧ o = some i := by
  unfold partE at q
  split at q
  · exact absurd rfl h
  · split at q
    · cases q; exact ⟨_, rfl, rfl⟩
    · cases q
theorem n_end {o : Option Expr} (h : EndOk X T WE a o) : PO X o (tEnd X T WE a) := by
  cases o with
  | none =>
    have h : a = .non := h
    subst h
    refine ⟨fun pins s σ H Q I q => po_none.run pins s σ H Q I ?_⟩
    obtain ⟨G, e, S, q⟩ := q
    simp only [ev] at q
    obtain ⟨o, h1, h2⟩ := q
    cases h1
    exact h2 H G S (Ext.refl G)
  | some x =>
    obtain ⟨hx, hn⟩ := (show PE X x (tV X.K X.mg T WE (ev a)) ∧ a ≠ .non from h)
    refine ⟨fun pins s σ H Q I q => (po_some hx).run pins s σ H Q I ?_⟩
    obtain ⟨G, e, S, q⟩ := q
    refine tV_then S q fun d e1 v H1 G1 ⟨o, h1, h2⟩ S1 x1 r1 => ?_
    obtain ⟨i, rfl, rfl⟩ := partE_ne hn h1
    cases r1
    exact ⟨i, rfl, h2 H1 G1 S1 x1⟩
theorem n_sl {lo hi : Option Expr} {p2 : Pos} (ha : PE X x (TV X T WE (ev a))) (hl : EndOk X T WE b lo) (hh : EndOk X T WE c hi) : PE X (.Subscript x (.Slice lo hi none p2) pos) (TV X T WE (ev (.sl a b c))) := by
  refine pe_imp (pe_slice slD_ok ha (n_end hl) (n_end hh)) fun σ H Q ⟨G, e, S, h⟩ => ?_
  simp only [ev] at h
  refine tV_then S h.bind fun dx e1 v H1 G1 h1 S1 x1 r1 => ⟨G1, e1, S1, ?_⟩
  refine h1.bind.mono fun dl e2 h2 => ?_
  obtain ⟨ol, q3, h2⟩ := h2.bind.opt
  refine ⟨ol, q3, fun H2 G2 S2 x2 => ⟨G2, e2, S2, h2.bind.mono fun dh e3 h3 => ?_⟩⟩
  obtain ⟨oh, q4, h3⟩ := h3.bind.opt
  obtain ⟨dz, hz, q⟩ := h3.opt
  exact ⟨oh, q4, fun H3 G3 S3 x3 => ⟨dx, dz, hz, ⟨T, G3, σ, e3, S3, .cons (r1.mono (x2.trans x3)) .nil, fun u H' G' S' _ x' r' => q u H' G' S' (((x1.trans x2).trans x3).trans x') r'⟩⟩⟩
theorem n_rev {k : Nat} {p1 p2 p3 : Pos} (ha : PE X x (TV X T WE (ev a))) : PE X (.Subscript x (.Slice none none (some (.UnaryOp .USub (.Constant (.int 1) k p1) p2)) p3) pos) (TV X T WE (ev (.rev a))) := by
  refine pe_imp (pe_revL ha) fun σ H Q ⟨G, e, S, h⟩ => ?_
  simp only [ev] at h
  refine tV_then S h.bind fun dx e1 v H1 G1 h1 S1 x1 r1 => ?_
  obtain ⟨dz, hz, q⟩ := h1.opt
  cases r1 <;> first
    | (simp [revD] at hz; done)
    | skip
  rename_i a xs ds g r
  cases hz
  refine ⟨_, _, rfl, .inl (.inl (S1.sub _ _ g)), fun p hp => ?_⟩
  obtain ⟨S', x'⟩ := S1.made (o := .lst _) hp
  exact q _ _ _ S' (x1.trans x') (.lst upd_same ((r.mono x').rev))
end
end Vi
end
section
set_option maxHeartbeats 2000000
namespace Vi
open PySem L2

section
variable {K : PySem.W.Frag} {mg : Str → Option Value} {T : Ent} {H H' G G' : Hp} {σ : St} {e e' : Env}
def OwnAt (σ : St) (e : Env) (a : Addr) : Prop := ∃ j d, getS e j = .ow d ∧ σ[j]? = some (some (.ref a))
open Classical in
/-- the frame that begins at a state: all but the own things is to stay -/
noncomputable def Ent.now (T : Ent) (H G : Hp) (σ : St) (e : Env) : Ent := ⟨fun a => if OwnAt σ e a then none else H a, G, T.io⟩
theorem now_He {a : Addr} (h : ¬ OwnAt σ e a) : (T.now H G σ e).He a = H a := if_neg h
theorem now_own {a : Addr} (h : OwnAt σ e a) : (T.now H G σ e).He a = none := if_pos h
theorem Stt.ownThere (S : Stt K mg T H G σ e) {j : Nat} {d : D} {a : Addr} (h1 : getS e j = .ow d) (h2 : σ[j]? = some (some (.ref a))) : G a = none ∧ (T.He a = none ∨ (j, a) ∈ T.io) ∧ ∃ o, H a = some o := by
  have s := S.slot j
  rw [h1] at s
  obtain ⟨b, e1, g, q, o⟩ := s
  rw [h2] at e1; cases e1
  exact ⟨g, q, o.there⟩
/-- what stood at the entry stands, but for what may be changed -/
theorem Stt.entry (S : Stt K mg T H G σ e) {a : Addr} (h : H a = none) : T.He a = none := by
  cases q : T.He a with
  | none => rfl
  | some u =>
    by_cases hi : ∃ i, (i, a) ∈ T.io
    · obtain ⟨i, hi⟩ := hi
      obtain ⟨h1, d, h2⟩ := S.ios _ hi
      obtain ⟨_, _, o, ho⟩ := S.ownThere h2 h1
      have ho : H a = some o := ho
      rw [h] at ho; cases ho
    · rw [S.keep a u q fun i hm => hi ⟨i, hm⟩] at h; cases h
theorem Stt.enter (S : Stt K mg T H G σ e) : Stt K mg (T.now H G σ e) H G σ e where
  len := S.len
  sub := S.sub
  ext := Ext.refl G
  new := fun a o h => .inl h
  keep := fun a o h n => by
    by_cases q : OwnAt σ e a
    · rw [now_own q] at h; cases h
    · rw [now_He q] at h; exact h
  slot := fun i => by
    have s := S.slot i
    cases q : getS e i with
    | un => trivial
    | fr d => rw [q] at s; exact s
    | ow d =>
      rw [q] at s
      obtain ⟨a, e1, g, _, o⟩ := s
      exact ⟨a, e1, g, .inl (now_own ⟨i, d, q, e1⟩), o⟩
  apart := S.apart
  ios := S.ios
theorem Stt.leave {σ' : St} (S : Stt K mg T H G σ e) (S' : Stt K mg (T.now H G σ e) H' G' σ' e') : Stt K mg T H' G' σ' e' := by
  have back : ∀ {a : Addr}, (T.now H G σ e).He a = none → (T.He a = none) ∨ ∃ j, (j, a) ∈ T.io := fun {a} h => by
    by_cases q : OwnAt σ e a
    · obtain ⟨j, d, h1, h2⟩ := q
      obtain ⟨_, z, _⟩ := S.ownThere h1 h2
      rcases z with z | z
      · exact .inl z
      · exact .inr ⟨j, z⟩
    · rw [now_He q] at h
      exact .inl (S.entry h)
  refine ⟨S'.len, S'.sub, S.ext.trans S'.ext, fun a o h => ?_, fun a o h n => ?_, fun i => ?_, S'.apart, S'.ios⟩
  · rcases S'.new a o h with z | z
    · exact S.new a o z
    · rcases back z with z | ⟨j, z⟩
      · exact .inr z
      · obtain ⟨h1, d, h2⟩ := S'.ios _ z
        obtain ⟨g, _⟩ := S'.ownThere h2 h1
        have g : G' a = none := g
        rw [g] at h; cases h
  · refine S'.keep a o ?_ n
    have q : ¬ OwnAt σ e a := fun ⟨j, d, h1, h2⟩ => by
      obtain ⟨_, z, _⟩ := S.ownThere h1 h2
      rcases z with z | z
      · rw [z] at h; cases h
      · exact n j z
    rw [now_He q]
    exact S.keep a o h n
  · have s := S'.slot i
    cases q : getS e' i with
    | un => trivial
    | fr d => rw [q] at s; exact s
    | ow d =>
      rw [q] at s
      obtain ⟨a, e1, g, z, o⟩ := s
      refine ⟨a, e1, g, ?_, o⟩
      rcases z with z | z
      · rcases back z with z | ⟨j, z⟩
        · exact .inl z
        · refine .inr ?_
          obtain ⟨h1, d', h2⟩ := S'.ios _ z
          by_cases hij : i = j
          · subst hij; exact z
          · exact absurd h1 (S'.apart i j a d d' hij q h2 e1)
      · exact .inr z
/-- a thing that is neither known nor anyone's stays as it is through a frame -/
theorem Stt.kept {σ' : St} {a : Addr} {o : HO} (S : Stt K mg T H G σ e) (S' : Stt K mg (T.now H G σ e) H' G' σ' e') (h : H a = some o) (n : ¬ OwnAt σ e a) (g : G a = none) : H' a = some o ∧ ¬ OwnAt σ' e' a ∧ G' a = none := by
  have nio : ∀ i, (i, a) ∉ T.io := fun i hi => by
    obtain ⟨h1, d, h2⟩ := S.ios _ hi
    exact n ⟨i, d, h2, h1⟩
  have he : (T.now H G σ e).He a = some o := by rw [now_He n]; exact h
  refine ⟨S'.keep a o he nio, fun ⟨j, d, h1, h2⟩ => ?_, ?_⟩
  · obtain ⟨_, z, _⟩ := S'.ownThere h1 h2
    rcases z with z | z
    · rw [he] at z; cases z
    · exact nio j z
  · cases q : G' a with
    | none => rfl
    | some u =>
      rcases S'.new a u q with z | z
      · have z : G a = some u := z
        rw [g] at z; cases z
      · rw [he] at z; cases z
/-- such a thing is changed -/
theorem Stt.updFree {a : Addr} {o o' : HO} (S : Stt K mg T H G σ e) (h : H a = some o) (n : ¬ OwnAt σ e a) (g : G a = none) (he : T.He a = none) : Stt K mg T (upd H a o') G σ e where
  len := S.len
  sub := fun b u q => by
    have hb : b ≠ a := fun z => by subst z; rw [g] at q; cases q
    rw [upd_ne hb]; exact S.sub b u q
  ext := S.ext
  new := S.new
  keep := fun b u q hn => by
    have hb : b ≠ a := fun z => by subst z; rw [he] at q; cases q
    rw [upd_ne hb]; exact S.keep b u q hn
  slot := fun i => by
    have s := S.slot i
    cases q : getS e i with
    | un => trivial
    | fr d => rw [q] at s; exact s
    | ow d =>
      rw [q] at s
      obtain ⟨b, e1, g1, z, w⟩ := s
      refine ⟨b, e1, g1, z, w.mono (Ext.refl G) fun u hu => ?_⟩
      have hb : b ≠ a := fun z => by subst z; exact n ⟨i, d, q, e1⟩
      rw [upd_ne hb]; exact hu
  apart := S.apart
  ios := S.ios
/-- such a thing becomes known -/
theorem Stt.known {a : Addr} {o : HO} (S : Stt K mg T H G σ e) (h : H a = some o) (n : ¬ OwnAt σ e a) (g : G a = none) (he : T.He a = none) : Stt K mg T H (upd G a o) σ e where
  len := S.len
  sub := fun b u q => by
    by_cases hb : b = a
    · subst hb; rw [upd_same] at q; cases q; exact h
    · rw [upd_ne hb] at q; exact S.sub b u q
  ext := S.ext.trans (Ext.new g)
  new := fun b u q => by
    by_cases hb : b = a
    · subst hb; exact .inr he
    · rw [upd_ne hb] at q; exact S.new b u q
  keep := S.keep
  slot := fun i => by
    have s := S.slot i
    cases q : getS e i with
    | un => trivial
    | fr d => rw [q] at s; obtain ⟨v, e1, r⟩ := s; exact ⟨v, e1, r.mono (Ext.new g)⟩
    | ow d =>
      rw [q] at s
      obtain ⟨b, e1, g1, z, w⟩ := s
      have hb : b ≠ a := fun z => by subst z; exact n ⟨i, d, q, e1⟩
      exact ⟨b, e1, by rw [upd_ne hb]; exact g1, z, w.mono (Ext.new g) fun u hu => hu⟩
  apart := S.apart
  ios := S.ios

theorem wipeE_get : ∀ {vs : List Nat} {e e1 : Env}, wipeE e vs = some e1 → e1.length = e.length ∧ (∀ j, j ∉ vs → getS e1 j = getS e j) ∧ (∀ j, j ∈ vs → getS e1 j = .un) ∧ ∀ j, j ∈ vs → ∀ d, getS e j ≠ .ow d
  | [], e, e1, h => by cases h; exact ⟨rfl, fun _ _ => rfl, fun j hj => (List.not_mem_nil hj).elim, fun j hj => (List.not_mem_nil hj).elim⟩
  | v :: vs, e, e1, h => by
    unfold wipeE at h
    have hno : ∀ d, getS e v ≠ .ow d := fun d z => by rw [z] at h; cases h
    have h : wipeE (setS e v .un) vs = some e1 := by
      cases q : getS e v with
      | ow d => exact absurd q (hno d)
      | un => rw [q] at h; exact h
      | fr d => rw [q] at h; exact h
    obtain ⟨h1, h2, h3, h4⟩ := wipeE_get h
    have sv : getS (setS e v .un) v = .un := by
      rcases getS_set_or (i := v) (j := v) .un e with ⟨_, q⟩ | q
      · exact q
      · by_cases hl : v < e.length
        · exact getS_set _ e hl
        · rw [q]
          exact Classical.byContradiction fun hn => hl (getS_lt hn)
    refine ⟨by rw [h1, setS_length], fun j hj => ?_, fun j hj => ?_, fun j hj d => ?_⟩
    · rw [h2 j fun z => hj (List.mem_cons_of_mem _ z)]
      exact getS_set_ne _ (fun z => hj (by rw [← z]; exact List.mem_cons_self)) e
    · by_cases hm : j ∈ vs
      · exact h3 j hm
      · rw [h2 j hm]
        rcases List.mem_cons.mp hj with z | z
        · rw [z]; exact sv
        · exact absurd z hm
    · rcases List.mem_cons.mp hj with z | z
      · rw [z]; exact hno d
      · intro w
        by_cases hv : v = j
        · subst hv; exact hno d w
        · exact h4 j z d (by rw [getS_set_ne _ hv]; exact w)
theorem Stt.wipe {vs : List Nat} {e1 : Env} (S : Stt K mg T H G σ e) (h : wipeE e vs = some e1) : Stt K mg T H G (L2.wipe σ vs) e1 := by
  obtain ⟨h1, h2, h3, h4⟩ := wipeE_get h
  have own : ∀ {j d}, getS e1 j = .ow d → j ∉ vs ∧ getS e j = .ow d := fun {j d} q => by
    by_cases hj : j ∈ vs
    · rw [h3 j hj] at q; cases q
    · exact ⟨hj, h2 j hj ▸ q⟩
  refine ⟨by rw [h1, wipe_length]; exact S.len, S.sub, S.ext, S.new, S.keep, fun j => ?_, fun i j a d d' hij hi hj => ?_, fun p hp => ?_⟩
  · by_cases hj : j ∈ vs
    · rw [h3 j hj]; trivial
    · rw [h2 j hj]
      have s := S.slot j
      cases q : getS e j with
      | un => trivial
      | fr d => rw [q] at s; obtain ⟨v, e1, r⟩ := s; exact ⟨v, by rw [wipe_out hj]; exact e1, r⟩
      | ow d => rw [q] at s; obtain ⟨a, e1, r⟩ := s; exact ⟨a, by rw [wipe_out hj]; exact e1, r⟩
  · obtain ⟨i1, i2⟩ := own hi
    obtain ⟨j1, j2⟩ := own hj
    rw [wipe_out i1, wipe_out j1]
    exact S.apart i j a d d' hij i2 j2
  · obtain ⟨q1, d, q2⟩ := S.ios p hp
    have hj : p.1 ∉ vs := fun z => h4 _ z d q2
    exact ⟨by rw [wipe_out hj]; exact q1, d, by rw [h2 _ hj]; exact q2⟩
theorem unwipe_get (e : Env) : ∀ {vs : List Nat} {e' : Env}, e'.length = e.length → (unwipe e e' vs).length = e.length ∧ (∀ j, j ∉ vs → getS (unwipe e e' vs) j = getS e' j) ∧ ∀ j, j ∈ vs → getS (unwipe e e' vs) j = getS e j
  | [], e', h => ⟨h, fun _ _ => rfl, fun j hj => (List.not_mem_nil hj).elim⟩
  | v :: vs, e', h => by
    unfold unwipe
    obtain ⟨h1, h2, h3⟩ := unwipe_get e (vs := vs) (e' := setS e' v (getS e v)) (by rw [setS_length]; exact h)
    refine ⟨h1, fun j hj => ?_, fun j hj => ?_⟩
    · rw [h2 j fun z => hj (List.mem_cons_of_mem _ z)]
      exact getS_set_ne _ (fun z => hj (by rw [← z]; exact List.mem_cons_self)) e'
    · by_cases hm : j ∈ vs
      · exact h3 j hm
      · rcases List.mem_cons.mp hj with z | z
        · subst z
          rw [h2 j hm]
          by_cases hl : j < e'.length
          · exact getS_set _ e' hl
          · rw [setS_out _ e' hl]
            have z1 : getS e' j = .un := Classical.byContradiction fun hn => hl (getS_lt hn)
            have z2 : getS e j = .un := Classical.byContradiction fun hn => hl (h ▸ getS_lt hn)
            rw [z1, z2]
        · exact absurd z hm
theorem Stt.unwipe {vs : List Nat} {e1 e2 : Env} (S : Stt K mg T H G σ e) (h : wipeE e vs = some e1) (xG : Ext G G') (S2 : Stt K mg T H' G' (L2.wipe σ vs) e2) : Stt K mg T H' G' σ (unwipe e e2 vs) := by
  obtain ⟨_, _, _, h4⟩ := wipeE_get h
  have hl : e2.length = e.length := by rw [S2.len, wipe_length, S.len]
  obtain ⟨u1, u2, u3⟩ := unwipe_get e (vs := vs) hl
  have own : ∀ {j d}, getS (Vi.unwipe e e2 vs) j = .ow d → j ∉ vs ∧ getS e2 j = .ow d := fun {j d} q => by
    by_cases hj : j ∈ vs
    · rw [u3 j hj] at q; exact absurd q (h4 j hj d)
    · exact ⟨hj, u2 j hj ▸ q⟩
  refine ⟨u1.trans S.len, S2.sub, S2.ext, S2.new, S2.keep, fun j => ?_, fun i j a d d' hij hi hj => ?_, fun p hp => ?_⟩
  · by_cases hj : j ∈ vs
    · rw [u3 j hj]
      have s := S.slot j
      cases q : getS e j with
      | un => trivial
      | fr d => rw [q] at s; obtain ⟨v, e1, r⟩ := s; exact ⟨v, e1, r.mono xG⟩
      | ow d => exact absurd q (h4 j hj d)
    · rw [u2 j hj]
      have s := S2.slot j
      cases q : getS e2 j with
      | un => trivial
      | fr d => rw [q] at s; obtain ⟨v, e1, r⟩ := s; exact ⟨v, by rw [← wipe_out hj]; exact e1, r⟩
      | ow d => rw [q] at s; obtain ⟨a, e1, r⟩ := s; exact ⟨a, by rw [← wipe_out hj]; exact e1, r⟩
  · obtain ⟨i1, i2⟩ := own hi
    obtain ⟨j1, j2⟩ := own hj
    rw [← wipe_out i1 (σ := σ), ← wipe_out j1 (σ := σ)]
    exact S2.apart i j a d d' hij i2 j2
  · obtain ⟨q1, d, q2⟩ := S2.ios p hp
    have hj : p.1 ∉ vs := fun z => by
      obtain ⟨_, d0, q0⟩ := S.ios p hp
      exact h4 _ z d0 q0
    exact ⟨by rw [← wipe_out hj (σ := σ)]; exact q1, d, by rw [u2 _ hj]; exact q2⟩
theorem ownAt_wipe {vs : List Nat} {e1 : Env} {a : Addr} (h : wipeE e vs = some e1) (q : OwnAt (L2.wipe σ vs) e1 a) : OwnAt σ e a := by
  obtain ⟨j, d, h1, h2⟩ := q
  obtain ⟨_, w2, w3, _⟩ := wipeE_get h
  by_cases hj : j ∈ vs
  · rw [w3 j hj] at h1; cases h1
  · exact ⟨j, d, w2 j hj ▸ h1, by rw [← wipe_out hj (σ := σ)]; exact h2⟩
/-- two states that differ in the slots vs alone are alike without them -/
theorem wipe_eq {σ σ' : St} : ∀ {vs : List Nat}, σ'.length = σ.length → (∀ j, j ∉ vs → σ'[j]? = σ[j]?) → L2.wipe σ' vs = L2.wipe σ vs := by
  intro vs hl h
  have key : ∀ {vs : List Nat} {σ : St} {j : Nat}, j ∈ vs → j < σ.length → (L2.wipe σ vs)[j]? = some none := by
    intro vs
    induction vs with
    | nil => intro σ j hj; cases hj
    | cons v vs ih =>
      intro σ j hj hlt
      unfold L2.wipe
      by_cases hv : v = j
      · subst hv; rw [List.getElem?_set_self (by rw [wipe_length]; exact hlt)]
      · rw [List.getElem?_set_ne hv]
        rcases List.mem_cons.mp hj with z | z
        · exact absurd z.symm hv
        · exact ih z hlt
  apply List.ext_getElem?
  intro j
  by_cases hj : j ∈ vs
  · by_cases hlt : j < σ.length
    · rw [key hj hlt, key hj (by rw [hl]; exact hlt)]
    · rw [List.getElem?_eq_none (by rw [wipe_length]; omega), List.getElem?_eq_none (by rw [wipe_length]; omega)]
  · rw [wipe_out hj, wipe_out hj]
    exact h j hj
end
end Vi
end
section
set_option maxHeartbeats 4000000
namespace Vi
open PySem L2

section
variable {X : Cx} {k : Nat} {N : List Str} {ro : List Nat} {sc : Scope} {T : Ent}
theorem run_g {f : Addr} {fd : FuncData} {ps : List Str} {F : Fn} {io : List Bool} {pins : List (Addr × Obj)} {σ : St} {H : Hp} {s : Shared} {Q : VK} {args : Args} {us : List Value} {vs : List V} (V : Vx X k N ro sc T)
    (P : FnG X.prog X.w X.K X.mg X.base k f fd ps F io) (I : Inv X pins σ H s) (hb : BindsTo s fd args (ps.zip us)) (r : Vals vs us) (h : spD X.K X.mg F io vs H Q) : codeAny (model X.prog X.w) X.A (.call (.ref f) args) (fun r s' => match r with | .ok (.ret u) => EP X pins σ Q u s' | .ok _ => False | .error e => X.xe e s') s := by
  refine codeAny_mono (P.run X.A X.stack s H args us vs Q V.room V.guards I.env0 hb r h) fun r s' hq => ?_
  cases r with
  | error e =>
    obtain ⟨_, _, _, _, _, _, _, _, _, _, _, _, z⟩ := hq
    exact z.elim
  | ok fl =>
    cases fl with
    | ret u => exact I.after hq
    | next => exact False.elim hq
    | brk => exact False.elim hq
    | cont => exact False.elim hq
theorem spD_len {K : PySem.W.Frag} {mg : Str → Option Value} {F : Fn} {io : List Bool} {vs : List V} {H : Hp} {Q : VK} (h : spD K mg F io vs H Q) : vs.length = io.length := by
  obtain ⟨G, ds, _, a, _⟩ := h
  have key : ∀ {io : List Bool} {vs : List V} {ds : List D}, ArgsR K mg H G io vs ds → vs.length = io.length := by
    intro io
    induction io with
    | nil =>
      intro vs ds a
      cases vs with
      | nil => rfl
      | cons _ _ => cases ds <;> exact a.elim
    | cons b io ih =>
      intro vs ds a
      cases vs with
      | nil => cases b <;> cases ds <;> exact a.elim
      | cons v vs =>
        cases ds with
        | nil => cases b <;> exact a.elim
        | cons d ds => cases b <;> exact congrArg Nat.succ (ih a.2)
  exact key a
/-- a call, by the promise alone -/
theorem n_call0 {F : Fn} {as : List E} {xs : List Expr} {nm : Str} {p pos : Pos} (V : Vx X k N ro sc T) (nd : ∃ f fd ps, X.mg nm = some (.ref f) ∧ PySem.W.keepIn X.K (.ref f) = true ∧ ps.length = (as.map isIov).length ∧ Binds X.K fd ps [] ∧ FnG X.prog X.w X.K X.mg X.base k f fd ps F (as.map isIov)) (ha : PA X xs (TR X T WE0 as)) (hs : notStars xs = true) (gl : Gl X nm) (ok : okName nm = true)
    (hnil : xs = [] → as = []) : PE X (.Call (.Name nm p) xs [] pos) (fun σ H Q => TR X T WE0 as σ H fun vs H1 => spD X.K X.mg F (as.map isIov) vs H1 Q) := by
  simp only [okName, Bool.and_eq_true, Bool.not_eq_true'] at ok
  obtain ⟨f, fd, ps, hm, hk, hl, hb, P⟩ := nd
  refine ⟨fun pins s σ H Q I h => ?_⟩
  refine wpAny_Call_Name_kw (ld_glob I gl hm ?_ ok.1.1)
  have go : ∀ us s1, AP X pins σ (fun vs H1 => spD X.K X.mg F (as.map isIov) vs H1 Q) us s1 → wpAny (model X.prog X.w) X.A (PySem.call (.ref f) us) (EP X pins σ Q) X.xe s1 := fun us s1 ⟨vs, H1, I1, r, q⟩ => by
    have l : (us ++ []).length = ps.length := by rw [List.append_nil, ← r.length, spD_len q, hl]
    have hb1 := hb s1 us I1.kIn l
    rw [List.append_nil] at hb1
    refine wpAny_call (codeAny_mono (run_g V P I1 hb1 r q) fun r s' hq => ?_)
    exact hq
  cases xs with
  | nil =>
    refine PySem.W.callWith_K0 I.kIn hk ?_
    have h3 : AP X pins σ (fun vs H1 => spD X.K X.mg F (as.map isIov) vs H1 Q) [] s := by
      have z := hnil rfl
      subst z
      obtain ⟨G, e, S, h⟩ := h
      simp only [evs] at h
      exact ⟨[], H, I, .nil, h [] H G S (Ext.refl G) trivial⟩
    exact go [] s h3
  | cons x xs =>
    have hs' : notStar x = true ∧ notStars xs = true := by simpa only [notStars, List.all_cons, Bool.and_eq_true] using hs
    refine PySem.W.callWith_K (h₀ := X.base) I.ok.mod.kin hk (thn (ha.run pos pins s σ H _ I h) fun us s1 q => ?_) (star1 hs'.1) ((stars hs'.2).2 pos)
    exact ⟨(let ⟨_, _, I1, _⟩ := q; I1.kIn), go us s1 q⟩
theorem n_call {F : Fn} {as : List E} {xs : List Expr} {nm : Str} {p pos : Pos} (V : Vx X k N ro sc T) (nd : NeedOk X.prog X.w X.K X.mg X.base k (.fn nm F (as.map isIov))) (ha : PA X xs (TR X T WE0 as)) (hs : notStars xs = true) (gl : Gl X nm) (ok : okName nm = true)
    (n : (iovIx as).Nodup) (hnil : xs = [] → as = []) : PE X (.Call (.Name nm p) xs [] pos) (TV X T WE0 (ev (.call nm F as))) := by
  rcases nd with nd | nd
  · refine ⟨fun pins s σ H Q I h => ?_⟩
    obtain ⟨G, e, S, h⟩ := h
    simp only [ev] at h
    have h := h.bind
    exfalso
    cases q : evs as e with
    | no => rw [q] at h; exact h
    | ex x e' => rw [q] at h; exact h
    | ok ds e' =>
      rw [q] at h
      have h : RW WE0 (callF F as ds e') _ := h
      unfold callF at h
      cases q2 : fillIo as ds e' with
      | none => rw [q2] at h; exact h
      | some dl => rw [q2] at h; simp only [nd] at h; exact h
  · refine pe_imp (n_call0 V nd ha hs gl ok hnil) fun σ H Q ⟨G, e, S, h⟩ => ?_
    simp only [ev] at h
    refine ⟨G, e, S, h.bind.mono fun ds e1 h1 vs H1 G1 S1 x1 r1 => ?_⟩
    exact call_sp we0 S1 r1 n (h1.mono fun d e' q v H' G' S' x' r' => q v H' G' S' (x1.trans x') r')
theorem Vals.permL : ∀ {perm : List Nat} {vs vl : List V} {us : List Value}, Vals vs us → permL perm vs = some vl → ∃ ul, permL perm us = some ul ∧ Vals vl ul
  | [], vs, vl, us, _, h => by cases h; exact ⟨[], rfl, .nil⟩
  | i :: r, vs, vl, us, hr, h => by
    unfold Vi.permL at h
    split at h
    · rename_i d l h1 h2
      cases h
      obtain ⟨u, hu, ru⟩ := hr.get h1
      obtain ⟨ul, q1, q2⟩ := Vals.permL hr h2
      refine ⟨u :: ul, ?_, .cons ru q2⟩
      unfold Vi.permL
      rw [hu, q1]
    · cases h
/-- keywords, against their names and values -/
def kwNames (kws : List Keyword) : List (Option Str) := kws.map (·.arg)
theorem kw_names {env : PySem.Env} : ∀ {kws : List Keyword} {ks : List Str} (pos : Pos), kwNames kws = ks.map some → (backToKw pos (keywordEach kws env)).all (·.1.isSome) = true ∧ (backToKw pos (keywordEach kws env)).filterMap (·.1) = ks ∧ (backToKw pos (keywordEach kws env)).any (·.1.isNone) = false
  | [], [], _, _ => ⟨rfl, rfl, rfl⟩
  | [], _ :: _, _, h => by simp [kwNames] at h
  | _ :: _, [], _, h => by simp [kwNames] at h
  | ⟨nm, e, kp⟩ :: kws, k :: ks, pos, h => by
    simp only [kwNames, List.map_cons, List.cons.injEq] at h
    obtain ⟨h1, h2⟩ := h
    subst h1
    obtain ⟨q1, q2, q3⟩ := kw_names (env := env) pos (show kwNames kws = ks.map some from h2)
    refine ⟨?_, ?_, ?_⟩
    · show (true && (backToKw pos (keywordEach kws env)).all (·.1.isSome)) = true
      rw [q1]; rfl
    · show k :: (backToKw pos (keywordEach kws env)).filterMap (·.1) = k :: ks
      rw [q2]
    · show (false || (backToKw pos (keywordEach kws env)).any (·.1.isNone)) = false
      rw [q3]; rfl
theorem pk_imp {kws : List Keyword} {t t' : TA} (h : PK X kws t) (i : ∀ σ H Q, t' σ H Q → t σ H Q) : PK X kws t' := ⟨fun pos pins s σ H Q I q => h.run pos pins s σ H Q I (i σ H Q q)⟩
theorem k_nil : PK X [] (TL X T WE0 (evs [])) := pk_imp pk_nil fun σ H Q ⟨G, e, S, h⟩ => by
  simp only [evs] at h
  exact h [] H G S (Ext.refl G) .nil
theorem k_cons {a : E} {as : List E} {x : Expr} {nm : Option Str} {kp : Pos} {kws : List Keyword} (ha : PE X x (TV X T WE0 (ev a))) (hr : PK X kws (TL X T WE0 (evs as))) : PK X (⟨nm, x, kp⟩ :: kws) (TL X T WE0 (evs (a :: as))) := by
  refine pk_imp (pk_cons ha hr) fun σ H Q ⟨G, e, S, h⟩ => ?_
  simp only [evs] at h
  refine tV_then S h.bind fun d e1 v H1 G1 h1 S1 x1 r1 => tL_then S1 h1.bind fun ds e2 vs H2 G2 h2 S2 x2 r2 => ?_
  exact h2 (v :: vs) H2 G2 S2 (x1.trans x2) (.cons (r1.mono x2) r2)
theorem n_callk {F : Fn} {as ws : List E} {xs : List Expr} {kws : List Keyword} {ks : List Str} {perm : List Nat} {nm : Str} {p pos : Pos} (V : Vx X k N ro sc T) (nd : NeedOk X.prog X.w X.K X.mg X.base k (.fnk nm F as.length ks perm))
    (ha : PA X xs (TL X T WE0 (evs as))) (hw : PK X kws (TL X T WE0 (evs ws))) (hs : notStars xs = true) (gl : Gl X nm) (ok : okName nm = true) (hk' : kwNames kws = ks.map some) (hnil : xs = [] → as = []) (hl1 : ws.length = ks.length) :
    PE X (.Call (.Name nm p) xs kws pos) (TV X T WE0 (ev (.callk nm F ks perm as ws))) := by
  simp only [okName, Bool.and_eq_true, Bool.not_eq_true'] at ok
  obtain ⟨f, fd, ps, hm, hk, hl, hb, P⟩ := nd
  obtain ⟨n1, n2, n3⟩ := kw_names (env := X.env) pos hk'
  have sem : ∀ σ H Q, TV X T WE0 (ev (.callk nm F ks perm as ws)) σ H Q → TL X T WE0 (evs as) σ H fun vs H1 => vs.length = as.length ∧ TL X T WE0 (evs ws) σ H1 fun zs H2 => zs.length = ws.length ∧ ∃ vl, Vi.permL perm (vs ++ zs) = some vl ∧ spD X.K X.mg F (List.replicate perm.length false) vl H2 Q := fun σ H Q ⟨G, e, S, h⟩ => by
    simp only [ev] at h
    have h := h.bind
    refine ⟨G, e, S, ?_⟩
    cases q : evs as e with
    | no => rw [q] at h; exact h
    | ex x e' => rw [q] at h; exact h
    | ok ds e1 =>
      rw [q] at h
      intro vs H1 G1 S1 x1 r1
      refine ⟨by rw [r1.length, evs_length q], G1, e1, S1, ?_⟩
      have h := RW.bind h
      cases q2 : evs ws e1 with
      | no => rw [q2] at h; exact h
      | ex x e' => rw [q2] at h; exact h
      | ok cs e2 =>
        rw [q2] at h
        intro zs H2 G2 S2 x2 r2
        refine ⟨by rw [r2.length, evs_length q2], ?_⟩
        refine callk_sp we0 S2 ((r1.mono x2).app r2) ((show RW WE0 (callK F perm (ds ++ cs) e2) _ from h).mono fun d e' q v H' G' S' x' r' => q v H' G' S' ((x1.trans x2).trans x') r')
  have go : ∀ pins σ s Q us ws' vs zs H2, Inv X pins σ H2 s → Vals vs us → Vals zs ws' → vs.length = as.length → zs.length = ws.length → (∃ vl, Vi.permL perm (vs ++ zs) = some vl ∧ spD X.K X.mg F (List.replicate perm.length false) vl H2 Q) →
      wpAny (model X.prog X.w) X.A (PySem.call (.ref f) us (ks.zip ws')) (EP X pins σ Q) X.xe s := fun pins σ s Q us ws' vs zs H2 I r rz l1 l2 ⟨vl, h1, h2⟩ => by
    obtain ⟨ul, q1, q2⟩ := Vals.permL (r.append rz) h1
    exact wpAny_call (codeAny_mono (run_g V P I (.of_eq (hb us ws' (by rw [← r.length, l1]) (by rw [← rz.length, l2, hl1]) ul q1)) q2 h2) fun r s' hq => hq)
  refine ⟨fun pins s σ H Q I h => ?_⟩
  have h := sem σ H Q h
  refine wpAny_Call_Name_kw (ld_glob I gl hm ?_ ok.1.1)
  cases xs with
  | nil =>
    have z := hnil rfl
    subst z
    refine PySem.W.callWith_KW0 (h₀ := X.base) I.ok.mod.kin hk n1 ?_ (by rw [n3]; rfl)
    obtain ⟨G, e, S, h⟩ := h
    simp only [evs] at h
    obtain ⟨_, h⟩ := h [] H G S (Ext.refl G) .nil
    refine thn (hw.run pos pins s σ H _ I h) fun us s2 ⟨zs, H2, I2, rz, l2, q2⟩ => ⟨I2.kIn, ?_⟩
    rw [n2]
    exact go pins σ s2 Q [] us [] zs H2 I2 .nil rz rfl l2 q2
  | cons x xs =>
    have hs' : notStar x = true ∧ notStars xs = true := by simpa only [notStars, List.all_cons, Bool.and_eq_true] using hs
    refine PySem.W.callWith_KW (h₀ := X.base) I.ok.mod.kin hk n1 (thn (ha.run pos pins s σ H _ I h) fun us s1 ⟨vs, H1, I1, r, l1, q⟩ => ?_) (by rw [n3, (stars hs).2 pos]; rfl) (star1 hs'.1)
    refine thn (hw.run pos pins s1 σ H1 _ I1 q) fun us2 s2 ⟨zs, H2, I2, rz, l2, q2⟩ => ⟨I2.kIn, ?_⟩
    rw [n2]
    exact go pins σ s2 Q us us2 vs zs H2 I2 r rz l1 l2 q2

theorem boot_ty {t : String} (h : tyNames.contains t = true) : bootBuiltins (Str.ofString t) = some (.type t) := by
  have c : t = "bool" ∨ t = "int" ∨ t = "str" ∨ t = "list" ∨ t = "tuple" ∨ t = "dict" := by simpa [tyNames] using h
  rcases c with rfl | rfl | rfl | rfl | rfl | rfl <;> decide +kernel
theorem ty_bn {t : String} (h : tyNames.contains t = true) : Str.ofString t ∈ bnames ∧ okName (Str.ofString t) = true := by
  have c : t = "bool" ∨ t = "int" ∨ t = "str" ∨ t = "list" ∨ t = "tuple" ∨ t = "dict" := by simpa [tyNames] using h
  rcases c with rfl | rfl | rfl | rfl | rfl | rfl <;> decide +kernel
theorem ok_ne {x : Str} (ok : okName x = true) : x ≠ "__name__" ∧ (x == ("__debug__" : Str)) = false ∧ (x == ("__classdict__" : Str)) = false := by
  simp only [okName, Bool.and_eq_true, Bool.not_eq_true'] at ok
  exact ⟨fun z => by rw [z] at ok; simp at ok, ok.1.1, ok.1.2⟩
/-- a type's name -/
def mTy (sc : Scope) (t : String) : Expr → Bool
  | .Name x _ => decide (x = Str.ofString t) && tyNames.contains t && glB sc x
  | _ => false
def mTys (sc : Scope) : List String → List Expr → Bool
  | [], [] => true
  | t :: ts, x :: xs => mTy sc t x && mTys sc ts xs
  | _, _ => false
theorem n_ty {t : String} {x : Expr} (V : Vx X k N ro sc T) (h : mTy sc t x = true) : PE X x (tC (.ty t)) := by
  unfold mTy at h
  split at h
  · rename_i x p
    simp only [Bool.and_eq_true, decide_eq_true_eq] at h
    obtain ⟨⟨h1, h2⟩, h3⟩ := h
    subst h1
    obtain ⟨b1, b2⟩ := ty_bn h2
    obtain ⟨o1, o2, o3⟩ := ok_ne b2
    exact pe_bltn (V.gl _ h3) (V.bn _ b1) (boot_ty h2) rfl o1 o2
  · cases h
theorem mTy_star {t : String} {x : Expr} (h : mTy sc t x = true) : notStar x = true := by
  unfold mTy at h
  split at h
  · rfl
  · cases h
theorem n_tys (V : Vx X k N ro sc T) : ∀ {ts : List String} {xs : List Expr}, mTys sc ts xs = true → PA X xs (fun _ H Q => Q (ts.map L2.V.ty) H)
  | [], [], _ => pa_nil
  | t :: ts, x :: xs, h => by
    simp only [mTys, Bool.and_eq_true] at h
    exact pa_imp (pa_cons (n_ty V h.1) (n_tys V h.2) (star1 (mTy_star h.1))) fun σ H Q h => h
  | [], _ :: _, h => by cases h
  | _ :: _, [], h => by cases h
def mIsi (sc : Scope) (f : Expr → Bool) (ts : List String) : Expr → Bool
  | .Call (.Name nm _) [x, y] [] _ => decide (nm = "isinstance") && glB sc nm && f x && notStar x && (match y with
    | .Tuple ys _ _ => mTys sc ts ys && Nat.blt 0 ts.length && Nat.ble ts.length 100
    | y => (match ts with | [t] => mTy sc t y | _ => false))
  | _ => false
theorem n_isi {ts : List String} {a : E} {t : Expr} {f : Expr → Bool} (V : Vx X k N ro sc T) (hf : ∀ x, f x = true → PE X x (TV X T WE0 (ev a))) (h : mIsi sc f ts t = true) : PE X t (TV X T WE0 (ev (.isi a ts))) := by
  unfold mIsi at h
  split at h
  · rename_i nm p x y pos
    simp only [Bool.and_eq_true, decide_eq_true_eq] at h
    obtain ⟨⟨⟨⟨h1, h2⟩, h3⟩, h4⟩, h5⟩ := h
    subst h1
    have hx := hf x h3
    have bn : X.mg "isinstance" = none := V.bn _ (by decide +kernel)
    split at h5
    · rename_i ys yk yp
      simp only [Bool.and_eq_true] at h5
      obtain ⟨⟨h5, h6⟩, h7⟩ := h5
      have hy : PE X (.Tuple ys yk yp) (tTup fun _ H Q => Q (ts.map L2.V.ty) H) := pe_tup (n_tys V h5)
      refine pe_imp (pe_callB (isDs_ok (ts := ts)) (V.gl _ h2) bn PyProof.Rows.boot_isinstance (pa_cons hx (pa_cons hy pa_nil) (star1 h4)) (by decide) (by decide) (star1 h4) rfl) fun σ H Q ⟨G, e, S, h⟩ => ?_
      simp only [ev] at h
      refine tV_then S h.bind fun dx e1 v H1 G1 h1 S1 x1 r1 => ⟨by rw [List.length_map]; exact Nat.le_trans (Nat.le_of_ble_eq_true h7) (by decide), fun q hq => ?_⟩
      obtain ⟨dz, hz, q1⟩ := h1.opt
      obtain ⟨b, hb, rfl⟩ := Option.map_eq_some_iff.mp hz
      have S2 := S1.made0 (o := .tup (ts.map L2.V.ty)) hq
      refine ⟨v, q, dx, b, rfl, upd_same, hb, ?_, G1, S2.sub, r1, q1 _ _ G1 S2 x1 (.bl b)⟩
      cases ts with
      | nil => cases h6
      | cons t ts =>
        unfold isDs at hb
        obtain ⟨c, hc, _⟩ := Option.bind_eq_some_iff.mp hb
        exact isD_ty hc
    · split at h5
      · rename_i t
        refine pe_imp (pe_callB (isD1_ok (t := t)) (V.gl _ h2) bn PyProof.Rows.boot_isinstance (pa_cons hx (pa_cons (n_ty V h5) pa_nil (star1 (mTy_star h5))) (star1 h4)) (by decide) (by decide) (star1 h4) (by rw [star1 (mTy_star h5)]; rfl)) fun σ H Q ⟨G, e, S, h⟩ => ?_
        simp only [ev] at h
        refine tV_then S h.bind fun dx e1 v H1 G1 h1 S1 x1 r1 => ?_
        obtain ⟨dz, hz, q1⟩ := h1.opt
        obtain ⟨b, hb, rfl⟩ := Option.map_eq_some_iff.mp hz
        unfold isDs at hb
        obtain ⟨c, hc, h8⟩ := Option.bind_eq_some_iff.mp hb
        have e8 : c = b := by
          cases c with
          | true => simpa using h8
          | false => simpa [isDs] using h8
        subst e8
        exact ⟨v, dx, c, rfl, hc, G1, S1.sub, r1, q1 _ H1 G1 S1 x1 (.bl c)⟩
      · cases h5
  · cases h

def notSup : Expr → Bool
  | .Call _ [] [] _ => false
  | _ => true
theorem base_sup {o : Expr} {nm : Str} {env : PySem.Env} (h : notSup o = true) : attributeBase o nm env (eval o env) = eval o env := by
  cases o <;> first
    | rfl
    | skip
  rename_i f as kws p
  cases as with
  | nil =>
    cases kws with
    | nil => cases h
    | cons _ _ => cases f <;> rfl
  | cons _ _ => cases f <;> rfl
theorem mth_slot {m : Mth} {nm : Str} {id : String} (h : mtId m = some (nm, id)) : PySem.Slot "str" nm id ∧ typeOf (.builtin id) = pure (.type "method_descriptor") := by
  cases m <;> first
    | (cases h; done)
    | skip
  all_goals simp only [mtId, Option.some.injEq, Prod.mk.injEq] at h
  all_goals obtain ⟨rfl, rfl⟩ := h
  · exact ⟨F.slot_str_join, F.type_str_join⟩
  · exact ⟨F.slot_str_split, F.type_str_split⟩
  · exact ⟨F.slot_str_startswith, F.type_str_startswith⟩
  · exact ⟨F.slot_str_upper, F.type_str_upper⟩
theorem n_mth0 {m : Mth} {nm : Str} {id : String} {a : E} {o : Expr} {ap pos : Pos} (hm : mtId m = some (nm, id)) (ha : PE X o (TV X T WE0 (ev a))) (hs : notSup o = true) (hl : (ap.endLine == pos.line) = true) :
    PE X (.Call (.Attribute o nm ap) [] [] pos) (TV X T WE0 (ev (.mth m a []))) := by
  obtain ⟨s1, s2⟩ := mth_slot hm
  refine pe_imp (pe_m0 s1 s2 (mt_ok hm) ha (base_sup hs) hl) fun σ H Q ⟨G, e, S, h⟩ => ?_
  simp only [ev] at h
  refine tV_then S h.bind fun dx e1 v H1 G1 h1 S1 x1 r1 => ?_
  cases r1 <;> first
    | exact h1.elim
    | skip
  rename_i z
  simp only [evs] at h1
  obtain ⟨dz, hz, q⟩ := (RW.bind h1).opt
  exact ⟨⟨z, rfl⟩, .str z, [], dz, hz, ⟨T, G1, σ, e1, S1, .cons (.str z) .nil, fun u H' G' S' _ x' r' => q u H' G' S' (x1.trans x') r'⟩⟩
theorem n_mth1 {m : Mth} {nm : Str} {id : String} {a b : E} {o y : Expr} {ap pos : Pos} (hm : mtId m = some (nm, id)) (ha : PE X o (TV X T WE0 (ev a))) (hb : PE X y (TV X T WE0 (ev b))) (hy : notStar y = true) (hs : notSup o = true) (hl : (ap.endLine == pos.line) = true) :
    PE X (.Call (.Attribute o nm ap) [y] [] pos) (TV X T WE0 (ev (.mth m a [b]))) := by
  obtain ⟨s1, s2⟩ := mth_slot hm
  refine pe_imp (pe_m1 s1 s2 (mt_ok hm) ha hb (star1 hy) (base_sup hs) hl) fun σ H Q ⟨G, e, S, h⟩ => ?_
  simp only [ev] at h
  refine tV_then S h.bind fun dx e1 v H1 G1 h1 S1 x1 r1 => ?_
  cases r1 <;> first
    | exact h1.elim
    | skip
  rename_i z
  refine ⟨⟨z, rfl⟩, ?_⟩
  simp only [evs] at h1
  refine tV_then S1 (RW.bind (RW.bind h1)) fun dy e2 w H2 G2 h2 S2 x2 r2 => ?_
  obtain ⟨dz, hz, q⟩ := (RW.bind h2).opt
  exact ⟨.str z, [dy], dz, hz, ⟨T, G2, σ, e2, S2, .cons (.str z) (.cons r2 .nil), fun u H' G' S' _ x' r' => q u H' G' S' ((x1.trans x2).trans x') r'⟩⟩
end
end Vi
end
section
set_option maxHeartbeats 4000000
namespace Vi
open PySem L2

section
variable {X : Cx} {k : Nat} {N : List Str} {ro : List Nat} {sc : Scope} {T : Ent} {σ : St} {H : Hp}
/-- what a slot holds: known, or its own list -/
theorem slot_at {G : Hp} {e : Env} {i : Nat} (S : Stt X.K X.mg T H G σ e) (h : hasS i e = true) : ∃ v, σ[i]? = some (some v) := by
  have s := S.slot i
  unfold hasS at h
  cases q : getS e i with
  | un => rw [q] at h; cases h
  | fr d => rw [q] at s; obtain ⟨v, e1, _⟩ := s; exact ⟨v, e1⟩
  | ow d => rw [q] at s; obtain ⟨a, e1, _⟩ := s; exact ⟨_, e1⟩
/-- what is looked at, behind more -/
theorem slot_pk {G : Hp} {e : Env} {i : Nat} {d : D} {v : L2.V} (S : Stt X.K X.mg T H G σ e) (h : pkS i e = some d) (hv : σ[i]? = some (some v)) :
    Rep X.K X.mg G v d ∨ ∃ a vs ds, v = .ref a ∧ d = .lst ds ∧ H a = some (.lst vs) ∧ Reps X.K X.mg G vs ds := by
  have s := S.slot i
  unfold pkS at h
  cases q : getS e i with
  | un => rw [q] at h; cases h
  | fr d0 =>
    rw [q] at h s; cases h
    obtain ⟨w, e1, r⟩ := s
    rw [hv] at e1; cases e1
    exact .inl r
  | ow d0 =>
    rw [q] at h s
    obtain ⟨a, e1, g, _, o⟩ := s
    rw [hv] at e1; cases e1
    rcases o with ⟨vs, ds, z, h1, r⟩ | ⟨kvs, ds, z, h1, r⟩
    · subst z; cases h; exact .inr ⟨a, vs, ds, rfl, rfl, h1, r⟩
    · subst z; cases h
theorem n_pix {i : Nat} {b : E} {x y : Expr} {pos : Pos} (hx : PE X x (tVar i)) (hb : PE X y (TV X T WE0 (ev b))) (hs : notSlice y = true) : PE X (.Subscript x y pos) (TV X T WE0 (ev (.pix i b))) := by
  have hp : PlainIx y := fun o i => by
    cases y <;> first
      | rfl
      | cases hs
  refine pe_imp (pe_ix (ix_list.or ixD_ok) hx hb hp) fun σ H Q ⟨G, e, S, h⟩ => ?_
  simp only [ev] at h
  cases q0 : hasS i e with
  | false => rw [q0] at h; exact h.elim
  | true =>
    rw [q0] at h
    obtain ⟨v, hv⟩ := slot_at S q0
    refine ⟨v, hv, tV_then S (RW.bind h) fun dy e2 w H2 G2 h2 S2 x2 r2 => ?_⟩
    obtain ⟨dz, hz, q⟩ := h2.opt
    obtain ⟨dx, h3, h4⟩ := Option.bind_eq_some_iff.mp hz
    rcases slot_pk S2 h3 hv with r | ⟨a, vs, ds, rfl, rfl, ha, r⟩
    · exact .inr ⟨dx, dy, dz, h4, G2, S2.sub, r, r2, fun u r' => q u H2 G2 S2 x2 r'⟩
    · cases r2 <;> first
        | (simp [getD] at h4; done)
        | skip
      obtain ⟨j, h5, h6, h7⟩ := ixD_atI r.length h4
      obtain ⟨u, hu, ru⟩ := r.get h6
      exact .inl ⟨_, _, _, u, rfl, rfl, .inl (.inl ha), h7 u hu, q u H2 G2 S2 x2 ru⟩
theorem n_plen {i : Nat} {x : Expr} {p pos : Pos} (V : Vx X k N ro sc T) (hx : PE X x (tVar i)) (hs : notStar x = true) (gl : glB sc "len" = true) : PE X (.Call (.Name "len" p) [x] [] pos) (TV X T WE0 (ev (.plen i))) := by
  refine pe_imp (pe_callB call_len (V.gl _ gl) (V.bn _ (by decide +kernel)) PySem.boot_len (pa_cons hx pa_nil (star1 hs)) (by decide) (by decide) (star1 hs) rfl) fun σ H Q ⟨G, e, S, h⟩ => ?_
  simp only [ev] at h
  obtain ⟨dz, hz, q⟩ := h.opt
  obtain ⟨dx, h3, h4⟩ := Option.bind_eq_some_iff.mp hz
  have hh : hasS i e = true := by
    unfold pkS at h3
    unfold hasS
    cases z : getS e i with
    | un => rw [z] at h3; cases h3
    | fr d => rfl
    | ow d => rfl
  obtain ⟨v, hv⟩ := slot_at S hh
  refine ⟨v, hv, ?_⟩
  rcases slot_pk S h3 hv with r | ⟨a, vs, ds, rfl, rfl, ha, r⟩
  · cases r with
    | lst h1 r1 =>
      cases h4
      rw [← r1.length] at q
      exact ⟨_, _, rfl, .inl ⟨_, .inl (.inl (S.sub _ _ h1)), rfl⟩, q _ H G S (Ext.refl G) (.int _)⟩
    | tup h1 r1 =>
      cases h4
      rw [← r1.length] at q
      exact ⟨_, _, rfl, .inr ⟨_, SqT.mono S.sub h1, rfl⟩, q _ H G S (Ext.refl G) (.int _)⟩
    | str z =>
      simp only [biD] at h4
      split at h4
      · rename_i hz'
        cases h4
        exact ⟨_, _, rfl, ⟨len_line hz', rfl⟩, q _ H G S (Ext.refl G) (.int _)⟩
      · cases h4
    | scr h1 =>
      cases h4
      rename_i a ns
      rw [← List.length_map (f := L2.V.int)] at q
      exact ⟨_, _, rfl, .inl ⟨_, SqL.mono S.sub h1.sq, rfl⟩, q _ H G S (Ext.refl G) (.int _)⟩
    | _ => simp [biD] at h4
  · cases h4
    rw [← r.length] at q
    exact ⟨_, _, rfl, .inl ⟨_, .inl (.inl ha), rfl⟩, q _ H G S (Ext.refl G) (.int _)⟩

/-- = and /= with an own list on the left -/
def rPl (K : PySem.W.Frag) (mg : Str → Option Value) (c : Cop) : R2 := fun x y H Q => rC K mg c x y H Q ∨ ∃ a vs ds dy b G, x = .ref a ∧ H a = some (.lst vs) ∧ Ext G H ∧ Reps K mg G vs ds ∧ Rep K mg G y dy ∧ cmpD c (.lst ds) dy = some b ∧ Q (.bl b) H
def isEqC : Cop → Bool
  | .eq => true
  | .ne => true
  | _ => false
theorem dp_own {K : PySem.W.Frag} {mg : Str → Option Value} {G H : Hp} {a : Addr} {vs : List L2.V} {ds : List D} (e : Ext G H) (ha : H a = some (.lst vs)) (r : Reps K mg G vs ds) (p : (D.lst ds).pure = true) : Dp K H (.ref a) (D.lst ds).py := by
  simp only [D.py]
  exact .lst (.inl (.inl ha)) (Reps.dp e ds vs (by simpa only [D.pure] using p) r)
theorem opPl (hu : X.A.units + 65 < cLine) {c : Cop} (h : isEqC c = true) : OpR X (compareOp (copOf c)) (rPl X.K X.mg c) := by
  intro pins s σ H x y v u Q I rx ry hq
  rcases hq with hq | ⟨a, vs, ds, dy, b, G, rfl, ha, eG, r, ry', hb, q⟩
  · exact opC hu c pins s σ H x y v u Q I rx ry hq
  · have key : ∀ b', eqD (.lst ds) dy = some b' → ∃ d e, Dp X.K H (.ref a) d ∧ Dp X.K H y e ∧ SeqAt.shaped d = true ∧ SeqAt.shaped e = true ∧ PyData.eqv d e = b' := fun b' hb' => by
      unfold eqD at hb'
      split at hb'
      · rename_i z; cases z
      · rename_i z; cases z
      · split at hb'
        · rename_i c
          cases hb'
          rw [Bool.and_eq_true] at c
          obtain ⟨s1, p1⟩ := flat_shaped c.1
          obtain ⟨s2, p2⟩ := flat_shaped c.2
          exact ⟨_, _, dp_own eG ha r p1, ry'.dp eG _ y p2, s1, s2, py_eqv _ _ p1 p2⟩
        · cases hb'
    cases c <;> first
      | (cases h; done)
      | skip
    · obtain ⟨d, e, d1, d2, s1, s2, z⟩ := key b hb
      subst z
      exact op_eqD (by omega) pins s σ H _ y v u Q I rx ry ⟨d, e, d1, d2, s1, s2, q⟩
    · obtain ⟨b', hb', rfl⟩ := Option.map_eq_some_iff.mp (show (eqD (.lst ds) dy).map (fun b => !b) = some b from hb)
      obtain ⟨d, e, d1, d2, s1, s2, z⟩ := key b' hb'
      subst z
      exact op_neD (by omega) pins s σ H _ y v u Q I rx ry ⟨d, e, d1, d2, s1, s2, q⟩
theorem pcmp_go {c : Cop} {i : Nat} {b : E} {Q : VK} {kk : D → Env → Prop} {G : Hp} {e : Env} (S : Stt X.K X.mg T H G σ e) (h : RW WE0 (ev (.pcmp c i b) e) kk) (hk : ∀ b e' H' G', kk (.bl b) e' → Stt X.K X.mg T H' G' σ e' → Ext G G' → Q (.bl b) H') :
    tOp (rPl X.K X.mg c) (tVar i) (TV X T WE0 (ev b)) σ H Q := by
  simp only [ev] at h
  cases q0 : hasS i e with
  | false => rw [q0] at h; exact h.elim
  | true =>
    rw [q0] at h
    obtain ⟨v, hv⟩ := slot_at S q0
    refine ⟨v, hv, tV_then S (RW.bind h) fun dy e2 w H2 G2 h2 S2 x2 r2 => ?_⟩
    obtain ⟨dz, hz, q⟩ := h2.opt
    obtain ⟨bz, hz', rfl⟩ := Option.map_eq_some_iff.mp hz
    obtain ⟨dx, h3, h4⟩ := Option.bind_eq_some_iff.mp hz'
    rcases slot_pk S2 h3 hv with r | ⟨a, vs, ds, rfl, rfl, ha, r⟩
    · exact .inl ⟨dx, dy, bz, h4, G2, S2.sub, r, r2, hk bz e2 H2 G2 q S2 x2⟩
    · exact .inr ⟨a, vs, ds, dy, bz, G2, rfl, ha, S2.sub, r, r2, h4, hk bz e2 H2 G2 q S2 x2⟩
theorem n_pcmp {c : Cop} {i : Nat} {b : E} {x y : Expr} {pos : Pos} (V : Vx X k N ro sc T) (hc : isEqC c = true) (hx : PE X x (tVar i)) (hb : PE X y (TV X T WE0 (ev b))) (hm : behindInMarks (copOf c) y = false) :
    PE X (.Compare x [copOf c] [y] pos) (TV X T WE0 (ev (.pcmp c i b))) ∧ PT X (.Compare x [copOf c] [y] pos) (TW X T WE0 (ev (.pcmp c i b))) :=
  ⟨pe_imp (pe_cmpR (opPl V.units hc) hx hb hm) fun σ H Q ⟨G, e, S, h⟩ => pcmp_go S h fun b e' H' G' q S' x' => q _ H' G' S' x' (.bl b),
    pt_imp (pt_cmpR (opPl V.units hc) hx hb hm) fun σ H Q ⟨G, e, S, h⟩ => pcmp_go S h fun b e' H' G' ⟨c, ec, q⟩ S' x' => by cases ec; exact ⟨b, rfl, q H' G' S' x'⟩⟩

/-- in, not in: an own list on the right -/
def rPr (K : PySem.W.Frag) (mg : Str → Option Value) (c : Cop) : R2 := fun x y H Q => rC K mg c x y H Q ∨ ∃ a vs ds dx b G, y = .ref a ∧ H a = some (.lst vs) ∧ Ext G H ∧ Reps K mg G vs ds ∧ Rep K mg G x dx ∧ cmpD c dx (.lst ds) = some b ∧ Q (.bl b) H
def isInC : Cop → Bool
  | .inn => true
  | .nin => true
  | _ => false
theorem opPr (hu : X.A.units + 65 < cLine) {c : Cop} (h : isInC c = true) : OpR X (compareOp (copOf c)) (rPr X.K X.mg c) := by
  intro pins s σ H x y v u Q I rx ry hq
  rcases hq with hq | ⟨a, vs, ds, dx, b, G, rfl, ha, eG, r, rx', hb, q⟩
  · exact opC hu c pins s σ H x y v u Q I rx ry hq
  · cases c <;> first
      | (cases h; done)
      | skip
    all_goals simp only [cmpD] at hb
    all_goals split at hb <;> first
      | (cases hb; done)
      | skip
    all_goals rename_i c
    all_goals cases hb
    all_goals rw [Bool.and_eq_true] at c
    all_goals obtain ⟨s1, p1⟩ := flat_shaped c.1
    all_goals obtain ⟨s2, p2⟩ := flat_shaped c.2
    all_goals have d2 := dp_own eG ha r p2
    all_goals simp only [D.py] at d2 s2
    all_goals have p3 : D.pures ds = true := by simpa only [D.pure] using p2
    · exact op_inD hu pins s σ H x _ v u Q I rx ry ⟨_, _, rx'.dp eG dx x p1, d2, s1, s2, by rw [memD_any dx ds p1 ds p3]; exact q⟩
    · exact op_notInD hu pins s σ H x _ v u Q I rx ry ⟨_, _, rx'.dp eG dx x p1, d2, s1, s2, by rw [memD_any dx ds p1 ds p3]; exact q⟩
theorem pin_go {c : Cop} {i : Nat} {b : E} {Q : VK} {kk : D → Env → Prop} {G : Hp} {e : Env} (S : Stt X.K X.mg T H G σ e) (h : RW WE0 (ev (.pin c b i) e) kk) (hk : ∀ b e' H' G', kk (.bl b) e' → Stt X.K X.mg T H' G' σ e' → Ext G G' → Q (.bl b) H') :
    tOp (rPr X.K X.mg c) (TV X T WE0 (ev b)) (tVar i) σ H Q := by
  simp only [ev] at h
  refine tV_then S (RW.bind h) fun dy e2 w H2 G2 h2 S2 x2 r2 => ?_
  obtain ⟨dz, hz, q⟩ := h2.opt
  obtain ⟨bz, hz', rfl⟩ := Option.map_eq_some_iff.mp hz
  obtain ⟨dx, h3, h4⟩ := Option.bind_eq_some_iff.mp hz'
  have hh : hasS i e2 = true := by
    unfold pkS at h3
    unfold hasS
    cases z : getS e2 i with
    | un => rw [z] at h3; cases h3
    | fr d => rfl
    | ow d => rfl
  obtain ⟨v, hv⟩ := slot_at S2 hh
  refine ⟨v, hv, ?_⟩
  rcases slot_pk S2 h3 hv with r | ⟨a, vs, ds, rfl, rfl, ha, r⟩
  · exact .inl ⟨dy, dx, bz, h4, G2, S2.sub, r2, r, hk bz e2 H2 G2 q S2 x2⟩
  · exact .inr ⟨a, vs, ds, dy, bz, G2, rfl, ha, S2.sub, r, r2, h4, hk bz e2 H2 G2 q S2 x2⟩
theorem n_pin {c : Cop} {i : Nat} {b : E} {x y : Expr} {pos : Pos} (V : Vx X k N ro sc T) (hc : isInC c = true) (hx : PE X x (tVar i)) (hb : PE X y (TV X T WE0 (ev b))) (hm : behindInMarks (copOf c) x = false) :
    PE X (.Compare y [copOf c] [x] pos) (TV X T WE0 (ev (.pin c b i))) ∧ PT X (.Compare y [copOf c] [x] pos) (TW X T WE0 (ev (.pin c b i))) :=
  ⟨pe_imp (pe_cmpR (opPr V.units hc) hb hx hm) fun σ H Q ⟨G, e, S, h⟩ => pin_go S h fun b e' H' G' q S' x' => q _ H' G' S' x' (.bl b),
    pt_imp (pt_cmpR (opPr V.units hc) hb hx hm) fun σ H Q ⟨G, e, S, h⟩ => pin_go S h fun b e' H' G' ⟨c, ec, q⟩ S' x' => by cases ec; exact ⟨b, rfl, q H' G' S' x'⟩⟩
/-- a slice of an own list -/
theorem n_psl {i : Nat} {b c : E} {x : Expr} {lo hi : Option Expr} {p2 pos : Pos} (hx : PE X x (tVar i)) (hl : EndOk X T WE0 b lo) (hh : EndOk X T WE0 c hi) : PE X (.Subscript x (.Slice lo hi none p2) pos) (TV X T WE0 (ev (.psl i b c))) := by
  refine pe_imp (pe_slice (sl_list.or slD_ok) hx (n_end hl) (n_end hh)) fun σ H Q ⟨G, e, S, h⟩ => ?_
  simp only [ev] at h
  cases q0 : hasS i e with
  | false => rw [q0] at h; exact h.elim
  | true =>
    rw [q0] at h
    obtain ⟨v, hv⟩ := slot_at S q0
    refine ⟨v, hv, G, e, S, ?_⟩
    refine (RW.bind h).mono fun dl e2 h2 => ?_
    obtain ⟨ol, q3, h2⟩ := h2.bind.opt
    refine ⟨ol, q3, fun H2 G2 S2 x2 => ⟨G2, e2, S2, h2.bind.mono fun dh e3 h3 => ?_⟩⟩
    obtain ⟨oh, q4, h3⟩ := h3.bind.opt
    obtain ⟨dz, hz, q⟩ := h3.opt
    obtain ⟨dx, h5, h6⟩ := Option.bind_eq_some_iff.mp hz
    refine ⟨oh, q4, fun H3 G3 S3 x3 => ?_⟩
    rcases slot_pk S3 h5 hv with r | ⟨a, vs, ds, rfl, rfl, ha, r⟩
    · exact .inr ⟨dx, dz, h6, ⟨T, G3, σ, e3, S3, .cons r .nil, fun u H' G' S' _ x' r' => q u H' G' S' ((x2.trans x3).trans x') r'⟩⟩
    · cases h6
      refine .inl ⟨_, _, rfl, .inl (.inl ha), fun p hp => ?_⟩
      obtain ⟨S', x'⟩ := S3.made (o := .lst _) hp
      exact q _ _ _ S' ((x2.trans x3).trans x') (.lst upd_same ((r.mono x').cut ol oh))
/-- found.pop() -/
theorem n_pop {i : Nat} {x : Expr} {ap pos : Pos} (hx : PE X x (tVar i)) (hs : notSup x = true) (hl : (ap.endLine == pos.line) = true) : PE X (.Call (.Attribute x "pop" ap) [] [] pos) (TV X T WE0 (ev (.pop i))) := by
  refine pe_imp (pe_bm0 (r := rPop) PySem.F.plainAttrs_list PySem.F.slot_list_pop PySem.F.type_list_pop mt_pop hx (base_sup hs) hl) fun σ H Q ⟨G, e, S, h⟩ => ?_
  simp only [ev] at h
  unfold popD at h
  cases q : getS e i with
  | un => rw [q] at h; exact h.elim
  | fr d => rw [q] at h; exact h.elim
  | ow d =>
    rw [q] at h
    cases d with
    | lst ds =>
      simp only at h
      cases hy : ds.getLast? with
      | none => rw [hy] at h; exact h.elim
      | some y =>
        rw [hy] at h
        have s := S.slot i
        rw [q] at s
        obtain ⟨a, e1, g, z, o⟩ := s
        rcases o with ⟨vs, ds', z1, h1, r⟩ | ⟨kvs, ds', z1, _⟩
        · cases z1
          rw [List.getLast?_eq_getElem?] at hy
          obtain ⟨w, hw, rw'⟩ := r.get hy
          have S' := S.chg (o := .lst vs.dropLast) q e1 (.inl ⟨vs.dropLast, ds.dropLast, rfl, upd_same, r.dropLast⟩)
          refine ⟨_, e1, ⟨.inl ⟨rfl, vs, .inl (.inl h1)⟩, a, vs, w, rfl, rfl, h1, by rw [r.length]; exact hw, ?_⟩⟩
          exact h w _ G S' (Ext.refl G) rw'
        · cases z1
    | _ => exact h.elim
end

structure Feed (K : PySem.W.Frag) (mg : Str → Option Value) (G : Hp) (J : It) (ds : List D) : Prop where
  stop : ∀ i H, Ext G H → ds.length ≤ i → J.stop i H
  go : ∀ i H d, Ext G H → ds[i]? = some d → J.go i H
  yld : ∀ i H x H' d, Ext G H → ds[i]? = some d → J.yld i H x H' → ∀ T σ e G1, Stt K mg T H G1 σ e → Ext G G1 → ∃ G2, Stt K mg T H' G2 σ e ∧ Ext G1 G2 ∧ Rep K mg G2 x d
section
variable {K : PySem.W.Frag} {mg : Str → Option Value} {G : Hp}
theorem feed_list {a : Addr} {xs : List L2.V} {ds : List D} (h : G a = some (.lst xs)) (r : Reps K mg G xs ds) : Feed K mg G (Itl K a) ds where
  stop := fun i H e hi => ⟨xs, .inl (.inl (e _ _ h)), by rw [r.length]; exact hi⟩
  go := fun i H d e hd => by obtain ⟨v, hv, _⟩ := r.get hd; exact ⟨xs, v, .inl (.inl (e _ _ h)), hv⟩
  yld := fun i H x H' d e hd hy T σ en G1 S x1 => by
    obtain ⟨rfl, hy⟩ := hy
    obtain ⟨v, hv, rv⟩ := r.get hd
    have := hy xs (.inl (.inl (e _ _ h)))
    rw [hv] at this; cases this
    exact ⟨G1, S, Ext.refl G1, rv.mono x1⟩
theorem feed_tup {a : Addr} {xs : List L2.V} {ds : List D} (h : SqT K G a xs) (r : Reps K mg G xs ds) : Feed K mg G (Itt K a) ds where
  stop := fun i H e hi => ⟨xs, SqT.mono e h, by rw [r.length]; exact hi⟩
  go := fun i H d e hd => by obtain ⟨v, hv, _⟩ := r.get hd; exact ⟨xs, v, SqT.mono e h, hv⟩
  yld := fun i H x H' d e hd hy T σ en G1 S x1 => by
    obtain ⟨rfl, hy⟩ := hy
    obtain ⟨v, hv, rv⟩ := r.get hd
    have := hy xs (SqT.mono e h)
    rw [hv] at this; cases this
    exact ⟨G1, S, Ext.refl G1, rv.mono x1⟩
theorem feed_str {z : Str} : Feed K mg G (Its z) (z.cps.toList.map fun c => D.str ⟨#[c]⟩) where
  stop := fun i H e hi => show z.cps.size ≤ i by simpa using hi
  go := fun i H d e hd => by
    have := (List.getElem?_eq_some_iff.mp hd).1
    show i < z.cps.size
    simpa using this
  yld := fun i H x H' d e hd hy T σ en G1 S x1 => by
    obtain ⟨rfl, c, hc, rfl⟩ := hy
    rw [List.getElem?_map] at hd
    have hc' : z.cps.toList[i]? = some c := by simpa using hc
    rw [hc'] at hd
    cases hd
    exact ⟨G1, S, Ext.refl G1, .str _⟩
theorem rangeL_length : ∀ (lo : Int) (n : Nat), (rangeL lo n).length = n
  | _, 0 => rfl
  | lo, n + 1 => congrArg Nat.succ (rangeL_length (lo + 1) n)
theorem rangeL_get : ∀ {lo : Int} {n i : Nat}, i < n → (rangeL lo n)[i]? = some (.int (lo + i))
  | lo, n + 1, 0, _ => by simp [rangeL]
  | lo, n + 1, i + 1, h => by
    simp only [rangeL, List.getElem?_cons_succ]
    rw [rangeL_get (Nat.lt_of_succ_lt_succ h)]
    congr 2; push_cast; omega
theorem feed_range {lo : Int} {n : Nat} : Feed K mg G (Itr lo n) (rangeL lo n) where
  stop := fun i H e hi => by rw [rangeL_length] at hi; exact hi
  go := fun i H d e hd => by
    have := (List.getElem?_eq_some_iff.mp hd).1
    rw [rangeL_length] at this; exact this
  yld := fun i H x H' d e hd hy T σ en G1 S x1 => by
    obtain ⟨rfl, rfl⟩ := hy
    have := (List.getElem?_eq_some_iff.mp hd).1
    rw [rangeL_length] at this
    rw [rangeL_get this] at hd
    cases hd
    exact ⟨G1, S, Ext.refl G1, .int _⟩
theorem rangeC_length : ∀ (lo c : Int) (n : Nat), (rangeC lo c n).length = n
  | _, _, 0 => rfl
  | lo, c, n + 1 => congrArg Nat.succ (rangeC_length (lo + c) c n)
theorem rangeC_get : ∀ {lo c : Int} {n i : Nat}, i < n → (rangeC lo c n)[i]? = some (.int (lo + (i : Nat) * c))
  | lo, c, n + 1, 0, _ => by simp [rangeC]
  | lo, c, n + 1, i + 1, h => by
    simp only [rangeC, List.getElem?_cons_succ]
    rw [rangeC_get (Nat.lt_of_succ_lt_succ h)]
    congr 2; push_cast; rw [Int.add_mul]; omega
theorem feed_rangeC {lo c : Int} {n : Nat} : Feed K mg G (Itc lo c n) (rangeC lo c n) where
  stop := fun i H e hi => by rw [rangeC_length] at hi; exact hi
  go := fun i H d e hd => by
    have := (List.getElem?_eq_some_iff.mp hd).1
    rw [rangeC_length] at this; exact this
  yld := fun i H x H' d e hd hy T σ en G1 S x1 => by
    obtain ⟨rfl, rfl⟩ := hy
    have := (List.getElem?_eq_some_iff.mp hd).1
    rw [rangeC_length] at this
    rw [rangeC_get this] at hd
    cases hd
    exact ⟨G1, S, Ext.refl G1, .int _⟩
theorem zip2D_get : ∀ {as bs : List D} {i : Nat} {d : D}, (zip2D as bs)[i]? = some d → ∃ a b, as[i]? = some a ∧ bs[i]? = some b ∧ d = .tup [a, b]
  | [], _, _, _, h => by simp [zip2D] at h
  | _ :: _, [], _, _, h => by simp [zip2D] at h
  | a :: as, b :: bs, 0, d, h => by simp [zip2D] at h; exact ⟨a, b, rfl, rfl, h.symm⟩
  | a :: as, b :: bs, i + 1, d, h => by
    simp only [zip2D, List.getElem?_cons_succ] at h ⊢
    exact zip2D_get h
theorem zip2D_length : ∀ {as bs : List D}, (zip2D as bs).length = min as.length bs.length
  | [], _ => by simp [zip2D]
  | _ :: _, [] => by simp [zip2D]
  | a :: as, b :: bs => by simp only [zip2D, List.length_cons, zip2D_length]; omega
theorem feed_zip {a b : Addr} {xs ys : List L2.V} {ds es : List D} (h1 : G a = some (.lst xs)) (h2 : G b = some (.lst ys)) (r1 : Reps K mg G xs ds) (r2 : Reps K mg G ys es) : Feed K mg G (Itz K a b) (zip2D ds es) where
  stop := fun i H e hi => ⟨xs, ys, .inl (.inl (e _ _ h1)), .inl (.inl (e _ _ h2)), by rw [zip2D_length] at hi; rw [r1.length, r2.length]; omega⟩
  go := fun i H d e hd => by
    obtain ⟨p, q, hp, hq, _⟩ := zip2D_get hd
    obtain ⟨v, hv, _⟩ := r1.get hp
    obtain ⟨w, hw, _⟩ := r2.get hq
    exact ⟨xs, ys, v, w, .inl (.inl (e _ _ h1)), .inl (.inl (e _ _ h2)), hv, hw⟩
  yld := fun i H x H' d e hd hy T σ en G1 S x1 => by
    obtain ⟨TT, v', w', rfl, hT, rfl, y1, y2⟩ := hy
    obtain ⟨p, q, hp, hq, rfl⟩ := zip2D_get hd
    obtain ⟨v, hv, rv⟩ := r1.get hp
    obtain ⟨w, hw, rw'⟩ := r2.get hq
    have z1 := y1 xs (.inl (.inl (e _ _ h1)))
    rw [hv] at z1; cases z1
    have z2 := y2 ys (.inl (.inl (e _ _ h2)))
    rw [hw] at z2; cases z2
    obtain ⟨S', x'⟩ := S.made hT
    exact ⟨_, S', x', .tup (.inl (.inl upd_same)) (.cons (rv.mono (x1.trans x')) (.cons (rw'.mono (x1.trans x')) .nil))⟩
theorem feed_zipT {a b : Addr} {xs ys : List L2.V} {ds es : List D} (h1 : SqT K G a xs) (h2 : SqT K G b ys) (r1 : Reps K mg G xs ds) (r2 : Reps K mg G ys es) : Feed K mg G (RZ.ItzT K a b) (zip2D ds es) where
  stop := fun i H e hi => ⟨xs, ys, SqT.mono e h1, SqT.mono e h2, by rw [zip2D_length] at hi; rw [r1.length, r2.length]; omega⟩
  go := fun i H d e hd => by
    obtain ⟨p, q, hp, hq, _⟩ := zip2D_get hd
    obtain ⟨v, hv, _⟩ := r1.get hp
    obtain ⟨w, hw, _⟩ := r2.get hq
    exact ⟨xs, ys, v, w, SqT.mono e h1, SqT.mono e h2, hv, hw⟩
  yld := fun i H x H' d e hd hy T σ en G1 S x1 => by
    obtain ⟨TT, v', w', rfl, hT, rfl, y1, y2⟩ := hy
    obtain ⟨p, q, hp, hq, rfl⟩ := zip2D_get hd
    obtain ⟨v, hv, rv⟩ := r1.get hp
    obtain ⟨w, hw, rw'⟩ := r2.get hq
    have z1 := y1 xs (SqT.mono e h1)
    rw [hv] at z1; cases z1
    have z2 := y2 ys (SqT.mono e h2)
    rw [hw] at z2; cases z2
    obtain ⟨S', x'⟩ := S.made hT
    exact ⟨_, S', x', .tup (.inl (.inl upd_same)) (.cons (rv.mono (x1.trans x')) (.cons (rw'.mono (x1.trans x')) .nil))⟩
theorem enumL_length : ∀ {n : Nat} {as : List D}, (enumL n as).length = as.length
  | _, [] => rfl
  | n, a :: as => congrArg Nat.succ enumL_length
theorem enumL_get : ∀ {n : Nat} {as : List D} {i : Nat} {d : D}, (enumL n as)[i]? = some d → ∃ a, as[i]? = some a ∧ d = .tup [.int ((n + i : Nat) : Int), a]
  | _, [], _, _, h => by simp [enumL] at h
  | n, a :: as, 0, d, h => by simp [enumL] at h; exact ⟨a, rfl, by simpa using h.symm⟩
  | n, a :: as, i + 1, d, h => by
    simp only [enumL, List.getElem?_cons_succ] at h ⊢
    obtain ⟨b, hb, e⟩ := enumL_get h
    exact ⟨b, hb, by rw [e]; congr 3; omega⟩
theorem feed_enum {a : Addr} {xs : List L2.V} {ds : List D} (h : G a = some (.lst xs)) (r : Reps K mg G xs ds) : Feed K mg G (Ite K a) (enumL 0 ds) where
  stop := fun i H e hi => ⟨xs, .inl (.inl (e _ _ h)), by rw [enumL_length] at hi; rw [r.length]; exact hi⟩
  go := fun i H d e hd => by
    obtain ⟨p, hp, _⟩ := enumL_get hd
    obtain ⟨v, hv, _⟩ := r.get hp
    exact ⟨xs, v, .inl (.inl (e _ _ h)), hv⟩
  yld := fun i H x H' d e hd hy T σ en G1 S x1 => by
    obtain ⟨TT, v', rfl, hT, rfl, y1⟩ := hy
    obtain ⟨p, hp, rfl⟩ := enumL_get hd
    obtain ⟨v, hv, rv⟩ := r.get hp
    have z1 := y1 xs (.inl (.inl (e _ _ h)))
    rw [hv] at z1; cases z1
    obtain ⟨S', x'⟩ := S.made hT
    refine ⟨_, S', x', .tup (.inl (.inl upd_same)) ?_⟩
    rw [Nat.zero_add]
    exact .cons (.int _) (.cons (rv.mono (x1.trans x')) .nil)
end
/-- of a source -/
def TI' (X : Cx) (T : Ent) (WE : Exc → Env → Prop) (f : Env → R (List D)) : TI := fun σ H R => ∃ G e, Stt X.K X.mg T H G σ e ∧ RW WE (f e) fun ds e' => ∀ H' G' J, Stt X.K X.mg T H' G' σ e' → Ext G G' → Feed X.K X.mg G' J ds → R J H'
def srcL (a : E) (e : Env) : R (List D) := (ev a e).bind fun d e => R.opt (itemsD d) e
section
variable {X : Cx} {k : Nat} {N : List Str} {ro : List Nat} {sc : Scope} {T : Ent}
theorem s_val {a : E} {x tg : Expr} (ha : PE X x (TV X T WE0 (ev a))) : PI X tg x (TI' X T WE0 (srcL a)) := by
  refine ⟨fun pins s σ H RR I ⟨G, e, S, h⟩ => ?_⟩
  have h := RW.bind (show RW WE0 ((ev a e).bind fun d e => R.opt (itemsD d) e) _ from h)
  cases q : ev a e with
  | no => rw [q] at h; exact h.elim
  | ex z e' => rw [q] at h; exact h.elim
  | ok d e1 =>
    rw [q] at h
    obtain ⟨ds, hd, h⟩ := RW.opt h
    cases d <;> first
      | (simp [itemsD] at hd; done)
      | skip
    · rename_i z
      simp only [itemsD] at hd
      split at hd
      · cases hd
        refine (pi_str ha).run pins s σ H RR I ⟨G, e, S, ?_⟩
        rw [q]
        intro v H1 G1 S1 x1 r1
        cases r1
        exact ⟨z, rfl, h H1 G1 _ S1 x1 feed_str⟩
      · cases hd
    · cases hd
      refine (pi_list ha).run pins s σ H RR I ⟨G, e, S, ?_⟩
      rw [q]
      intro v H1 G1 S1 x1 r1
      cases r1 with
      | lst g r => exact ⟨_, rfl, ⟨_, .inl (.inl (S1.sub _ _ g))⟩, h H1 G1 _ S1 x1 (feed_list g r)⟩
    · cases hd
      refine (pi_tup ha).run pins s σ H RR I ⟨G, e, S, ?_⟩
      rw [q]
      intro v H1 G1 S1 x1 r1
      cases r1 with
      | tup g r => exact ⟨_, rfl, ⟨_, SqT.mono S1.sub g⟩, h H1 G1 _ S1 x1 (feed_tup g r)⟩
theorem s_rng {as : List E} {xs : List Expr} {tg : Expr} {p pos : Pos} (V : Vx X k N ro sc T) (ha : PA X xs (TL X T WE0 (evs as))) (hs : notStars xs = true) (gl : glB sc "range" = true) (hl : xs.length = as.length) (h3 : Nat.ble as.length 3 = true) (h1 : Nat.blt 0 as.length = true) :
    PI X tg (.Call (.Name "range" p) xs [] pos) (TI' X T WE0 (srcL (.rng as))) := by
  have bn : X.mg "range" = none := V.bn _ (by decide +kernel)
  have gl := V.gl _ gl
  have h3 := Nat.le_of_ble_eq_true h3
  have h1 := Nat.le_of_ble_eq_true h1
  refine ⟨fun pins s σ H RR I ⟨G, e, S, h⟩ => ?_⟩
  have h : RW WE0 ((ev (.rng as) e).bind fun d e => R.opt (itemsD d) e) _ := h
  simp only [ev] at h
  have h := h.bind.bind
  cases q : evs as e with
  | no => rw [q] at h; exact h.elim
  | ex z e' => rw [q] at h; exact h.elim
  | ok ds e1 =>
    rw [q] at h
    have ln := evs_length q
    obtain ⟨dz, hz, h⟩ := RW.opt h
    obtain ⟨l, hr, rfl⟩ := Option.map_eq_some_iff.mp hz
    obtain ⟨l', hl', hq⟩ := RW.opt h
    cases hl'
    clear h
    match xs, hl, hs, ha with
    | [x1], hl, hs, ha =>
      have e1 := star1 (env := X.env) (xs := []) (show notStar x1 = true by simpa [notStars] using hs)
      refine (pi_range1 gl bn ha e1).run pins s σ H RR I ⟨G, e, S, ?_⟩
      rw [q]
      intro vs H1 G1 S1 xx r1
      match ds, ln with
      | [d], _ =>
        obtain ⟨v, rfl, rv⟩ := r1.one
        cases rv <;> first
          | (simp [rngD] at hr; done)
          | skip
        simp only [rngD] at hr
        split at hr
        · rename_i hj
          cases hr
          have := len_le hj
          exact ⟨_, rfl, by omega, by omega, hq H1 G1 _ S1 xx feed_range⟩
        · cases hr
      | [], ln => simp at hl ln; omega
      | _ :: _ :: _, ln => simp at hl ln; omega
    | [x1, x2], hl, hs, ha =>
      simp only [notStars, List.all_cons, List.all_nil, Bool.and_true, Bool.and_eq_true] at hs
      have e2 := star1 (env := X.env) (xs := []) hs.2
      have e1 := star1 (env := X.env) (xs := [x2]) hs.1
      refine (pi_range2 gl bn ha (by rw [e1, e2]; rfl) (by rw [e2]; rfl)).run pins s σ H RR I ⟨G, e, S, ?_⟩
      rw [q]
      intro vs H1 G1 S1 xx r1
      match ds, ln with
      | [d, d'], _ =>
        obtain ⟨v, w, rfl, rv, rw'⟩ := r1.two
        cases rv <;> cases rw' <;> first
          | (simp [rngD] at hr; done)
          | skip
        simp only [rngD] at hr
        split at hr
        · rename_i hj
          cases hr
          rw [Bool.and_eq_true] at hj
          have h4 := len_le hj.1
          have h5 := len_le hj.2
          exact ⟨_, _, rfl, ⟨by omega, by omega, by omega, by omega⟩, hq H1 G1 _ S1 xx feed_range⟩
        · cases hr
      | [], ln => simp at hl ln; omega
      | [_], ln => simp at hl ln; omega
      | _ :: _ :: _ :: _, ln => simp at hl ln; omega
    | [x1, x2, x3], hl, hs, ha =>
      simp only [notStars, List.all_cons, List.all_nil, Bool.and_true, Bool.and_eq_true] at hs
      have e3 := star1 (env := X.env) (xs := []) hs.2.2
      have e2 := star1 (env := X.env) (xs := [x3]) hs.2.1
      have e1 := star1 (env := X.env) (xs := [x2, x3]) hs.1
      refine (pi_range3 gl bn ha e1 (by rw [e2, e3]; rfl)).run pins s σ H RR I ⟨G, e, S, ?_⟩
      rw [q]
      intro vs H1 G1 S1 xx r1
      match ds, ln, r1 with
      | [d, d', d''], _, .cons rv r2 =>
        obtain ⟨v, w, rfl, rv', rw'⟩ := r2.two
        cases rv <;> cases rv' <;> cases rw' <;> first
          | (simp [rngD] at hr; done)
          | skip
        simp only [rngD] at hr
        split at hr
        · rename_i hj
          cases hr
          simp only [Bool.and_eq_true, decide_eq_true_eq] at hj
          obtain ⟨⟨h4, h5⟩, rfl⟩ := hj
          have h4 := len_le h4
          have h5 := len_le h5
          exact ⟨_, _, -1, _, rfl, RgC.neg (by omega) (by omega) (by omega) (by omega), hq H1 G1 _ S1 xx feed_rangeC⟩
        · cases hr
      | [], ln, _ => simp at hl ln; omega
      | [_], ln, _ => simp at hl ln; omega
      | [_, _], ln, _ => simp at hl ln; omega
      | _ :: _ :: _ :: _ :: _, ln, _ => simp at hl ln; omega
    | [], hl, _, _ => simp at hl; omega
    | _ :: _ :: _ :: _ :: _, hl, _, _ => simp at hl; omega
theorem s_zip {as : List E} {x y : Expr} {elts : List Expr} {kk : Nat} {p pos tpos : Pos} (V : Vx X k N ro sc T) (ha : PA X [x, y] (TL X T WE0 (evs as))) (hs : notStars [x, y] = true) (gl : glB sc "zip" = true) (hl : as.length = 2) :
    PI X (.Tuple elts kk tpos) (.Call (.Name "zip" p) [x, y] [] pos) (TI' X T WE0 (srcL (.zip as))) := by
  have bn : X.mg "zip" = none := V.bn _ (by decide +kernel)
  have gl := V.gl _ gl
  refine ⟨fun pins s σ H RR I ⟨G, e, S, h⟩ => ?_⟩
  have h : RW WE0 ((ev (.zip as) e).bind fun d e => R.opt (itemsD d) e) _ := h
  simp only [ev] at h
  have h := h.bind.bind
  cases q : evs as e with
  | no => rw [q] at h; exact h.elim
  | ex z e' => rw [q] at h; exact h.elim
  | ok ds e1 =>
    rw [q] at h
    have ln := evs_length q
    obtain ⟨dz, hz, h⟩ := RW.opt h
    obtain ⟨l, hr, rfl⟩ := Option.map_eq_some_iff.mp hz
    obtain ⟨l', hl', hq⟩ := RW.opt h
    cases hl'
    clear h
    simp only [notStars, List.all_cons, List.all_nil, Bool.and_true, Bool.and_eq_true] at hs
    have e2 := star1 (env := X.env) (xs := []) hs.2
    have e1 := star1 (env := X.env) (xs := [y]) hs.1
    refine (RZ.pi_zipA gl bn ha e1 (by rw [e2]; rfl)).run pins s σ H RR I ⟨G, e, S, ?_⟩
    rw [q]
    intro vs H1 G1 S1 xx r1
    match ds, ln with
    | [d, d'], _ =>
      obtain ⟨v, w, rfl, rv, rw'⟩ := r1.two
      unfold zipD at hr
      split at hr <;> first
        | (cases hr; done)
        | skip
      · rename_i as' bs' hd
        cases hd
        cases hr
        cases rv with
        | lst g1 q1 =>
          cases rw' with
          | lst g2 q2 => exact ⟨_, _, _, _, rfl, .inl ⟨.inl (.inl (S1.sub _ _ g1)), .inl (.inl (S1.sub _ _ g2)), hq H1 G1 _ S1 xx (feed_zip g1 g2 q1 q2)⟩⟩
      · rename_i as' bs' hd
        cases hd
        cases hr
        cases rv with
        | tup g1 q1 =>
          cases rw' with
          | tup g2 q2 => exact ⟨_, _, _, _, rfl, .inr ⟨SqT.mono S1.sub g1, SqT.mono S1.sub g2, hq H1 G1 _ S1 xx (feed_zipT g1 g2 q1 q2)⟩⟩
    | [], ln => simp at ln; omega
    | [_], ln => simp at ln; omega
    | _ :: _ :: _ :: _, ln => simp at ln; omega
theorem s_enu {a : E} {x : Expr} {elts : List Expr} {kk : Nat} {p pos tpos : Pos} (V : Vx X k N ro sc T) (ha : PE X x (TV X T WE0 (ev a))) (hs : notStar x = true) (gl : glB sc "enumerate" = true) :
    PI X (.Tuple elts kk tpos) (.Call (.Name "enumerate" p) [x] [] pos) (TI' X T WE0 (srcL (.enu a))) := by
  have bn : X.mg "enumerate" = none := V.bn _ (by decide +kernel)
  have gl := V.gl _ gl
  refine ⟨fun pins s σ H RR I ⟨G, e, S, h⟩ => ?_⟩
  have h : RW WE0 ((ev (.enu a) e).bind fun d e => R.opt (itemsD d) e) _ := h
  simp only [ev] at h
  have e1 := star1 (env := X.env) (xs := []) hs
  refine (pi_enum gl bn (pa_cons ha pa_nil e1) (by rw [e1]; rfl)).run pins s σ H RR I (tV_then S h.bind.bind fun d e1 v H1 G1 h1 S1 x1 r1 => ?_)
  cases r1 <;> first
    | exact h1.elim
    | skip
  rename_i b xs ds g r
  obtain ⟨l', hl', h⟩ := RW.opt (WE := WE0) (o := itemsD (.lst (enumL 0 ds))) (e := e1) (k := fun ds e' => ∀ H' G' J, Stt X.K X.mg T H' G' σ e' → Ext G G' → Feed X.K X.mg G' J ds → RR J H') h1
  cases hl'
  exact ⟨_, _, rfl, .inl (.inl (S1.sub _ _ g)), h H1 G1 _ S1 x1 (feed_enum g r)⟩
end
end Vi
end
section
set_option maxHeartbeats 4000000
namespace Vi
open PySem L2

mutual
def tgS : Tg → List Nat
  | .nm i => [i]
  | .sb _ _ => []
  | .tp ts => tgSs ts
def tgSs : List Tg → List Nat
  | [] => []
  | t :: ts => tgS t ++ tgSs ts
end
section
variable (X : Cx) (T : Ent)
/-- of a target -/
def GT (tg : Tg) : TG := fun v σ H Q => ∃ G d e e', Stt X.K X.mg T H G σ e ∧ Rep X.K X.mg G v d ∧ asgT tg d e = some e' ∧
  ∀ σ' H' G', Stt X.K X.mg T H' G' σ' e' → Ext G G' → σ'.length = σ.length → (∀ j, j ∉ tgS tg → σ'[j]? = σ[j]?) → Q σ' H'
def GTs (ts : List Tg) : TGs := fun vs σ H Q => ∃ G ds e e', Stt X.K X.mg T H G σ e ∧ Reps X.K X.mg G vs ds ∧ asgTs ts ds e = some e' ∧
  ∀ σ' H' G', Stt X.K X.mg T H' G' σ' e' → Ext G G' → σ'.length = σ.length → (∀ j, j ∉ tgSs ts → σ'[j]? = σ[j]?) → Q σ' H'
end
def mVar (N : List Str) (sc : Scope) (i : Nat) : Expr → Bool
  | .Name x _ => decide (N[i]? = some x) && visB sc x && okName x
  | _ => false
def mIx (N : List Str) (sc : Scope) : Ix → Expr → Bool
  | .lit i, .Constant (.int j) _ _ => decide (i = j)
  | .slot j, t => mVar N sc j t
  | _, _ => false
mutual
def mTg (N : List Str) (ro : List Nat) (sc : Scope) : Tg → Expr → Bool
  | .nm i, t => (match t with | .Name x _ => decide (N[i]? = some x) && locB sc x && okName x && !ro.contains i | _ => false)
  | .sb i k, t => (match t with | .Subscript o y _ => mVar N sc i o && mIx N sc k y && notSlice y | _ => false)
  | .tp ts, t => (match t with | .Tuple es _ _ => mTgs N ro sc ts es | _ => false)
def mTgs (N : List Str) (ro : List Nat) (sc : Scope) : List Tg → List Expr → Bool
  | [], es => es.isEmpty
  | t :: ts, es => (match es with | e :: es => notStar e && mTg N ro sc t e && mTgs N ro sc ts es | [] => false)
end
section
variable {X : Cx} {k : Nat} {N : List Str} {ro : List Nat} {sc : Scope} {T : Ent}
theorem pg_imp {tg : Expr} {t t' : TG} (h : PG X tg t) (i : ∀ v σ H Q, t' v σ H Q → t v σ H Q) : PG X tg t' := ⟨fun pins s σ H v u Q I r q => h.run pins s σ H v u Q I r (i v σ H Q q)⟩
theorem pgs_imp {tg : List Expr} {t t' : TGs} (h : PGs X tg t) (i : ∀ v σ H Q, t' v σ H Q → t v σ H Q) : PGs X tg t' := ⟨fun pins s σ H v u Q I r q => h.run pins s σ H v u Q I r (i v σ H Q q)⟩
theorem n_slot {i : Nat} {x : Expr} (V : Vx X k N ro sc T) (h : mVar N sc i x = true) : PE X x (tVar i) ∧ notStar x = true ∧ notSup x = true := by
  unfold mVar at h
  split at h
  · rename_i x p
    simp only [Bool.and_eq_true, decide_eq_true_eq] at h
    obtain ⟨⟨h1, h2⟩, h3⟩ := h
    obtain ⟨_, o2, o3⟩ := ok_ne h3
    exact ⟨pe_var (by rw [V.hN]; exact h1) (V.vis _ h2) o2 o3, rfl, rfl⟩
  · cases h
theorem assign_each {env : PySem.Env} : ∀ {es : List Expr}, notStars es = true → assignEach es env = es.map fun t => (false, assign t env)
  | [], _ => rfl
  | x :: xs, h => by
    simp only [notStars, List.all_cons, Bool.and_eq_true] at h
    have h1 : assignEach (x :: xs) env = (false, assign x env) :: assignEach xs env := by
      have hx := h.1
      cases x <;> first
        | rfl
        | cases hx
    rw [h1, assign_each h.2]; rfl
theorem mTgs_star : ∀ {ts : List Tg} {es : List Expr}, mTgs N ro sc ts es = true → notStars es = true ∧ ts.length = es.length
  | [], es, h => by
    unfold mTgs at h
    have h : es = [] := by simpa using h
    subst h; exact ⟨rfl, rfl⟩
  | t :: ts, es, h => by
    unfold mTgs at h
    cases es with
    | nil => cases h
    | cons e es =>
      simp only [Bool.and_eq_true] at h
      obtain ⟨h1, h2⟩ := mTgs_star h.2
      exact ⟨by simp only [notStars, List.all_cons, Bool.and_eq_true]; exact ⟨h.1.1, h1⟩, congrArg Nat.succ h2⟩
theorem asgTs_length : ∀ {ts : List Tg} {ds : List D} {e e' : Env}, asgTs ts ds e = some e' → ds.length = ts.length
  | [], ds, e, e', h => by
    unfold asgTs at h
    cases ds with
    | nil => rfl
    | cons _ _ => cases h
  | t :: ts, ds, e, e', h => by
    unfold asgTs at h
    cases ds with
    | nil => cases h
    | cons d ds =>
      obtain ⟨e1, _, h2⟩ := Option.bind_eq_some_iff.mp h
      exact congrArg Nat.succ (asgTs_length h2)
theorem n_ix_slot {kk : Ix} {y : Expr} (V : Vx X k N ro sc T) (h : mIx N sc kk y = true) : PE X y (fun σ H Q => ∃ G e j, Stt X.K X.mg T H G σ e ∧ ixOf kk e = some j ∧ Q (.int j) H) := by
  unfold mIx at h
  split at h
  · rename_i i j _ _
    have h : i = j := by simpa using h
    subst h
    exact pe_imp pe_int fun σ H Q ⟨G, e, j, S, hj, q⟩ => by cases hj; exact q
  · rename_i t j
    refine pe_imp (n_slot V h).1 fun σ H Q ⟨G, e, j', S, hj, q⟩ => ?_
    unfold ixOf at hj
    have s := S.slot j
    cases z : getS e j with
    | un => simp only [z] at hj; cases hj
    | ow d => simp only [z] at hj; cases hj
    | fr d =>
      simp only [z] at hj
      rw [z] at s
      obtain ⟨v, e1, r⟩ := s
      cases r <;> first
        | (cases hj; done)
        | skip
      cases hj
      exact ⟨_, e1, q⟩
  · cases h
mutual
theorem pg_tg (V : Vx X k N ro sc T) : ∀ (tg : Tg) (t : Expr), mTg N ro sc tg t = true → PG X t (GT X T tg)
  | .nm i, t, h => by
    unfold mTg at h
    split at h
    · rename_i x p
      simp only [Bool.and_eq_true, decide_eq_true_eq, Bool.not_eq_true'] at h
      obtain ⟨⟨⟨h1, h2⟩, h3⟩, h4⟩ := h
      obtain ⟨l1, l2⟩ := V.loc _ h2
      refine pg_imp (pg_name (by rw [V.hN]; exact V.nd) (by rw [V.hN]; exact h1) l1 l2) fun v σ H Q ⟨G, d, e, e', S, r, ha, q⟩ => ?_
      unfold asgT at ha
      cases ha
      have hi : i ∉ ro := fun z => by
        rw [List.contains_iff_mem.mpr z] at h4; cases h4
      refine q _ H G (S.store (V.noio hi) r) (Ext.refl G) (by rw [List.length_set]) fun j hj => ?_
      unfold tgS at hj
      rw [List.getElem?_set_ne fun z => hj (by rw [z]; exact List.mem_cons_self)]
    · cases h
  | .sb i kk, t, h => by
    unfold mTg at h
    split at h
    · rename_i o y p
      simp only [Bool.and_eq_true] at h
      obtain ⟨⟨h1, h2⟩, h3⟩ := h
      have ha : ∀ v, assign (.Subscript o y p) X.env v = (do
          let ov ← holding [v] (eval o X.env)
          let iv ← holding [v, ov] (eval y X.env)
          standAt p
          holding [v, ov, iv] (setItem ov iv v)
          release [v, ov, iv] []) := fun v => by
        cases y <;> first
          | rfl
          | cases h3
      refine pg_imp (pg_sub (n_slot V h1).1 (n_ix_slot V h2) set_list ha) fun v σ H Q ⟨G, d, e, e', S, r, hs, q⟩ => ?_
      unfold asgT at hs
      cases z : getS e i with
      | un => rw [z] at hs; cases hs
      | fr d => rw [z] at hs; cases hs
      | ow od =>
        rw [z] at hs
        obtain ⟨j, hj, hs⟩ := Option.bind_eq_some_iff.mp hs
        obtain ⟨od', ho, rfl⟩ := Option.map_eq_some_iff.mp hs
        have s := S.slot i
        rw [z] at s
        obtain ⟨a, e1, g, zz, w⟩ := s
        refine ⟨_, e1, G, e, j, S, hj, ?_⟩
        rcases w with ⟨vs, ds, z1, h4, r4⟩ | ⟨kvs, ds, z1, _⟩
        · subst z1
          obtain ⟨n, hn, rfl⟩ := Option.map_eq_some_iff.mp (show (ixD ds.length j).map (fun m => D.lst (setL ds m d)) = some od' from ho)
          refine ⟨a, vs, j, n, rfl, rfl, h4, by rw [r4.length]; exact hn, ?_⟩
          have S' := S.chg (o := .lst (vs.set n v)) z e1 (.inl ⟨_, _, rfl, upd_same, r4.set r n⟩)
          exact q σ _ G S' (Ext.refl G) rfl fun _ _ => rfl
        · subst z1
          cases ho
    · cases h
  | .tp ts, t, h => by
    unfold mTg at h
    split at h
    · rename_i es kk p
      obtain ⟨h1, h2⟩ := mTgs_star h
      have ae := assign_each (env := X.env) h1
      have hst : (assignEach es X.env).findIdx? (·.1) = none := by
        rw [ae]
        rw [List.findIdx?_eq_none_iff]
        intro x hx
        obtain ⟨y, _, rfl⟩ := List.mem_map.mp hx
        rfl
      refine pg_imp (pg_tup V.calm (pgs_tg V ts es h) (n := es.length) (by rw [ae, List.length_map]) hst) fun v σ H Q ⟨G, d, e, e', S, r, hs, q⟩ => ?_
      unfold asgT at hs
      cases d <;> first
        | (cases hs; done)
        | skip
      rename_i ds
      cases r with
      | tup g r =>
      refine ⟨_, _, rfl, SqT.mono S.sub g, by rw [r.length, asgTs_length hs, h2], G, ds, e, e', S, r, hs, fun σ' H' G' S' x' hl hj => q σ' H' G' S' x' hl fun j hn => hj j ?_⟩
      unfold tgS at hn
      exact hn
    · cases h
theorem pgs_tg (V : Vx X k N ro sc T) : ∀ (ts : List Tg) (es : List Expr), mTgs N ro sc ts es = true → PGs X es (GTs X T ts)
  | [], es, h => by
    unfold mTgs at h
    have h : es = [] := by simpa using h
    subst h
    refine pgs_imp pgs_nil fun vs σ H Q ⟨G, ds, e, e', S, r, hs, q⟩ => ?_
    unfold asgTs at hs
    cases r with
    | nil => cases hs; exact ⟨rfl, q σ H G S (Ext.refl G) rfl fun _ _ => rfl⟩
    | cons _ _ => cases hs
  | t :: ts, es, h => by
    unfold mTgs at h
    cases es with
    | nil => cases h
    | cons x es =>
      simp only [Bool.and_eq_true] at h
      obtain ⟨⟨h0, h1⟩, h2⟩ := h
      obtain ⟨s1, _⟩ := mTgs_star h2
      have hns : notStars (x :: es) = true := by simp only [notStars, List.all_cons, Bool.and_eq_true]; exact ⟨h0, s1⟩
      refine pgs_imp (pgs_cons (pg_tg V t x h1) (pgs_tg V ts es h2) (by rw [assign_each hns, assign_each s1]; rfl)) fun vs σ H Q ⟨G, ds, e, e', S, r, hs, q⟩ => ?_
      unfold asgTs at hs
      cases r with
      | nil => cases hs
      | cons r1 r2 =>
        obtain ⟨e1, h3, h4⟩ := Option.bind_eq_some_iff.mp hs
        refine ⟨_, _, rfl, G, _, e, e1, S, r1, h3, fun σ1 H1 G1 S1 x1 l1 j1 => ⟨G1, _, e1, e', S1, r2.mono x1, h4, fun σ2 H2 G2 S2 x2 l2 j2 => q σ2 H2 G2 S2 (x1.trans x2) (l2.trans l1) fun j hj => ?_⟩⟩
        unfold tgSs at hj
        rw [j2 j fun z => hj (List.mem_append_right _ z), j1 j fun z => hj (List.mem_append_left _ z)]
end
end

def condR (cond : List E) (e : Env) : R D := (evs cond e).bind fun c e => match c with
  | [] => .ok (.bl true) e
  | [d] => .ok d e
  | _ => .no
def eltF (cond : List E) (elt : E) (e : Env) : R (Option D) := (evs cond e).bind fun c e => (match c with
  | [] => (ev elt e).bind fun d e => .ok (some d) e
  | [.bl true] => (ev elt e).bind fun d e => .ok (some d) e
  | [.bl false] => .ok none e
  | _ => .no)
/-- in some frame with the same changed arguments -/
def exE (io : List (Nat × Addr)) (t : Ent → TE) : TE := fun σ H Q => ∃ T : Ent, T.io = io ∧ t T σ H Q
def exW (io : List (Nat × Addr)) (t : Ent → TT) : TT := fun σ H Q => ∃ T : Ent, T.io = io ∧ t T σ H Q
def exG (io : List (Nat × Addr)) (t : Ent → TG) : TG := fun v σ H Q => ∃ T : Ent, T.io = io ∧ t T v σ H Q
/-- of a new list, not yet known -/
def TF (X : Cx) (T : Ent) (WE : Exc → Env → Prop) (f : Env → R D) : TE := fun σ H Q => ∃ G e, Stt X.K X.mg T H G σ e ∧ RW WE (f e) fun d e' => ∃ ds, d = D.lst ds ∧
  ∀ a vs H' G', Stt X.K X.mg T H' G' σ e' → Ext G G' → H' a = some (.lst vs) → Reps X.K X.mg G' vs ds → G' a = none → T.He a = none → ¬ OwnAt σ e' a → Q (.ref a) H'
theorem tf_tv {X : Cx} {T : Ent} {WE : Exc → Env → Prop} {f : Env → R D} (hf : ∀ e d e', f e = .ok d e' → ∃ ds, d = D.lst ds) {σ : St} {H : Hp} {Q : VK} (h : TV X T WE f σ H Q) : TF X T WE f σ H Q := by
  obtain ⟨G, e, S, h⟩ := h
  refine ⟨G, e, S, ?_⟩
  cases q : f e with
  | no => rw [q] at h; exact h
  | ex x e' => rw [q] at h; exact h
  | ok d e' =>
    rw [q] at h
    obtain ⟨ds, rfl⟩ := hf e d e' q
    exact ⟨ds, rfl, fun a vs H' G' S' x' ha r g he n => h _ H' _ (S'.known ha n g he) (x'.trans (Ext.new g)) (.lst upd_same (r.mono (Ext.new g)))⟩
theorem ownAt_unwipe {σ : St} {vs : List Nat} {e e1 e2 : Env} {a : Addr} (h : wipeE e vs = some e1) (hl : e2.length = e.length) (q : OwnAt σ (unwipe e e2 vs) a) : OwnAt (L2.wipe σ vs) e2 a := by
  obtain ⟨j, d, h1, h2⟩ := q
  obtain ⟨_, _, _, w4⟩ := wipeE_get h
  obtain ⟨_, u2, u3⟩ := unwipe_get e (vs := vs) hl
  by_cases hj : j ∈ vs
  · rw [u3 j hj] at h1; exact absurd h1 (w4 j hj d)
  · exact ⟨j, d, u2 j hj ▸ h1, by rw [wipe_out hj]; exact h2⟩
theorem lc_sem {X : Cx} {T : Ent} {own : List Nat} {tg : Tg} {src elt : E} {cond : List E} (hown : ∀ j ∈ tgS tg, j ∈ own) {σ : St} {H : Hp} {Q : VK} (h : TF X T WE0 (ev (.lc own tg src cond elt)) σ H Q) :
    tLc (TI' X T WE0 (srcL src)) (exG T.io fun T => GT X T tg) (exW T.io fun T => TW X T WE0 (condR cond)) (exE T.io fun T => TV X T WE0 (ev elt)) own σ H Q := by
  obtain ⟨G, e, S, h⟩ := h
  simp only [ev] at h
  refine ⟨G, e, S, ?_⟩
  have h := h.bind
  show RW WE0 ((ev src e).bind fun d e => R.opt (itemsD d) e) _
  cases q0 : ev src e with
  | no => rw [q0] at h; exact h
  | ex x e' => rw [q0] at h; exact h
  | ok s e0 =>
    rw [q0] at h
    cases qi : itemsD s with
    | none => simp only [RW, qi] at h
    | some ds =>
      cases qw : wipeE e0 own with
      | none => simp only [RW, qi, qw] at h
      | some e1 =>
        have h : RW WE0 (match itemsD s, wipeE e0 own with
          | some ds, some e1 => if (!lenOk ds.length) = true then R.no else (match lcL own tg (eltF cond elt) ds e1 with
            | .ok ds e2 => R.ok (.lst ds) (unwipe e0 e2 own)
            | _ => R.no)
          | _, _ => R.no) fun d e' => ∃ ds, d = D.lst ds ∧ ∀ a vs H' G', Stt X.K X.mg T H' G' σ e' → Ext G G' → H' a = some (.lst vs) → Reps X.K X.mg G' vs ds → G' a = none → T.He a = none → ¬ OwnAt σ e' a → Q (.ref a) H' := h
        simp only [qi, qw] at h
        cases hlen : lenOk ds.length with
        | false => rw [hlen] at h; exact h.elim
        | true =>
        rw [hlen] at h
        have h : RW WE0 (match lcL own tg (eltF cond elt) ds e1 with
            | .ok ds e2 => R.ok (.lst ds) (unwipe e0 e2 own)
            | _ => R.no) fun d e' => ∃ ds, d = D.lst ds ∧ ∀ a vs H' G', Stt X.K X.mg T H' G' σ e' → Ext G G' → H' a = some (.lst vs) → Reps X.K X.mg G' vs ds → G' a = none → T.He a = none → ¬ OwnAt σ e' a → Q (.ref a) H' := h
        cases qf : lcL own tg (eltF cond elt) ds e1 with
        | no => rw [qf] at h; exact h.elim
        | ex x e' => rw [qf] at h; exact h.elim
        | ok lf eF =>
        rw [qf] at h
        simp only at h
        show RW WE0 (R.opt (itemsD s) e0) _
        rw [qi]
        intro H1 G1 J S1 x1 F D hD
        have hlen := len_line hlen
        have TD := S1.entry hD
        have GD := S1.noG hD
        have noOwn : ¬ OwnAt σ e0 D := fun ⟨j, d, o1, o2⟩ => by
          obtain ⟨_, _, o, ho⟩ := S1.ownThere o1 o2
          rw [hD] at ho; cases ho
        refine ⟨fun i m H => m = ds.length - i ∧ i ≤ ds.length ∧ ∃ G2 e2 accV accD l, Stt X.K X.mg T H G2 (L2.wipe σ own) e2 ∧ Ext G1 G2 ∧ H D = some (.lst accV) ∧ ¬ OwnAt (L2.wipe σ own) e2 D ∧ G2 D = none ∧
            Reps X.K X.mg G2 accV accD ∧ accV.length ≤ i ∧ lcL own tg (eltF cond elt) (ds.drop i) e2 = .ok l eF ∧ lf = accD ++ l, ⟨ds.length, rfl, Nat.zero_le _, G1, e1, [], [], lf, (S1.wipe qw).made0 hD, Ext.refl G1, upd_same, fun z => noOwn (ownAt_wipe qw z), GD, .nil, Nat.le_refl _, qf, rfl⟩, ?_⟩
        rintro i m H2 ⟨rfl, hi, G2, e2, accV, accD, l, S2, x2, hHD, hno, hG2, rAcc, hAcc, hl, hlf⟩
        by_cases hlt : i < ds.length
        · have hd : ds[i]? = some ds[i] := List.getElem?_eq_getElem hlt
          have hdr : ds.drop i = ds[i] :: ds.drop (i + 1) := (List.drop_eq_getElem_cons hlt)
          rw [hdr] at hl
          unfold lcL at hl
          cases qa : asgT tg ds[i] e2 with
          | none => rw [qa] at hl; cases hl
          | some e3 =>
            rw [qa] at hl
            simp only at hl
            cases qe : eltF cond elt e3 with
            | no => rw [qe] at hl; cases hl
            | ex x e' => rw [qe] at hl; cases hl
            | ok o e4 =>
            rw [qe] at hl
            simp only [R.bind] at hl
            cases qw4 : wipeE e4 own with
            | none => rw [qw4] at hl; cases hl
            | some e5 =>
            rw [qw4] at hl
            simp only at hl
            cases ql : lcL own tg (eltF cond elt) (ds.drop (i + 1)) e5 with
            | no => rw [ql] at hl; cases hl
            | ex x e' => rw [ql] at hl; cases hl
            | ok r e6 =>
            rw [ql] at hl
            simp only [R.ok.injEq] at hl
            obtain ⟨hl, he6⟩ := hl
            subst he6
            refine .inr ⟨F.go i H2 _ (x2.trans S2.sub) hd, fun H => ∃ G2 e2 accV accD l, Stt X.K X.mg T H G2 (L2.wipe σ own) e2 ∧ Ext G1 G2 ∧ H D = some (.lst accV) ∧ ¬ OwnAt (L2.wipe σ own) e2 D ∧ G2 D = none ∧
              Reps X.K X.mg G2 accV accD ∧ accV.length ≤ i + 1 ∧ lcL own tg (eltF cond elt) (ds.drop (i + 1)) e2 = .ok l e6 ∧ lf = accD ++ l, fun H' w => ⟨ds.length - (i + 1), by omega, rfl, hlt, w⟩, fun x H3 hy => ?_⟩
            have S2' := S2.enter
            obtain ⟨G3, S3, x3, r3⟩ := F.yld i H2 x H3 _ (x2.trans S2.sub) hd hy _ _ _ _ S2' x2
            refine ⟨T.now H2 G2 (L2.wipe σ own) e2, rfl, G3, ds[i], e2, e3, S3, r3, qa, fun σ4 H4 G4 S4 x4 l4 j4 => ?_⟩
            have hwip : L2.wipe σ4 own = L2.wipe σ own := wipe_eq (by rw [l4, wipe_length]) fun j hj => by
              rw [j4 j fun z => hj (hown j z), wipe_out hj]
            refine ⟨hwip, ?_⟩
            -- what is kept
            have fin : ∀ {H6 G6}, Stt X.K X.mg (T.now H2 G2 (L2.wipe σ own) e2) H6 G6 σ4 e4 → Stt X.K X.mg T H6 G6 (L2.wipe σ own) e5 ∧ H6 D = some (.lst accV) ∧ ¬ OwnAt (L2.wipe σ own) e5 D ∧ G6 D = none := fun {H6 G6} S6 => by
              obtain ⟨k1, k2, k3⟩ := S2.kept S6 hHD hno hG2
              have S7 := (S2.leave S6).wipe qw4
              rw [hwip] at S7
              exact ⟨S7, k1, fun z => k2 (ownAt_wipe qw4 (by rw [hwip]; exact z)), k3⟩
            -- the condition
            have qe : (evs cond e3).bind (fun c e => (match c with
              | [] => (ev elt e).bind fun d e => R.ok (some d) e
              | [.bl true] => (ev elt e).bind fun d e => R.ok (some d) e
              | [.bl false] => R.ok none e
              | _ => R.no)) = .ok o e4 := qe
            cases qc : evs cond e3 with
            | no => rw [qc] at qe; cases qe
            | ex x e' => rw [qc] at qe; cases qe
            | ok c e7 =>
            rw [qc] at qe
            simp only [R.bind] at qe
            have yes : ∀ {H5 G5}, Stt X.K X.mg (T.now H2 G2 (L2.wipe σ own) e2) H5 G5 σ4 e7 → Ext G4 G5 → ((ev elt e7).bind fun d e => R.ok (some d) e) = .ok o e4 → exE T.io (fun T => TV X T WE0 (ev elt)) σ4 H5 fun y H4 => ∃ acc, H4 D = some (.lst acc) ∧ acc.length < sizeLine ∧ ∃ G2 e2 accV accD l, Stt X.K X.mg T (upd H4 D (.lst (acc ++ [y]))) G2 (L2.wipe σ own) e2 ∧ Ext G1 G2 ∧ upd H4 D (.lst (acc ++ [y])) D = some (.lst accV) ∧ ¬ OwnAt (L2.wipe σ own) e2 D ∧ G2 D = none ∧
              Reps X.K X.mg G2 accV accD ∧ accV.length ≤ i + 1 ∧ lcL own tg (eltF cond elt) (ds.drop (i + 1)) e2 = .ok l e6 ∧ lf = accD ++ l := fun {H5 G5} S5 x5 qd => by
              cases qv : ev elt e7 with
              | no => rw [qv] at qd; cases qd
              | ex x e' => rw [qv] at qd; cases qd
              | ok dy e8 =>
                rw [qv] at qd
                simp only [R.bind, R.ok.injEq] at qd
                obtain ⟨rfl, rfl⟩ := qd
                refine ⟨T.now H2 G2 (L2.wipe σ own) e2, rfl, G5, e7, S5, ?_⟩
                rw [qv]
                intro y H6 G6 S6 x6 r6
                obtain ⟨k1, k2, k3, k4⟩ := fin S6
                refine ⟨accV, k2, by omega, G6, e5, accV ++ [y], accD ++ [dy], r, k1.updFree k2 k3 k4 TD, x2.trans (x3.trans (x4.trans (x5.trans x6))), upd_same, k3, k4, (rAcc.mono (x3.trans (x4.trans (x5.trans x6)))).app (.cons r6 .nil), by simp; omega, ql, ?_⟩
                rw [hlf, ← hl]; simp
            have no' : ∀ {H5 G5}, Stt X.K X.mg (T.now H2 G2 (L2.wipe σ own) e2) H5 G5 σ4 e7 → Ext G4 G5 → (R.ok (α := Option Vi.D) none e7) = .ok o e4 → ∃ G2 e2 accV accD l, Stt X.K X.mg T H5 G2 (L2.wipe σ own) e2 ∧ Ext G1 G2 ∧ H5 D = some (.lst accV) ∧ ¬ OwnAt (L2.wipe σ own) e2 D ∧ G2 D = none ∧
              Reps X.K X.mg G2 accV accD ∧ accV.length ≤ i + 1 ∧ lcL own tg (eltF cond elt) (ds.drop (i + 1)) e2 = .ok l e6 ∧ lf = accD ++ l := fun {H5 G5} S5 x5 qd => by
              simp only [R.ok.injEq] at qd
              obtain ⟨rfl, rfl⟩ := qd
              obtain ⟨k1, k2, k3, k4⟩ := fin S5
              exact ⟨G5, e5, accV, accD, r, k1, x2.trans (x3.trans (x4.trans x5)), k2, k3, k4, rAcc.mono (x3.trans (x4.trans x5)), by omega, ql, by rw [hlf, ← hl]⟩
            have go : ∀ (b : Bool), (∀ e, RW WE0 (condR cond e3) (fun d e' => d = .bl b ∧ e' = e7)) → (b = true → ((ev elt e7).bind fun d e => R.ok (some d) e) = .ok o e4) → (b = false → (R.ok (α := Option Vi.D) none e7) = .ok o e4) →
                exW T.io (fun T => TW X T WE0 (condR cond)) σ4 H4 fun b H3 => if b = true then exE T.io (fun T => TV X T WE0 (ev elt)) σ4 H3 fun y H4 => ∃ acc, H4 D = some (.lst acc) ∧ acc.length < sizeLine ∧ ∃ G2 e2 accV accD l, Stt X.K X.mg T (upd H4 D (.lst (acc ++ [y]))) G2 (L2.wipe σ own) e2 ∧ Ext G1 G2 ∧ upd H4 D (.lst (acc ++ [y])) D = some (.lst accV) ∧ ¬ OwnAt (L2.wipe σ own) e2 D ∧ G2 D = none ∧
              Reps X.K X.mg G2 accV accD ∧ accV.length ≤ i + 1 ∧ lcL own tg (eltF cond elt) (ds.drop (i + 1)) e2 = .ok l e6 ∧ lf = accD ++ l else ∃ G2 e2 accV accD l, Stt X.K X.mg T H3 G2 (L2.wipe σ own) e2 ∧ Ext G1 G2 ∧ H3 D = some (.lst accV) ∧ ¬ OwnAt (L2.wipe σ own) e2 D ∧ G2 D = none ∧
              Reps X.K X.mg G2 accV accD ∧ accV.length ≤ i + 1 ∧ lcL own tg (eltF cond elt) (ds.drop (i + 1)) e2 = .ok l e6 ∧ lf = accD ++ l := fun b hb h1 h2 => by
              refine ⟨T.now H2 G2 (L2.wipe σ own) e2, rfl, G4, e3, S4, (hb e3).mono fun d e' ⟨z1, z2⟩ => ?_⟩
              subst z1 z2
              refine ⟨b, rfl, fun H5 G5 S5 x5 => ?_⟩
              cases b with
              | true => exact yes S5 x5 (h1 rfl)
              | false => exact no' S5 x5 (h2 rfl)
            match c, qe, qc with
            | [], qe, qc => exact go true (fun _ => by unfold condR; rw [qc]; exact ⟨rfl, rfl⟩) (fun _ => qe) fun z => by cases z
            | [.bl true], qe, qc => exact go true (fun _ => by unfold condR; rw [qc]; exact ⟨rfl, rfl⟩) (fun _ => qe) fun z => by cases z
            | [.bl false], qe, qc => exact go false (fun _ => by unfold condR; rw [qc]; exact ⟨rfl, rfl⟩) (fun z => by cases z) fun _ => qe
            | .non :: _, qe, _ => cases qe
            | .int _ :: _, qe, _ => cases qe
            | .str _ :: _, qe, _ => cases qe
            | .lst _ :: _, qe, _ => cases qe
            | .tup _ :: _, qe, _ => cases qe
            | .dic _ _ :: _, qe, _ => cases qe
            | .fn _ :: _, qe, _ => cases qe
            | .clo _ _ :: _, qe, _ => cases qe
            | .ins _ _ _ :: _, qe, _ => cases qe
            | .scr _ :: _, qe, _ => cases qe
            | .bl true :: _ :: _, qe, _ => cases qe
            | .bl false :: _ :: _, qe, _ => cases qe
        · have ei : i = ds.length := by omega
          rw [ei, List.drop_length] at hl
          unfold lcL at hl
          simp only [R.ok.injEq] at hl
          obtain ⟨rfl, rfl⟩ := hl
          rw [List.append_nil] at hlf
          subst hlf
          refine .inl ⟨F.stop i H2 (x2.trans S2.sub) (by omega), ?_⟩
          obtain ⟨dl, ed, h⟩ := h
          cases ed
          exact h D accV H2 _ (S1.unwipe qw x2 S2) (x1.trans x2) hHD rAcc hG2 TD fun z => hno (ownAt_unwipe qw (by rw [S2.len, wipe_length, S1.len]) z)
theorem lc_lst {own : List Nat} {tg : Tg} {src elt : E} {cond : List E} : ∀ e d e', ev (.lc own tg src cond elt) e = .ok d e' → ∃ ds, d = D.lst ds := fun e d e' h => by
  simp only [ev] at h
  cases q0 : ev src e with
  | no => rw [q0] at h; cases h
  | ex x e' => rw [q0] at h; cases h
  | ok s e0 =>
    rw [q0] at h
    simp only [R.bind] at h
    split at h
    · split at h
      · cases h
      · split at h
        · cases h; exact ⟨_, rfl⟩
        · cases h
    · cases h
end Vi
end
section
set_option maxHeartbeats 4000000
namespace Vi
open PySem L2

mutual
def needsE : E → List Need
  | .gl x d => [.gl x d]
  | .fnv x => [.fv x]
  | .bin _ a b => needsE a ++ needsE b
  | .neg a => needsE a
  | .cmp _ a b => needsE a ++ needsE b
  | .chn _ _ a b c => needsE a ++ needsE b ++ needsE c
  | .and a b => needsE a ++ needsE b
  | .or a b => needsE a ++ needsE b
  | .not a => needsE a
  | .ite c a b => needsE c ++ needsE a ++ needsE b
  | .tup es => needsEs es
  | .lst es => needsEs es
  | .call x F es => .fn x F (es.map isIov) :: needsEs es
  | .callk x F ks perm es ws => .fnk x F es.length ks perm :: (needsEs es ++ needsEs ws)
  | .bi _ es => needsEs es
  | .isi a _ => needsE a
  | .ix a b => needsE a ++ needsE b
  | .sl a b c => needsE a ++ needsE b ++ needsE c
  | .rev a => needsE a
  | .rng es => needsEs es
  | .zip es => needsEs es
  | .enu a => needsE a
  | .lc _ _ src cond elt => needsE src ++ needsEs cond ++ needsE elt
  | .mth _ a es => needsE a ++ needsEs es
  | .popAt _ a => needsE a
  | .pix _ b => needsE b
  | .pcmp _ _ b => needsE b
  | .psl _ b c => needsE b ++ needsE c
  | .pin _ a _ => needsE a
  | _ => []
def needsEs : List E → List Need
  | [] => []
  | a :: as => needsE a ++ needsEs as
end

def isNon : E → Bool
  | .non => true
  | _ => false
def andOf : E → Option (E × E)
  | .and a b => some (a, b)
  | _ => none
def orOf : E → Option (E × E)
  | .or a b => some (a, b)
  | _ => none
def mRow (of : E → Option (E × E)) (f : E → Expr → Bool) : E → List Expr → Bool
  | _, [] => false
  | e, x :: r => (match r with
    | [] => f e x
    | _ :: _ => (match of e with | some (a, b) => f a x && mRow of f b r | none => false))
def mArgs (N : List Str) (sc : Scope) (f : E → Expr → Bool) : List E → List Expr → Bool
  | [], xs => xs.isEmpty
  | a :: as, xs => (match xs with
    | x :: xs => notStar x && (match iovOf a with | some i => mVar N sc i x | none => f a x) && mArgs N sc f as xs
    | [] => false)
def mKws (f : E → Expr → Bool) : List E → List Keyword → Bool
  | [], ks => ks.isEmpty
  | a :: as, ks => (match ks with
    | ⟨_, x, _⟩ :: ks => (iovOf a).isNone && f a x && mKws f as ks
    | [] => false)
def mEnd (f : E → Expr → Bool) (a : E) : Option Expr → Bool
  | none => isNon a
  | some x => f a x && !isNon a
def notSet : Expr → Bool
  | .Set .. => false
  | _ => true
def biName : Bi → Str
  | .len => "len" | .abs => "abs" | .int => "int" | .str => "str" | .repr => "repr" | .sum => "sum" | .min => "min" | .max => "max" | .all => "all" | .any => "any" | .list => "list" | .tuple => "tuple"
  | .sorted => "sorted" | .divmod => "divmod" | .sset => "sset"
def mSrc (N : List Str) (sc : Scope) (f : E → Expr → Bool) (a : E) (tg t : Expr) : Bool := notSet t && match a with
  | .rng as => (match t with
    | .Call (.Name nm _) xs [] _ => decide (nm = "range") && glB sc "range" && plainEs as && Nat.ble as.length 3 && Nat.blt 0 as.length && mArgs N sc f as xs
    | _ => false)
  | .zip as => (match tg, t with
    | .Tuple .., .Call (.Name nm _) [x, y] [] _ => decide (nm = "zip") && glB sc "zip" && plainEs as && mArgs N sc f as [x, y]
    | _, _ => false)
  | .enu a => (match tg, t with
    | .Tuple .., .Call (.Name nm _) [x] [] _ => decide (nm = "enumerate") && glB sc "enumerate" && notStar x && f a x
    | _, _ => false)
  | a => f a t
def ownN (N : List Str) (own : List Nat) : List (Str × Nat) := own.filterMap fun i => (N[i]?).map fun x => (x, i)
def subNat (as bs : List Nat) : Bool := as.all fun a => bs.contains a
def mIfs (f : E → Expr → Bool) : List E → List Expr → Bool
  | [], [] => true
  | [a], [x] => f a x
  | _, _ => false

mutual
def mt (N : List Str) (ro : List Nat) : Nat → Scope → E → Expr → Bool
  | 0, _, _, _ => false
  | n + 1, sc, e, t => match e with
    | .eno => true
    | .non => (match t with | .Constant .none _ _ => true | _ => false)
    | .bl b => (match t with | .Constant (.bool c) _ _ => decide (b = c) | _ => false)
    | .int i => (match t with | .Constant (.int j) _ _ => decide (i = j) | _ => false)
    | .str s => (match t with | .Constant (.str z) _ _ => decide (s = z) | _ => false)
    | .var i => mVar N sc i t && !ro.contains i
    | .gl x _ => (match t with | .Name y _ => decide (x = y) && glB sc x && okName x | _ => false)
    | .fnv x => (match t with | .Name y _ => decide (x = y) && glB sc x && okName x | _ => false)
    | .bin op a b => (match t with | .BinOp x o y _ => decide (o = opOf op) && mt N ro n sc a x && mt N ro n sc b y | _ => false)
    | .neg a => (match t with | .UnaryOp .USub x _ => mt N ro n sc a x | _ => false)
    | .cmp c a b => (match t with | .Compare x [o] [y] _ => decide (o = copOf c) && mt N ro n sc a x && mt N ro n sc b y && !behindInMarks (copOf c) y | _ => false)
    | .chn c1 c2 a b c => (match t with | .Compare x [o1, o2] [y, z] _ => decide (o1 = copOf c1) && decide (o2 = copOf c2) && mt N ro n sc a x && mt N ro n sc b y && mt N ro n sc c z && !lastMarks [copOf c1, copOf c2] [y, z] | _ => false)
    | .and a b => (match t with | .BoolOp .And xs _ => mRow andOf (mt N ro n sc) (.and a b) xs | _ => false)
    | .or a b => (match t with | .BoolOp .Or xs _ => mRow orOf (mt N ro n sc) (.or a b) xs | _ => false)
    | .not a => (match t with | .UnaryOp .Not x _ => mt N ro n sc a x | _ => false)
    | .ite c a b => (match t with | .IfExp z x y _ => mtT N ro n sc c z && mt N ro n sc a x && mt N ro n sc b y | _ => false)
    | .tup es => (match t with | .Tuple xs _ _ => plainEs es && Nat.ble es.length 1000 && mArgs N sc (mt N ro n sc) es xs | _ => false)
    | .lst es => (match t with | .List xs _ => plainEs es && Nat.ble es.length 1000 && mArgs N sc (mt N ro n sc) es xs | _ => false)
    | .call x _ es => (match t with | .Call (.Name y _) xs [] _ => decide (x = y) && glB sc x && okName x && mArgs N sc (mt N ro n sc) es xs && decide (iovIx es).Nodup | _ => false)
    | .callk x _ ks _ es ws => (match t with | .Call (.Name y _) xs kws _ => decide (x = y) && glB sc x && okName x && plainEs es && mArgs N sc (mt N ro n sc) es xs && mKws (mt N ro n sc) ws kws && decide (kwNames kws = ks.map some) && decide (ws.length = ks.length) | _ => false)
    | .bi f es => (match t with | .Call (.Name y _) (x :: xs) [] _ => decide (biName f = y) && bnames.contains y && (biV f).isSome && glB sc y && okName y && plainEs es && mArgs N sc (mt N ro n sc) es (x :: xs) | _ => false)
    | .isi a ts => mIsi sc (mt N ro n sc a) ts t
    | .ix a b => (match t with | .Subscript x y _ => notSlice y && mt N ro n sc a x && mt N ro n sc b y | _ => false)
    | .sl a b c => (match t with | .Subscript x (.Slice lo hi none _) _ => mt N ro n sc a x && mEnd (mt N ro n sc) b lo && mEnd (mt N ro n sc) c hi | _ => false)
    | .rev a => (match t with | .Subscript x (.Slice none none (some (.UnaryOp .USub (.Constant (.int i) _ _) _)) _) _ => decide (i = 1) && mt N ro n sc a x | _ => false)
    | .lc own tg src cond elt => (match t with
      | .ListComp el [⟨tg', it, ifs, as⟩] scope _ => decide (as = 0) && decide ((ownN N own).map (·.2) = own) && subNat (tgS tg) own && blkC N sc scope (ownN N own) && mSrc N sc (mt N ro n sc) src tg' it && mTg N ro scope tg tg' && mIfs (mtT N ro n scope) cond ifs && mt N ro n scope elt el
      | _ => false)
    | .mth m a es => (match mtId m, es, t with
      | some (nm, _), [], .Call (.Attribute o at' ap) [] [] pos => decide (at' = nm) && mt N ro n sc a o && notSup o && (ap.endLine == pos.line)
      | some (nm, _), [b], .Call (.Attribute o at' ap) [y] [] pos => decide (at' = nm) && mt N ro n sc a o && notSup o && (ap.endLine == pos.line) && mt N ro n sc b y && notStar y
      | _, _, _ => false)
    | .pop i => (match t with | .Call (.Attribute x at' ap) [] [] pos => decide (at' = "pop") && mVar N sc i x && (ap.endLine == pos.line) | _ => false)
    | .pix i b => (match t with | .Subscript x y _ => notSlice y && mVar N sc i x && mt N ro n sc b y | _ => false)
    | .plen i => (match t with | .Call (.Name nm _) [x] [] _ => decide (nm = "len") && glB sc "len" && mVar N sc i x | _ => false)
    | .pcmp c i b => (match t with | .Compare x [o] [y] _ => decide (o = copOf c) && isEqC c && mVar N sc i x && mt N ro n sc b y && !behindInMarks (copOf c) y | _ => false)
    | .psl i b c => (match t with | .Subscript x (.Slice lo hi none _) _ => mVar N sc i x && mEnd (mt N ro n sc) b lo && mEnd (mt N ro n sc) c hi | _ => false)
    | .pin c a i => (match t with | .Compare y [o] [x] _ => decide (o = copOf c) && isInC c && mVar N sc i x && mt N ro n sc a y && !behindInMarks (copOf c) x | _ => false)
    | _ => false
def mtT (N : List Str) (ro : List Nat) : Nat → Scope → E → Expr → Bool
  | 0, _, _, _ => false
  | n + 1, sc, e, t => match e with
    | .and a b => (match t with | .BoolOp .And xs _ => mRow andOf (mtT N ro n sc) (.and a b) xs | _ => false)
    | .or a b => (match t with | .BoolOp .Or xs _ => mRow orOf (mtT N ro n sc) (.or a b) xs | _ => false)
    | .not a => (match t with | .UnaryOp .Not x _ => mtT N ro n sc a x | _ => false)
    | .cmp c a b => (match t with | .Compare x [o] [y] _ => decide (o = copOf c) && mt N ro n sc a x && mt N ro n sc b y && !behindInMarks (copOf c) y | _ => false)
    | .chn c1 c2 a b c => (match t with | .Compare x [o1, o2] [y, z] _ => decide (o1 = copOf c1) && decide (o2 = copOf c2) && mt N ro n sc a x && mt N ro n sc b y && mt N ro n sc c z && !lastMarks [copOf c1, copOf c2] [y, z] | _ => false)
    | .pcmp c i b => (match t with | .Compare x [o] [y] _ => decide (o = copOf c) && isEqC c && mVar N sc i x && mt N ro n sc b y && !behindInMarks (copOf c) y | _ => false)
    | .pin c a i => (match t with | .Compare y [o] [x] _ => decide (o = copOf c) && isInC c && mVar N sc i x && mt N ro n sc a y && !behindInMarks (copOf c) x | _ => false)
    | e => plainT t && mt N ro n sc e t
end

/-- what matches is walked -/
def Wlk (N : List Str) (ro : List Nat) (n : Nat) : Prop := ∀ (X : Cx) (k : Nat) (sc : Scope) (T : Ent), Vx X k N ro sc T →
  (∀ e t, mt N ro n sc e t = true → (∀ d ∈ needsE e, NeedOk X.prog X.w X.K X.mg X.base k d) → PE X t (TV X T WE0 (ev e))) ∧
  (∀ e t, mtT N ro n sc e t = true → (∀ d ∈ needsE e, NeedOk X.prog X.w X.K X.mg X.base k d) → PT X t (TW X T WE0 (ev e)))

section
variable {X : Cx} {k : Nat} {N : List Str} {ro : List Nat} {sc : Scope} {T : Ent} {n : Nat}
abbrev NdOk (X : Cx) (k : Nat) (l : List Need) : Prop := ∀ d ∈ l, NeedOk X.prog X.w X.K X.mg X.base k d
theorem NdOk.l {a b : List Need} (h : NdOk X k (a ++ b)) : NdOk X k a := fun d hd => h d (List.mem_append_left _ hd)
theorem NdOk.r {a b : List Need} (h : NdOk X k (a ++ b)) : NdOk X k b := fun d hd => h d (List.mem_append_right _ hd)
theorem m_args (V : Vx X k N ro sc T) {f : E → Expr → Bool} (hf : ∀ e t, f e t = true → NdOk X k (needsE e) → PE X t (TV X T WE0 (ev e))) : ∀ {as : List E} {xs : List Expr}, mArgs N sc f as xs = true → NdOk X k (needsEs as) → PA X xs (TR X T WE0 as) ∧ notStars xs = true ∧ xs.length = as.length
  | [], xs, h, _ => by
    unfold mArgs at h
    have h : xs = [] := by simpa using h
    subst h
    exact ⟨r_nil, rfl, rfl⟩
  | a :: as, xs, h, nd => by
    unfold mArgs at h
    cases xs with
    | nil => cases h
    | cons x xs =>
      simp only [Bool.and_eq_true] at h
      obtain ⟨⟨h1, h2⟩, h3⟩ := h
      unfold needsEs at nd
      obtain ⟨q1, q2, q3⟩ := m_args V hf h3 nd.r
      refine ⟨?_, by simp only [notStars, List.all_cons, Bool.and_eq_true]; exact ⟨h1, q2⟩, congrArg Nat.succ q3⟩
      cases z : iovOf a with
      | none => rw [z] at h2; exact r_cons (hf a x h2 nd.l) q1 h1 z
      | some i => rw [z] at h2; exact r_iov (n_slot V h2).1 q1 h1 z
theorem m_kws {f : E → Expr → Bool} (hf : ∀ e t, f e t = true → NdOk X k (needsE e) → PE X t (TV X T WE0 (ev e))) : ∀ {as : List E} {kws : List Keyword}, mKws f as kws = true → NdOk X k (needsEs as) → PK X kws (TL X T WE0 (evs as))
  | [], kws, h, _ => by
    unfold mKws at h
    have h : kws = [] := by simpa using h
    subst h
    exact k_nil
  | a :: as, kws, h, nd => by
    unfold mKws at h
    cases kws with
    | nil => cases h
    | cons kw kws =>
      obtain ⟨nm, x, kp⟩ := kw
      simp only [Bool.and_eq_true] at h
      unfold needsEs at nd
      exact k_cons (hf a x h.1.2 nd.l) (m_kws hf h.2 nd.r)
theorem m_end {f : E → Expr → Bool} (hf : ∀ e t, f e t = true → NdOk X k (needsE e) → PE X t (TV X T WE0 (ev e))) {a : E} {o : Option Expr} (h : mEnd f a o = true) (nd : NdOk X k (needsE a)) : EndOk X T WE0 a o := by
  cases o with
  | none =>
    have h : isNon a = true := h
    cases a <;> first
      | rfl
      | cases h
  | some x =>
    have h : (f a x && !isNon a) = true := h
    rw [Bool.and_eq_true] at h
    refine ⟨hf a x h.1 nd, fun z => ?_⟩
    subst z
    exact absurd h.2 (by simp [isNon])
theorem andOf_eq {e a b : E} (h : andOf e = some (a, b)) : e = .and a b := by
  cases e <;> first
    | (cases h; done)
    | (cases h; rfl)
theorem orOf_eq {e a b : E} (h : orOf e = some (a, b)) : e = .or a b := by
  cases e <;> first
    | (cases h; done)
    | (cases h; rfl)
theorem m_and {f : E → Expr → Bool} {pos : Pos} (hf : ∀ e t, f e t = true → NdOk X k (needsE e) → PE X t (TV X T WE0 (ev e))) : ∀ {xs : List Expr} {e : E}, mRow andOf f e xs = true → NdOk X k (needsE e) → PE X (.BoolOp .And xs pos) (TV X T WE0 (ev e))
  | [], _, h, _ => by cases h
  | [x], e, h, nd => pe_one (hf e x h nd)
  | x :: y :: r, e, h, nd => by
    unfold mRow at h
    cases q : andOf e with
    | none => simp only [q] at h; cases h
    | some p =>
      obtain ⟨a, b⟩ := p
      simp only [q, Bool.and_eq_true] at h
      have ee := andOf_eq q
      subst ee
      simp only [needsE] at nd
      exact n_and (hf a x h.1 nd.l) (m_and hf h.2 nd.r)
theorem m_or {f : E → Expr → Bool} {pos : Pos} (hf : ∀ e t, f e t = true → NdOk X k (needsE e) → PE X t (TV X T WE0 (ev e))) : ∀ {xs : List Expr} {e : E}, mRow orOf f e xs = true → NdOk X k (needsE e) → PE X (.BoolOp .Or xs pos) (TV X T WE0 (ev e))
  | [], _, h, _ => by cases h
  | [x], e, h, nd => pe_one (hf e x h nd)
  | x :: y :: r, e, h, nd => by
    unfold mRow at h
    cases q : orOf e with
    | none => simp only [q] at h; cases h
    | some p =>
      obtain ⟨a, b⟩ := p
      simp only [q, Bool.and_eq_true] at h
      have ee := orOf_eq q
      subst ee
      simp only [needsE] at nd
      exact n_or (hf a x h.1 nd.l) (m_or hf h.2 nd.r)
theorem w_and {f : E → Expr → Bool} {pos : Pos} (hf : ∀ e t, f e t = true → NdOk X k (needsE e) → PT X t (TW X T WE0 (ev e))) : ∀ {xs : List Expr} {e : E}, mRow andOf f e xs = true → NdOk X k (needsE e) → PW X (.BoolOp .And xs pos) (TW X T WE0 (ev e))
  | [], _, h, _ => by cases h
  | [x], e, h, nd => pw_and1 (hf e x h nd)
  | x :: y :: r, e, h, nd => by
    unfold mRow at h
    cases q : andOf e with
    | none => simp only [q] at h; cases h
    | some p =>
      obtain ⟨a, b⟩ := p
      simp only [q, Bool.and_eq_true] at h
      have ee := andOf_eq q
      subst ee
      simp only [needsE] at nd
      exact t_and (hf a x h.1 nd.l) (w_and hf h.2 nd.r)
theorem w_or {f : E → Expr → Bool} {pos : Pos} (hf : ∀ e t, f e t = true → NdOk X k (needsE e) → PT X t (TW X T WE0 (ev e))) : ∀ {xs : List Expr} {e : E}, mRow orOf f e xs = true → NdOk X k (needsE e) → PW X (.BoolOp .Or xs pos) (TW X T WE0 (ev e))
  | [], _, h, _ => by cases h
  | [x], e, h, nd => pw_or1 (hf e x h nd)
  | x :: y :: r, e, h, nd => by
    unfold mRow at h
    cases q : orOf e with
    | none => simp only [q] at h; cases h
    | some p =>
      obtain ⟨a, b⟩ := p
      simp only [q, Bool.and_eq_true] at h
      have ee := orOf_eq q
      subst ee
      simp only [needsE] at nd
      exact t_or (hf a x h.1 nd.l) (w_or hf h.2 nd.r)
theorem m_src (V : Vx X k N ro sc T) {f : E → Expr → Bool} (hf : ∀ e t, f e t = true → NdOk X k (needsE e) → PE X t (TV X T WE0 (ev e))) {a : E} {tg t : Expr} (h : mSrc N sc f a tg t = true) (nd : NdOk X k (needsE a)) :
    PI X tg t (TI' X T WE0 (srcL a)) ∧ ∀ env x, foldedSetIterable t env x = pure x := by
  unfold mSrc at h
  rw [Bool.and_eq_true] at h
  obtain ⟨h0, h⟩ := h
  have hset : ∀ env x, foldedSetIterable t env x = pure x := fun env x => by
    cases t <;> first
      | rfl
      | cases h0
  refine ⟨?_, hset⟩
  split at h
  · rename_i as
    split at h
    · rename_i nm p xs pos
      simp only [Bool.and_eq_true, decide_eq_true_eq] at h
      obtain ⟨⟨⟨⟨⟨rfl, h2⟩, h3⟩, h4⟩, h5⟩, h6⟩ := h
      simp only [needsE] at nd
      obtain ⟨q1, q2, q3⟩ := m_args V hf h6 nd
      exact s_rng V (r_plain q1 h3) q2 h2 q3 h4 h5
    · cases h
  · rename_i as
    split at h
    · rename_i elts kk tp nm p x y pos
      simp only [Bool.and_eq_true, decide_eq_true_eq] at h
      obtain ⟨⟨⟨rfl, h2⟩, h3⟩, h4⟩ := h
      simp only [needsE] at nd
      obtain ⟨q1, q2, q3⟩ := m_args V hf h4 nd
      exact s_zip V (r_plain q1 h3) q2 h2 q3.symm
    · cases h
  · rename_i a
    split at h
    · rename_i elts kk tp nm p x pos
      simp only [Bool.and_eq_true, decide_eq_true_eq] at h
      obtain ⟨⟨⟨rfl, h2⟩, h3⟩, h4⟩ := h
      simp only [needsE] at nd
      exact s_enu V (hf a x h4 nd) h3 h2
    · cases h
  · exact s_val (hf _ t h nd)

theorem sub_nat {as bs : List Nat} (h : subNat as bs = true) : ∀ a ∈ as, a ∈ bs := fun a ha => by
  have := List.all_eq_true.mp h a ha
  exact List.contains_iff_mem.mp this
theorem blk_ok (V : Vx X k N ro sc T) {scope : Scope} {own : List (Str × Nat)} (h : blkC N sc scope own = true) : BlkOk X.N X.env.scope scope own := by
  have b := blkOk_by h
  rw [V.hN]
  refine ⟨b.kind, b.uniq, b.ix, fun y hy hf => ?_, b.own⟩
  have c : cfB sc y.1 = true := by
    rcases b.free y hy hf with z | z <;> simp [cfB, z]
  exact V.cf _ c
theorem relS_lookup {sc0 scope : Scope} {x : Str} {kk : NameKind} (h : scope.names.lookup x = some kk) : (relS scope sc0).names.lookup x = some kk ∨ (kk = .free ∧ (relS scope sc0).names.lookup x = some .cell) := by
  by_cases hk : kk = .free
  · subst hk
    have key : ∀ names : List (Str × NameKind), names.lookup x = some .free → (names.map fun (n, k) => if (k == NameKind.free && sc0.kind == .function && sc0.names.lookup n == some .cell) then (n, NameKind.cell) else (n, k)).lookup x = some .free ∨
        (names.map fun (n, k) => if (k == NameKind.free && sc0.kind == .function && sc0.names.lookup n == some .cell) then (n, NameKind.cell) else (n, k)).lookup x = some .cell := by
      intro names
      induction names with
      | nil => intro h; simp at h
      | cons p r ih =>
        obtain ⟨m, k0⟩ := p
        intro h
        show List.lookup x ((if (k0 == NameKind.free && sc0.kind == .function && sc0.names.lookup m == some .cell) = true then (m, NameKind.cell) else (m, k0)) :: (r.map _)) = _ ∨ List.lookup x ((if (k0 == NameKind.free && sc0.kind == .function && sc0.names.lookup m == some .cell) = true then (m, NameKind.cell) else (m, k0)) :: (r.map _)) = _
        cases hx : x == m with
        | true =>
          simp only [List.lookup_cons, hx] at h
          cases h
          by_cases hc : (NameKind.free == NameKind.free && sc0.kind == .function && sc0.names.lookup m == some .cell) = true
          · rw [if_pos hc]
            exact .inr (by simp only [List.lookup_cons, hx])
          · rw [if_neg hc]
            exact .inl (by simp only [List.lookup_cons, hx])
        | false =>
          simp only [List.lookup_cons, hx] at h
          by_cases hc : (k0 == NameKind.free && sc0.kind == .function && sc0.names.lookup m == some .cell) = true
          · rw [if_pos hc]; simp only [List.lookup_cons, hx]; exact ih h
          · rw [if_neg hc]; simp only [List.lookup_cons, hx]; exact ih h
    rcases key scope.names h with z | z
    · exact .inl z
    · exact .inr ⟨rfl, z⟩
  · exact .inl (lookup_relS_keep hk h)
theorem vx_blk (V : Vx X k N ro sc T) {scope : Scope} {T' : Ent} (ht : T'.io = T.io) (s : Shared) (H : Hp) (C : Addr) (cl : List (Str × Addr)) (fp : List Addr) : Vx (X.blk s H scope (compEnvC scope cl C X.env) fp) k N ro scope T' where
  hN := V.hN
  nd := V.nd
  calm := V.calm
  guards := V.guards
  room := V.room
  xe := rfl
  vis := fun x h => by
    unfold visB at h
    have go : ∀ {kk}, scope.names.lookup x = some kk → (kk = .local ∨ kk = .cell ∨ kk = .free) → Vis (relS scope X.env.scope) x := fun {kk} q z => by
      rcases relS_lookup (sc0 := X.env.scope) q with w | ⟨_, w⟩
      · rcases z with z | z | z
        · subst z; exact .inl w
        · subst z; exact .inr (.inl w)
        · subst z; exact .inr (.inr w)
      · exact .inr (.inl w)
    cases q : scope.names.lookup x with
    | none => rw [q] at h; cases h
    | some kk =>
      rw [q] at h
      refine go q ?_
      cases kk <;> first
        | exact .inl rfl
        | exact .inr (.inl rfl)
        | exact .inr (.inr rfl)
        | cases h
  gl := fun x h => by
    unfold glB at h
    cases q : scope.names.lookup x with
    | none => rw [q] at h; cases h
    | some kk =>
      rw [q] at h
      cases kk <;> first
        | (cases h; done)
        | skip
      rcases relS_lookup (sc0 := X.env.scope) q with w | ⟨z, _⟩
      · exact w
      · cases z
  cf := fun x h => by
    unfold cfB at h
    cases q : scope.names.lookup x with
    | none => rw [q] at h; cases h
    | some kk =>
      rw [q] at h
      rcases relS_lookup (sc0 := X.env.scope) q with w | ⟨z, w⟩
      · cases kk <;> first
          | (cases h; done)
          | exact .inl w
          | exact .inr w
      · exact .inl w
  loc := fun x h => by
    unfold locB at h
    cases q : scope.names.lookup x with
    | none => rw [q] at h; cases h
    | some kk =>
      rw [q] at h
      cases kk <;> first
        | (cases h; done)
        | skip
      · rcases relS_lookup (sc0 := X.env.scope) q with w | ⟨z, _⟩
        · exact ⟨.inl w, .inr w⟩
        · cases z
      · rcases relS_lookup (sc0 := X.env.scope) q with w | ⟨z, _⟩
        · refine ⟨.inr w, .inl ?_⟩
          show (scope.names.lookup x == some .cell) = true
          rw [q]; rfl
        · cases z
  ro := fun p hp => V.ro p (ht ▸ hp)
  bn := V.bn
theorem vx_T (V : Vx X k N ro sc T) {T' : Ent} (ht : T'.io = T.io) : Vx X k N ro sc T' := ⟨V.hN, V.nd, V.calm, V.guards, V.room, V.xe, V.vis, V.gl, V.cf, V.loc, fun p hp => V.ro p (ht ▸ hp), V.bn⟩
end
end Vi
end
section
set_option maxHeartbeats 4000000
namespace Vi
open PySem L2
section
variable {X : Cx} {k : Nat} {N : List Str} {ro : List Nat} {sc : Scope} {T : Ent} {n : Nat}
theorem boot_bi {f : Bi} {v : Value} (h : biV f = some v) : bootBuiltins (biName f) = some v := by
  cases f <;> first
    | (cases h; done)
    | skip
  all_goals simp only [biV, Option.some.injEq] at h
  all_goals subst h
  all_goals decide +kernel
theorem walk_lc (V : Vx X k N ro sc T) (ih : Wlk N ro n) {own : List Nat} {tg : Tg} {src elt : E} {cond : List E} {el tg' it : Expr} {ifs : List Expr} {scope : Scope}
    (h2 : (ownN N own).map (·.2) = own) (h3 : subNat (tgS tg) own = true) (h4 : blkC N sc scope (ownN N own) = true) (h5 : mSrc N sc (mt N ro n sc) src tg' it = true) (h6 : mTg N ro scope tg tg' = true) (h7 : mIfs (mtT N ro n scope) cond ifs = true) (h8 : mt N ro n scope elt el = true)
    (nd : NdOk X k (needsE (.lc own tg src cond elt))) : PI X tg' it (TI' X T WE0 (srcL src)) ∧ (∀ env x, foldedSetIterable it env x = pure x) ∧ BlkOk X.N X.env.scope scope (ownN N own) ∧
      (∀ (s : Shared) (H : Hp) (C : Addr) (cl : List (Str × Addr)) (fp : List Addr), PG (X.blk s H scope (compEnvC scope cl C X.env) fp) tg' (exG T.io fun T => GT X T tg)) ∧
      (∀ (s : Shared) (H : Hp) (C : Addr) (cl : List (Str × Addr)) (fp : List Addr), PTs (X.blk s H scope (compEnvC scope cl C X.env) fp) ifs (exW T.io fun T => TW X T WE0 (condR cond))) ∧
      (∀ (s : Shared) (H : Hp) (C : Addr) (cl : List (Str × Addr)) (fp : List Addr), PE (X.blk s H scope (compEnvC scope cl C X.env) fp) el (exE T.io fun T => TV X T WE0 (ev elt))) := by
  simp only [needsE] at nd
  obtain ⟨q1, q2⟩ := m_src V (fun e t he hn => (ih X k sc T V).1 e t he hn) h5 nd.l.l
  refine ⟨q1, q2, blk_ok V h4, fun s H C cl fp => ?_, fun s H C cl fp => ?_, fun s H C cl fp => ?_⟩
  · refine ⟨fun pins s' σ H' v u Q I r ⟨T', ht, q⟩ => ?_⟩
    exact (pg_tg (vx_blk V ht s H C cl fp) tg tg' h6).run pins s' σ H' v u Q I r q
  · have nd2 : NdOk X k (needsEs cond) := nd.l.r
    match cond, ifs, h7, nd2 with
    | [], [], _, _ =>
      refine ⟨fun pins s' σ H' Q I ⟨T', ht, q⟩ => pts_nil.run pins s' σ H' Q I ?_⟩
      obtain ⟨G, e, S, q⟩ := q
      unfold condR at q
      simp only [evs] at q
      obtain ⟨b, eb, q⟩ := q
      cases eb
      exact q H' G S (Ext.refl G)
    | [a], [x], h7, nd2 =>
      refine ⟨fun pins s' σ H' Q I ⟨T', ht, q⟩ => (pts_one ((ih _ k scope T' (vx_blk V ht s H C cl fp)).2 a x h7 (by simp only [needsEs, List.append_nil] at nd2; exact nd2))).run pins s' σ H' Q I ?_⟩
      obtain ⟨G, e, S, q⟩ := q
      refine ⟨G, e, S, ?_⟩
      unfold condR at q
      simp only [evs] at q
      cases z : ev a e with
      | no => rw [z] at q; exact q
      | ex y e' => rw [z] at q; exact q
      | ok d e' => rw [z] at q; exact q
    | [], _ :: _, h7, _ => cases h7
    | _ :: _, [], h7, _ => simp [mIfs] at h7
    | [_], _ :: _ :: _, h7, _ => cases h7
    | _ :: _ :: _, [_], h7, _ => cases h7
    | _ :: _ :: _, _ :: _ :: _, h7, _ => cases h7
  · refine ⟨fun pins s' σ H' Q I ⟨T', ht, q⟩ => ?_⟩
    exact ((ih _ k scope T' (vx_blk V ht s H C cl fp)).1 elt el h8 nd.r).run pins s' σ H' Q I q
theorem walk : ∀ n, Wlk N ro n
  | 0 => fun X k sc T V => ⟨fun e t h => (by unfold mt at h; cases h), fun e t h => (by unfold mtT at h; cases h)⟩
  | n + 1 => fun X k sc T V => by
    have ih := walk n
    have iE : ∀ e t, mt N ro n sc e t = true → NdOk X k (needsE e) → PE X t (TV X T WE0 (ev e)) := (ih X k sc T V).1
    have iT : ∀ e t, mtT N ro n sc e t = true → NdOk X k (needsE e) → PT X t (TW X T WE0 (ev e)) := (ih X k sc T V).2
    have hE : ∀ e t, mt N ro (n + 1) sc e t = true → NdOk X k (needsE e) → PE X t (TV X T WE0 (ev e)) := by
      intro e t h nd
      unfold mt at h
      split at h
      case h_1 => -- eno
        exact ⟨fun pins s σ H Q I ⟨G, e, S, h⟩ => by simp only [ev] at h; exact h.elim⟩
      case h_2 => -- non
        split at h
        · exact pe_imp (n_const (T := T) (WE := WE0) pe_non fun G => .non) fun σ H Q ⟨G, e, S, h⟩ => ⟨G, e, S, by simp only [ev] at h; exact h⟩
        · cases h
      case h_3 => -- bl
        split at h
        · have h := of_decide_eq_true h
          subst h
          exact pe_imp (n_const (T := T) (WE := WE0) pe_bl fun G => .bl _) fun σ H Q ⟨G, e, S, h⟩ => ⟨G, e, S, by simp only [ev] at h; exact h⟩
        · cases h
      case h_4 => -- int
        split at h
        · have h := of_decide_eq_true h
          subst h
          exact pe_imp (n_const (T := T) (WE := WE0) pe_int fun G => .int _) fun σ H Q ⟨G, e, S, h⟩ => ⟨G, e, S, by simp only [ev] at h; exact h⟩
        · cases h
      case h_5 => -- str
        split at h
        · have h := of_decide_eq_true h
          subst h
          exact pe_imp (n_const (T := T) (WE := WE0) pe_str fun G => .str _) fun σ H Q ⟨G, e, S, h⟩ => ⟨G, e, S, by simp only [ev] at h; exact h⟩
        · cases h
      case h_6 i => -- var
        simp only [Bool.and_eq_true, Bool.not_eq_true'] at h
        have hi : i ∉ ro := fun z => by rw [List.contains_iff_mem.mpr z] at h; exact absurd h.2 (by decide)
        exact pe_imp (n_slot V h.1).1 fun σ H Q ⟨G, e, S, h⟩ => slot_var S (V.noio hi) (by simp only [ev] at h; exact h)
      case h_7 x d => -- gl
        split at h
        · simp only [Bool.and_eq_true, decide_eq_true_eq] at h
          obtain ⟨⟨rfl, h2⟩, h3⟩ := h
          obtain ⟨_, o2, _⟩ := ok_ne h3
          obtain ⟨u, v, g1, g2, g3⟩ := nd (.gl x d) (by simp [needsE])
          exact pe_imp (n_const (T := T) (WE := WE0) (pe_glob (V.gl _ h2) g1 g2 o2) g3) fun σ H Q ⟨G, e, S, h⟩ => ⟨G, e, S, by simp only [ev] at h; exact h⟩
        · cases h
      case h_8 x => -- fnv
        split at h
        · simp only [Bool.and_eq_true, decide_eq_true_eq] at h
          obtain ⟨⟨rfl, h2⟩, h3⟩ := h
          obtain ⟨_, o2, _⟩ := ok_ne h3
          obtain ⟨a, g1⟩ := nd (.fv x) (by simp [needsE])
          exact pe_imp (n_const (T := T) (WE := WE0) (d := .fn x) (v := .ref a) (pe_glob (V.gl _ h2) g1 rfl o2) fun G => .fn g1) fun σ H Q ⟨G, e, S, h⟩ => ⟨G, e, S, by simp only [ev] at h; exact h⟩
        · cases h
      case h_9 op a b => -- bin
        split at h
        · simp only [Bool.and_eq_true, decide_eq_true_eq] at h
          obtain ⟨⟨rfl, h2⟩, h3⟩ := h
          simp only [needsE] at nd
          exact n_bin op (iE _ _ h2 nd.l) (iE _ _ h3 nd.r)
        · cases h
      case h_10 a => -- neg
        split at h
        · simp only [needsE] at nd
          exact n_neg (iE _ _ h nd)
        · cases h
      case h_11 c a b => -- cmp
        split at h
        · simp only [Bool.and_eq_true, decide_eq_true_eq, Bool.not_eq_true'] at h
          obtain ⟨⟨⟨rfl, h2⟩, h3⟩, h4⟩ := h
          simp only [needsE] at nd
          exact (n_cmp V.units c (iE _ _ h2 nd.l) (iE _ _ h3 nd.r) h4).1
        · cases h
      case h_12 c1 c2 a b c => -- chn
        split at h
        · simp only [Bool.and_eq_true, decide_eq_true_eq, Bool.not_eq_true'] at h
          obtain ⟨⟨⟨⟨⟨rfl, rfl⟩, h2⟩, h3⟩, h4⟩, h5⟩ := h
          simp only [needsE] at nd
          exact (n_chn V.units c1 c2 (iE _ _ h2 nd.l.l) (iE _ _ h3 nd.l.r) (iE _ _ h4 nd.r) h5).1
        · cases h
      case h_13 a b => -- and
        split at h
        · exact m_and iE h nd
        · cases h
      case h_14 a b => -- or
        split at h
        · exact m_or iE h nd
        · cases h
      case h_15 a => -- not
        split at h
        · simp only [needsE] at nd
          exact n_not (iE _ _ h nd)
        · cases h
      case h_16 c a b => -- ite
        split at h
        · simp only [Bool.and_eq_true] at h
          obtain ⟨⟨h1, h2⟩, h3⟩ := h
          simp only [needsE] at nd
          exact n_ite (iT _ _ h1 nd.l.l) (iE _ _ h2 nd.l.r) (iE _ _ h3 nd.r)
        · cases h
      case h_17 es => -- tup
        split at h
        · simp only [Bool.and_eq_true] at h
          obtain ⟨⟨h1, h2⟩, h3⟩ := h
          simp only [needsE] at nd
          exact n_tup (r_plain (m_args V iE h3 nd).1 h1) h2 evs_length
        · cases h
      case h_18 es => -- lst
        split at h
        · simp only [Bool.and_eq_true] at h
          obtain ⟨⟨h1, h2⟩, h3⟩ := h
          simp only [needsE] at nd
          exact n_lst (r_plain (m_args V iE h3 nd).1 h1) h2 evs_length
        · cases h
      case h_19 x F es => -- call
        split at h
        · simp only [Bool.and_eq_true, decide_eq_true_eq] at h
          obtain ⟨⟨⟨⟨rfl, h2⟩, h3⟩, h4⟩, h5⟩ := h
          simp only [needsE] at nd
          obtain ⟨q1, q2, q3⟩ := m_args V iE h4 fun d hd => nd d (List.mem_cons_of_mem _ hd)
          exact n_call V (nd _ List.mem_cons_self) q1 q2 (V.gl _ h2) h3 h5 fun z => by subst z; exact List.eq_nil_of_length_eq_zero (by simpa using q3.symm)
        · cases h
      case h_20 x F ks perm es ws => -- callk
        split at h
        · simp only [Bool.and_eq_true, decide_eq_true_eq] at h
          obtain ⟨⟨⟨⟨⟨⟨⟨rfl, h2⟩, h3⟩, h4⟩, h5⟩, h6⟩, h7⟩, h8⟩ := h
          simp only [needsE] at nd
          have nd2 : NdOk X k (needsEs es ++ needsEs ws) := fun d hd => nd d (List.mem_cons_of_mem _ hd)
          obtain ⟨q1, q2, q3⟩ := m_args V iE h5 nd2.l
          exact n_callk V (nd _ List.mem_cons_self) (r_plain q1 h4) (m_kws iE h6 nd2.r) q2 (V.gl _ h2) h3 h7 (fun z => by subst z; exact List.eq_nil_of_length_eq_zero (by simpa using q3.symm)) h8
        · cases h
      case h_21 f es => -- bi
        split at h
        · simp only [Bool.and_eq_true, decide_eq_true_eq] at h
          obtain ⟨⟨⟨⟨⟨⟨h1, h2⟩, h3⟩, h4⟩, h5⟩, h6⟩, h7⟩ := h
          obtain ⟨v, hv⟩ := Option.isSome_iff_exists.mp h3
          simp only [needsE] at nd
          obtain ⟨q1, q2, q3⟩ := m_args V iE h7 nd
          subst h1
          exact n_bi V.calm V.guards V.units hv (boot_bi hv) (V.gl _ h4) (V.bn _ (List.contains_iff_mem.mp h2)) h5 (r_plain q1 h6) q2
        · cases h
      case h_22 a ts => -- isi
        simp only [needsE] at nd
        exact n_isi V (fun x hx => iE _ _ hx nd) h
      case h_23 a b => -- ix
        split at h
        · simp only [Bool.and_eq_true] at h
          obtain ⟨⟨h1, h2⟩, h3⟩ := h
          simp only [needsE] at nd
          exact n_ix (iE _ _ h2 nd.l) (iE _ _ h3 nd.r) h1
        · cases h
      case h_24 a b c => -- sl
        split at h
        · simp only [Bool.and_eq_true] at h
          obtain ⟨⟨h1, h2⟩, h3⟩ := h
          simp only [needsE] at nd
          exact n_sl (iE _ _ h1 nd.l.l) (m_end iE h2 nd.l.r) (m_end iE h3 nd.r)
        · cases h
      case h_25 a => -- rev
        split at h
        · simp only [Bool.and_eq_true, decide_eq_true_eq] at h
          obtain ⟨rfl, h2⟩ := h
          simp only [needsE] at nd
          exact n_rev (iE _ _ h2 nd)
        · cases h
      case h_26 own tg src cond elt => -- lc
        split at h
        · simp only [Bool.and_eq_true, decide_eq_true_eq] at h
          obtain ⟨⟨⟨⟨⟨⟨⟨rfl, h2⟩, h3⟩, h4⟩, h5⟩, h6⟩, h7⟩, h8⟩ := h
          obtain ⟨w1, w2, w3, w4, w5, w6⟩ := walk_lc V ih h2 h3 h4 h5 h6 h7 h8 nd
          refine pe_imp (pe_lc V.calm (by rw [V.hN]; exact V.nd) w1 w3 w4 w5 w6 (w2 _)) fun σ H Q hq => ?_
          rw [h2]
          exact lc_sem (sub_nat h3) (tf_tv lc_lst hq)
        · cases h
      case h_27 m a es => -- mth
        split at h
        · rename_i nm id o at' ap pos hm
          simp only [Bool.and_eq_true, decide_eq_true_eq] at h
          obtain ⟨⟨⟨rfl, h2⟩, h3⟩, h4⟩ := h
          simp only [needsE] at nd
          exact n_mth0 hm (iE _ _ h2 nd.l) h3 h4
        · rename_i nm id b o at' ap y pos hm
          simp only [Bool.and_eq_true, decide_eq_true_eq] at h
          obtain ⟨⟨⟨⟨⟨rfl, h2⟩, h3⟩, h4⟩, h5⟩, h6⟩ := h
          simp only [needsE, needsEs, List.append_nil] at nd
          exact n_mth1 hm (iE _ _ h2 nd.l) (iE _ _ h5 nd.r) h6 h3 h4
        · cases h
      case h_28 i => -- pop
        split at h
        · simp only [Bool.and_eq_true, decide_eq_true_eq] at h
          obtain ⟨⟨rfl, h2⟩, h3⟩ := h
          obtain ⟨q1, q2, q3⟩ := n_slot V h2
          exact n_pop q1 q3 h3
        · cases h
      case h_29 i b => -- pix
        split at h
        · simp only [Bool.and_eq_true] at h
          obtain ⟨⟨h1, h2⟩, h3⟩ := h
          simp only [needsE] at nd
          exact n_pix (n_slot V h2).1 (iE _ _ h3 nd) h1
        · cases h
      case h_30 i => -- plen
        split at h
        · simp only [Bool.and_eq_true, decide_eq_true_eq] at h
          obtain ⟨⟨rfl, h2⟩, h3⟩ := h
          obtain ⟨q1, q2, q3⟩ := n_slot V h3
          exact n_plen V q1 q2 h2
        · cases h
      case h_31 c i b => -- pcmp
        split at h
        · simp only [Bool.and_eq_true, decide_eq_true_eq, Bool.not_eq_true'] at h
          obtain ⟨⟨⟨⟨rfl, h2⟩, h3⟩, h4⟩, h5⟩ := h
          simp only [needsE] at nd
          exact (n_pcmp V h2 (n_slot V h3).1 (iE _ _ h4 nd) h5).1
        · cases h
      case h_32 i b c => -- psl
        split at h
        · simp only [Bool.and_eq_true] at h
          obtain ⟨⟨h1, h2⟩, h3⟩ := h
          simp only [needsE] at nd
          exact n_psl (n_slot V h1).1 (m_end iE h2 nd.l) (m_end iE h3 nd.r)
        · cases h
      case h_33 c a i => -- pin
        split at h
        · simp only [Bool.and_eq_true, decide_eq_true_eq, Bool.not_eq_true'] at h
          obtain ⟨⟨⟨⟨rfl, h2⟩, h3⟩, h4⟩, h5⟩ := h
          simp only [needsE] at nd
          exact (n_pin V h2 (n_slot V h3).1 (iE _ _ h4 nd) h5).1
        · cases h
      case h_34 => cases h
    refine ⟨hE, ?_⟩
    intro e t h nd
    have nd : NdOk X k (needsE e) := nd
    have viaE : ∀ {e t}, (plainT t && mt N ro n sc e t) = true → NdOk X k (needsE e) → PT X t (TW X T WE0 (ev e)) := fun {e t} h nd => by
      rw [Bool.and_eq_true] at h
      exact t_val (iE e t h.2 nd) h.1
    unfold mtT at h
    split at h
    · split at h
      · exact (w_and iT h nd).pt
      · cases h
    · split at h
      · exact (w_or iT h nd).pt
      · cases h
    · split at h
      · simp only [needsE] at nd
        exact t_not (iT _ _ h nd)
      · cases h
    · split at h
      · simp only [Bool.and_eq_true, decide_eq_true_eq, Bool.not_eq_true'] at h
        obtain ⟨⟨⟨rfl, h2⟩, h3⟩, h4⟩ := h
        simp only [needsE] at nd
        exact (n_cmp V.units _ (iE _ _ h2 nd.l) (iE _ _ h3 nd.r) h4).2
      · cases h
    · split at h
      · simp only [Bool.and_eq_true, decide_eq_true_eq, Bool.not_eq_true'] at h
        obtain ⟨⟨⟨⟨⟨rfl, rfl⟩, h2⟩, h3⟩, h4⟩, h5⟩ := h
        simp only [needsE] at nd
        exact (n_chn V.units _ _ (iE _ _ h2 nd.l.l) (iE _ _ h3 nd.l.r) (iE _ _ h4 nd.r) h5).2
      · cases h
    · split at h
      · simp only [Bool.and_eq_true, decide_eq_true_eq, Bool.not_eq_true'] at h
        obtain ⟨⟨⟨⟨rfl, h2⟩, h3⟩, h4⟩, h5⟩ := h
        simp only [needsE] at nd
        exact (n_pcmp V h2 (n_slot V h3).1 (iE _ _ h4 nd) h5).2
      · cases h
    · split at h
      · simp only [Bool.and_eq_true, decide_eq_true_eq, Bool.not_eq_true'] at h
        obtain ⟨⟨⟨⟨rfl, h2⟩, h3⟩, h4⟩, h5⟩ := h
        simp only [needsE] at nd
        exact (n_pin V h2 (n_slot V h3).1 (iE _ _ h4 nd) h5).2
      · cases h
    · exact viaE h nd
end
end Vi
end
section
set_option maxHeartbeats 4000000
namespace Vi
open PySem L2

section
variable {X : Cx} {k : Nat} {N : List Str} {ro : List Nat} {sc : Scope} {T : Ent} {n : Nat} {σ : St} {H G : Hp} {e : Env}
theorem new_own {p : Addr} {o : HO} (S : Stt X.K X.mg T H G σ e) (hp : H p = none) : Stt X.K X.mg T (upd H p o) G σ e ∧ G p = none ∧ T.He p = none ∧ ¬ OwnAt σ e p :=
  ⟨S.made0 hp, S.noG hp, S.entry hp, fun ⟨j, d, o1, o2⟩ => by
    obtain ⟨_, _, u, hu⟩ := S.ownThere o1 o2
    rw [hp] at hu; cases hu⟩
theorem f_lst {xs : List Expr} {as : List E} {pos : Pos} (h : PA X xs (TL X T WE0 (evs as))) (hz : Nat.ble as.length 1000 = true) : PE X (.List xs pos) (TF X T WE0 (ev (.lst as))) := by
  refine pe_imp (pe_lst h) fun σ H Q ⟨G, e, S, h⟩ => ?_
  simp only [ev] at h
  have h1 := h.bind
  have hz := Nat.le_of_ble_eq_true hz
  cases q : evs as e with
  | no => rw [q] at h1; exact h1.elim
  | ex x e' => rw [q] at h1; exact ⟨G, e, S, by rw [q]; exact h1⟩
  | ok ds e' =>
    rw [q] at h1
    have el := evs_length q
    refine ⟨G, e, S, ?_⟩
    rw [q]
    intro vs H1 G1 S1 x1 r1
    refine ⟨by rw [r1.length, el]; exact Nat.le_trans hz (by decide), fun p hp => ?_⟩
    obtain ⟨S', g, he, no⟩ := new_own (o := .lst vs) S1 hp
    obtain ⟨dl, ed, h1⟩ := h1
    cases ed
    exact h1 p vs _ G1 S' x1 upd_same r1 g he no
theorem f_list {a : E} {x : Expr} {p pos : Pos} (V : Vx X k N ro sc T) (ha : PE X x (TV X T WE0 (ev a))) (hs : notStar x = true) (gl : glB sc "list" = true) : PE X (.Call (.Name "list" p) [x] [] pos) (TF X T WE0 (ev (.bi .list [a]))) := by
  refine pe_imp (pe_callTy call_list_of (V.gl _ gl) (V.bn _ (by decide +kernel)) (by decide +kernel) (pa_cons ha pa_nil (star1 hs)) (by decide) (by decide) (star1 hs) rfl) fun σ H Q ⟨G, e, S, h⟩ => ?_
  simp only [ev, evs] at h
  refine tV_then S h.bind.bind fun d e1 v H1 G1 h1 S1 x1 r1 => ?_
  obtain ⟨dz, hz, q⟩ := (RW.bind h1).opt
  obtain ⟨dl, ed, q⟩ := q
  cases ed
  cases r1 with
  | lst g r =>
    cases hz
    refine ⟨_, _, rfl, .inl (.inl (.inl (S1.sub _ _ g))), fun p hp => ?_⟩
    obtain ⟨S', g', he, no⟩ := new_own (o := .lst _) S1 hp
    exact q p _ _ G1 S' x1 upd_same r g' he no
  | tup g r =>
    cases hz
    refine ⟨_, _, rfl, .inr (SqT.mono S1.sub g), fun p hp => ?_⟩
    obtain ⟨S', g', he, no⟩ := new_own (o := .lst _) S1 hp
    exact q p _ _ G1 S' x1 upd_same r g' he no
  | _ => simp [biD] at hz
theorem f_add {a b : E} {x y : Expr} {pos : Pos} (ha : PE X x (TV X T WE0 (ev a))) (hb : PE X y (TV X T WE0 (ev b))) : PE X (.BinOp x .Add y pos) (TF X T WE0 (ev (.bin .add a b))) := by
  refine pe_imp (pe_op op_cat ha hb) fun σ H Q ⟨G, e, S, h⟩ => ?_
  simp only [ev] at h
  refine tV_then S h.bind fun dx e1 v H1 G1 h1 S1 x1 r1 => tV_then S1 h1.bind fun dy e2 w H2 G2 h2 S2 x2 r2 => ?_
  obtain ⟨dz, hz, dl, ed, q⟩ := h2.opt
  subst ed
  rcases add_cases hz with ⟨i, j, _, _, z⟩ | ⟨a, b, _, _, z, _⟩ | ⟨a, b, rfl, rfl, z, hl⟩ | ⟨a, b, _, _, z, _⟩ <;> first
    | (cases z; done)
    | skip
  cases z
  cases r1 with
  | lst g1 r1 =>
    cases r2 with
    | lst g2 r2 =>
      refine ⟨_, _, _, _, rfl, rfl, S2.sub _ _ (x2 _ _ g1), S2.sub _ _ g2, by rw [r1.length, r2.length]; exact len_line hl, fun p hp => ?_⟩
      obtain ⟨S', g', he, no⟩ := new_own (o := .lst _) S2 hp
      exact q p _ _ G2 S' (x1.trans x2) upd_same ((r1.mono x2).app r2) g' he no
theorem f_mul {a b : E} {x y : Expr} {pos : Pos} (ha : PE X x (TV X T WE0 (ev a))) (hb : PE X y (TV X T WE0 (ev b))) : PE X (.BinOp x .Mult y pos) (TF X T WE0 (ev (.bin .mul a b))) := by
  refine pe_imp (pe_op op_rep ha hb) fun σ H Q ⟨G, e, S, h⟩ => ?_
  simp only [ev] at h
  refine tV_then S h.bind fun dx e1 v H1 G1 h1 S1 x1 r1 => tV_then S1 h1.bind fun dy e2 w H2 G2 h2 S2 x2 r2 => ?_
  obtain ⟨dz, hz, dl, ed, q⟩ := h2.opt
  subst ed
  rcases mul_cases hz with ⟨i, j, _, _, z, _⟩ | ⟨a, j, rfl, rfl, z, h3, h4, hl⟩ | ⟨a, j, _, _, z, _⟩ <;> first
    | (cases z; done)
    | skip
  cases z
  cases r1 with
  | lst g1 r1 =>
    cases r2
    refine ⟨_, j, _, rfl, rfl, S2.sub _ _ (x2 _ _ g1), by omega, by omega, by rw [r1.length]; exact len_line hl, fun p hp => ?_⟩
    obtain ⟨S', g', he, no⟩ := new_own (o := .lst _) S2 hp
    exact q p _ _ G2 S' (x1.trans x2) upd_same ((r1.mono x2).rep _) g' he no
theorem f_rev {a : E} {x : Expr} {kk : Nat} {p1 p2 p3 pos : Pos} (ha : PE X x (TV X T WE0 (ev a))) : PE X (.Subscript x (.Slice none none (some (.UnaryOp .USub (.Constant (.int 1) kk p1) p2)) p3) pos) (TF X T WE0 (ev (.rev a))) := by
  refine pe_imp (pe_revL ha) fun σ H Q ⟨G, e, S, h⟩ => ?_
  simp only [ev] at h
  refine tV_then S h.bind fun dx e1 v H1 G1 h1 S1 x1 r1 => ?_
  obtain ⟨dz, hz, dl, ed, q⟩ := h1.opt
  subst ed
  cases r1 <;> first
    | (simp [revD] at hz; done)
    | skip
  rename_i a xs ds g r
  cases hz
  refine ⟨_, _, rfl, .inl (.inl (S1.sub _ _ g)), fun p hp => ?_⟩
  obtain ⟨S', g', he, no⟩ := new_own (o := .lst _) S1 hp
  exact q p _ _ G1 S' x1 upd_same r.rev g' he no
/-- new lists -/
def mF (N : List Str) (ro : List Nat) (n : Nat) (sc : Scope) (e : E) (t : Expr) : Bool := match e with
  | .lst es => (match t with | .List xs _ => plainEs es && Nat.ble es.length 1000 && mArgs N sc (mt N ro n sc) es xs | _ => false)
  | .bi .list [a] => (match t with | .Call (.Name y _) [x] [] _ => decide (y = "list") && glB sc "list" && notStar x && mt N ro n sc a x | _ => false)
  | .bin .add a b => (match t with | .BinOp x .Add y _ => mt N ro n sc a x && mt N ro n sc b y | _ => false)
  | .bin .mul a b => (match t with | .BinOp x .Mult y _ => mt N ro n sc a x && mt N ro n sc b y | _ => false)
  | .rev a => (match t with | .Subscript x (.Slice none none (some (.UnaryOp .USub (.Constant (.int i) _ _) _)) _) _ => decide (i = 1) && mt N ro n sc a x | _ => false)
  | .lc own tg src cond elt => (match t with
      | .ListComp el [⟨tg', it, ifs, as⟩] scope _ => decide (as = 0) && decide ((ownN N own).map (·.2) = own) && subNat (tgS tg) own && blkC N sc scope (ownN N own) && mSrc N sc (mt N ro n sc) src tg' it && mTg N ro scope tg tg' && mIfs (mtT N ro n scope) cond ifs && mt N ro n scope elt el
      | _ => false)
  | _ => false
theorem walkF (V : Vx X k N ro sc T) {e : E} {t : Expr} (h : mF N ro n sc e t = true) (nd : NdOk X k (needsE e)) : PE X t (TF X T WE0 (ev e)) := by
  have ih := walk (N := N) (ro := ro) n
  have iE : ∀ e t, mt N ro n sc e t = true → NdOk X k (needsE e) → PE X t (TV X T WE0 (ev e)) := (ih X k sc T V).1
  unfold mF at h
  split at h
  · split at h
    · simp only [Bool.and_eq_true] at h
      obtain ⟨⟨h1, h2⟩, h3⟩ := h
      simp only [needsE] at nd
      exact f_lst (r_plain (m_args V iE h3 nd).1 h1) h2
    · cases h
  · split at h
    · simp only [Bool.and_eq_true, decide_eq_true_eq] at h
      obtain ⟨⟨⟨rfl, h2⟩, h3⟩, h4⟩ := h
      simp only [needsE, needsEs, List.append_nil] at nd
      exact f_list V (iE _ _ h4 nd) h3 h2
    · cases h
  · split at h
    · simp only [Bool.and_eq_true] at h
      simp only [needsE] at nd
      exact f_add (iE _ _ h.1 nd.l) (iE _ _ h.2 nd.r)
    · cases h
  · split at h
    · simp only [Bool.and_eq_true] at h
      simp only [needsE] at nd
      exact f_mul (iE _ _ h.1 nd.l) (iE _ _ h.2 nd.r)
    · cases h
  · split at h
    · simp only [Bool.and_eq_true, decide_eq_true_eq] at h
      obtain ⟨rfl, h2⟩ := h
      simp only [needsE] at nd
      exact f_rev (iE _ _ h2 nd)
    · cases h
  · split at h
    · simp only [Bool.and_eq_true, decide_eq_true_eq] at h
      obtain ⟨⟨⟨⟨⟨⟨⟨rfl, h2⟩, h3⟩, h4⟩, h5⟩, h6⟩, h7⟩, h8⟩ := h
      obtain ⟨w1, w2, w3, w4, w5, w6⟩ := walk_lc V ih h2 h3 h4 h5 h6 h7 h8 nd
      refine pe_imp (pe_lc V.calm (by rw [V.hN]; exact V.nd) w1 w3 w4 w5 w6 (w2 _)) fun σ H Q hq => ?_
      rw [h2]
      exact lc_sem (sub_nat h3) hq
    · cases h
  · cases h
end

/-- ends as D wants -/
def KS (X : Cx) (T : Ent) (D : Ends) (G : Hp) (m : RS) : Prop := match m with
  | .nx e => ∀ σ' H' G', Stt X.K X.mg T H' G' σ' e → Ext G G' → D.nx σ' H'
  | .rt d e => ∀ v σ' H' G', Stt X.K X.mg T H' G' σ' e → Ext G G' → Rep X.K X.mg G' v d → D.rt v H'
  | .bk e => ∀ σ' H' G', Stt X.K X.mg T H' G' σ' e → Ext G G' → D.bk σ' H'
  | .ct e => ∀ σ' H' G', Stt X.K X.mg T H' G' σ' e → Ext G G' → D.ct σ' H'
  | .ex x e => WE0 x e
  | .no => False
def TSt (X : Cx) (T : Ent) (f : Env → RS) : TS := fun D σ H => ∃ G e, Stt X.K X.mg T H G σ e ∧ KS X T D G (f e)
section
variable {X : Cx} {k : Nat} {N : List Str} {ro : List Nat} {sc : Scope} {T : Ent} {n : Nat}
theorem KS.mono {D : Ends} {G G' : Hp} {m : RS} (h : KS X T D G m) (x : Ext G G') : KS X T D G' m := by
  cases m with
  | nx e => exact fun σ' H' G2 S x2 => h σ' H' G2 S (x.trans x2)
  | rt d e => exact fun v σ' H' G2 S x2 r => h v σ' H' G2 S (x.trans x2) r
  | bk e => exact fun σ' H' G2 S x2 => h σ' H' G2 S (x.trans x2)
  | ct e => exact fun σ' H' G2 S x2 => h σ' H' G2 S (x.trans x2)
  | ex x e => exact h
  | no => exact h
theorem KS.st {D : Ends} {G : Hp} {m : R Vi.D} {f : Vi.D → Env → RS} (h : KS X T D G (m.st f)) : RW WE0 m fun d e => KS X T D G (f d e) := by
  cases m <;> exact h
theorem KS.sts {D : Ends} {G : Hp} {m : R (List Vi.D)} {f : List Vi.D → Env → RS} (h : KS X T D G (m.sts f)) : RW WE0 m fun d e => KS X T D G (f d e) := by
  cases m <;> exact h
theorem KS.opt {D : Ends} {G : Hp} {o : Option Env} (h : KS X T D G (RS.opt o)) : ∃ e, o = some e ∧ KS X T D G (.nx e) := by
  cases o with
  | none => exact h.elim
  | some e => exact ⟨e, rfl, h⟩
theorem st_seq {f g : Env → RS} : ∀ D σ H, TSt X T (fun e => (f e).seq g) D σ H → tSeq (TSt X T f) (TSt X T g) D σ H := fun D σ H ⟨G, e, S, h⟩ => by
  refine ⟨G, e, S, ?_⟩
  have h : KS X T D G ((f e).seq g) := h
  cases q : f e with
  | nx e' => rw [q] at h; exact fun σ' H' G' S' x' => ⟨G', e', S', h.mono x'⟩
  | rt d e' => rw [q] at h; exact h
  | bk e' => rw [q] at h; exact h
  | ct e' => rw [q] at h; exact h
  | ex x e' => rw [q] at h; exact h
  | no => rw [q] at h; exact h

theorem for_sem {tg : Tg} {src : E} {body : List S} : ∀ D σ H, TSt X T (ex1 (.fo tg src body)) D σ H → tFor (TI' X T WE0 (srcL src)) (GT X T tg) (TSt X T (exs body)) D σ H := fun D σ H ⟨G, e, S, h⟩ => by
  simp only [ex1] at h
  refine ⟨G, e, S, ?_⟩
  have h := h.st
  show RW WE0 ((ev src e).bind fun d e => R.opt (itemsD d) e) _
  cases q0 : ev src e with
  | no => rw [q0] at h; exact h
  | ex x e' => rw [q0] at h; exact h
  | ok s e0 =>
    rw [q0] at h
    have h : KS X T D G (match itemsD s with | some ds => forL tg (exs body) ds e0 | none => .no) := h
    cases qi : itemsD s with
    | none => rw [qi] at h; exact h.elim
    | some ds =>
      rw [qi] at h
      show RW WE0 (R.opt (itemsD s) e0) _
      rw [qi]
      intro H1 G1 J S1 x1 F
      refine ⟨fun i m σ H => m = ds.length - i ∧ i ≤ ds.length ∧ ∃ G2 e2, Stt X.K X.mg T H G2 σ e2 ∧ Ext G1 G2 ∧ KS X T D G1 (forL tg (exs body) (ds.drop i) e2), ⟨ds.length, rfl, Nat.zero_le _, G1, e0, S1, Ext.refl G1, h.mono x1⟩, ?_⟩
      rintro i m σ2 H2 ⟨rfl, hi, G2, e2, S2, x2, hk⟩
      by_cases hlt : i < ds.length
      · have hd : ds[i]? = some ds[i] := List.getElem?_eq_getElem hlt
        rw [List.drop_eq_getElem_cons hlt] at hk
        unfold forL at hk
        cases qa : asgT tg ds[i] e2 with
        | none => rw [qa] at hk; exact hk.elim
        | some e3 =>
          rw [qa] at hk
          simp only at hk
          refine .inr ⟨F.go i H2 _ (x2.trans S2.sub) hd, fun σ H => ∃ G2 e2, Stt X.K X.mg T H G2 σ e2 ∧ Ext G1 G2 ∧ KS X T D G1 (forL tg (exs body) (ds.drop (i + 1)) e2), fun σ' H' w => ⟨ds.length - (i + 1), by omega, rfl, hlt, w⟩, fun x H3 hy => ?_⟩
          obtain ⟨G3, S3, x3, r3⟩ := F.yld i H2 x H3 _ (x2.trans S2.sub) hd hy _ _ _ _ S2 x2
          refine ⟨G3, ds[i], e2, e3, S3, r3, qa, fun σ4 H4 G4 S4 x4 _ _ => ⟨G4, e3, S4, ?_⟩⟩
          cases qe : exs body e3 with
          | nx e4 => rw [qe] at hk; exact fun σ' H' G' S' x' => ⟨G', e4, S', x2.trans (x3.trans (x4.trans x')), hk⟩
          | ct e4 => rw [qe] at hk; exact fun σ' H' G' S' x' => ⟨G', e4, S', x2.trans (x3.trans (x4.trans x')), hk⟩
          | bk e4 => rw [qe] at hk; exact fun σ' H' G' S' x' => hk σ' H' G' S' (x2.trans (x3.trans (x4.trans x')))
          | rt d e4 => rw [qe] at hk; exact fun v σ' H' G' S' x' r => hk v σ' H' G' S' (x2.trans (x3.trans (x4.trans x'))) r
          | ex x e4 => rw [qe] at hk; exact hk
          | no => rw [qe] at hk; exact hk
      · have ei : i = ds.length := by omega
        rw [ei, List.drop_length] at hk
        unfold forL at hk
        exact .inl ⟨F.stop i H2 (x2.trans S2.sub) (by omega), hk σ2 H2 G2 S2 x2⟩
theorem wh_sem {c : E} {body : List S} : ∀ D σ H, TSt X T (ex1 (.wh c body)) D σ H → tWhile (TW X T WE0 (ev c)) (TSt X T (exs body)) D σ H := fun D σ H ⟨G, e, S, h⟩ => by
  simp only [ex1] at h
  obtain ⟨m0, hm0⟩ : ∃ m, m = FUEL := ⟨_, rfl⟩
  rw [← hm0] at h
  refine ⟨fun m σ H => ∃ G1 e1, Stt X.K X.mg T H G1 σ e1 ∧ Ext G G1 ∧ KS X T D G (whN (ev c) (exs body) m e1), ⟨m0, G, e, S, Ext.refl G, h⟩, ?_⟩
  rintro m σ1 H1 ⟨G1, e1, S1, x1, hk⟩
  cases m with
  | zero => unfold whN at hk; exact hk.elim
  | succ m =>
    unfold whN at hk
    refine ⟨G1, e1, S1, ?_⟩
    cases qc : ev c e1 with
    | no => rw [qc] at hk; exact hk
    | ex x e' => rw [qc] at hk; exact hk
    | ok d e2 =>
      rw [qc] at hk
      cases d with
      | bl b =>
        refine ⟨b, rfl, fun H2 G2 S2 x2 => ?_⟩
        cases b with
        | false => exact hk σ1 H2 G2 S2 (x1.trans x2)
        | true =>
          have hk : KS X T D G (match exs body e2 with
              | .nx e => whN (ev c) (exs body) m e
              | .ct e => whN (ev c) (exs body) m e
              | .bk e => .nx e
              | r => r) := hk
          refine ⟨fun σ H => ∃ G1 e1, Stt X.K X.mg T H G1 σ e1 ∧ Ext G G1 ∧ KS X T D G (whN (ev c) (exs body) m e1), fun σ' H' w => ⟨m, Nat.lt_succ_self m, w⟩, G2, e2, S2, ?_⟩
          cases qe : exs body e2 with
          | nx e4 => rw [qe] at hk; exact fun σ' H' G' S' x' => ⟨G', e4, S', x1.trans (x2.trans x'), hk⟩
          | ct e4 => rw [qe] at hk; exact fun σ' H' G' S' x' => ⟨G', e4, S', x1.trans (x2.trans x'), hk⟩
          | bk e4 => rw [qe] at hk; exact fun σ' H' G' S' x' => hk σ' H' G' S' (x1.trans (x2.trans x'))
          | rt d e4 => rw [qe] at hk; exact fun v σ' H' G' S' x' r => hk v σ' H' G' S' (x1.trans (x2.trans x')) r
          | ex x e4 => rw [qe] at hk; exact hk
          | no => rw [qe] at hk; exact hk
      | _ => exact hk.elim
end
end Vi
end
section
set_option maxHeartbeats 4000000
namespace Vi
open PySem L2

mutual
def needsS : S → List Need
  | .asg _ e => needsE e
  | .own _ e => needsE e
  | .par _ es => needsEs es
  | .seti _ a b => needsE a ++ needsE b
  | .app _ e => needsE e
  | .ext _ e => needsE e
  | .ex e => needsE e
  | .ife c a b => needsE c ++ needsSs a ++ needsSs b
  | .fo _ src body => needsE src ++ needsSs body
  | .wh c body => needsE c ++ needsSs body
  | .ret e => needsE e
  | .ownc _ x F es => .fn x F (es.map isIov) :: needsEs es
  | .spl x F es _ => .fn x F (es.map isIov) :: needsEs es
  | _ => []
def needsSs : List S → List Need
  | [] => []
  | s :: ss => needsS s ++ needsSs ss
end
def locL (sc : Scope) (x : Str) : Bool := match sc.names.lookup x with
  | some .local => true
  | _ => false
theorem locL_eq {sc : Scope} {x : Str} (h : locL sc x = true) : sc.names.lookup x = some .local := by
  unfold locL at h
  split at h
  · assumption
  · cases h
theorem locL_ne {sc : Scope} {x : Str} (h : locL sc x = false) : (sc.names.lookup x == some .local) = false := by
  unfold locL at h
  split at h
  · cases h
  · rename_i z
    cases q : sc.names.lookup x with
    | none => rfl
    | some k =>
      cases k <;> first
        | rfl
        | exact absurd q z
def isSwap (sc : Scope) (tg t : Expr) : Bool := match tg, t with
  | .Name y py, .ListComp _ _ scope pos => locL sc y && (py.line == pos.line) && !(scope.names.any fun (n, k) => n == y && (k == .local || k == .cell))
  | _, _ => false
def notSD : Expr → Bool
  | .SetComp .. => false
  | .DictComp .. => false
  | _ => true
theorem no_swap {env : PySem.Env} {sc : Scope} {tg t : Expr} {l : Nat} (hsc : env.scope = sc) (hk : sc.kind = .function) (h1 : notSD t = true) (h2 : isSwap sc tg t = false) : swapsWith t (some tg) l env = pure false := by
  cases t <;> first
    | rfl
    | (cases h1; done)
    | skip
  rename_i elt gs scope pos
  cases tg <;> first
    | rfl
    | skip
  rename_i y py
  have hb : env.blockKind = .function := by unfold Env.blockKind; rw [hsc, hk]; rfl
  have ky : (env.kindOf y == some .local) = locL sc y := by
    show (env.scope.names.lookup y == some .local) = _
    rw [hsc]
    cases q : locL sc y with
    | true => rw [locL_eq q]; rfl
    | false => exact locL_ne q
  unfold swapsWith
  simp only [hb, ky, Expr.pos]
  have h2 : (locL sc y && (py.line == pos.line) && !(scope.names.any fun (n, k) => n == y && (k == .local || k == .cell))) = false := h2
  show pure ((ScopeKind.function == ScopeKind.function) && locL sc y && (py.line == pos.line) && !(scope.names.any fun (n, k) => n == y && (k == .local || k == .cell))) = pure false
  rw [show (ScopeKind.function == ScopeKind.function) = true from rfl, Bool.true_and, h2]
def headLine (ts : List Expr) : Nat := (ts.head?.map (·.pos.line)).getD 0
def badT (sc : Scope) (l : Nat) : Expr → Bool
  | .Name x p => !(locL sc x && (p.line == l))
  | _ => true
def noStores (sc : Scope) (tg t : Expr) : Bool := match tg, t with
  | .Tuple ts _ _, .Tuple vs _ _ => ts.any (badT sc (headLine ts)) || vs.all (foldedForSure 8)
  | .List .., _ => false
  | _, _ => true
theorem filter_bad {sc : Scope} {env : PySem.Env} (hsc : env.scope = sc) {l : Nat} : ∀ {ts : List Expr}, (ts.filterMap fun
    | .Name id pos => if env.kindOf id == some .local && pos.line == l then some id else none
    | _ => none).length ≤ ts.length ∧ (ts.any (badT sc l) = true → (ts.filterMap fun
    | .Name id pos => if env.kindOf id == some .local && pos.line == l then some id else none
    | _ => none).length < ts.length)
  | [] => ⟨Nat.le_refl _, fun h => by cases h⟩
  | t :: ts => by
    obtain ⟨h1, h2⟩ := filter_bad hsc (l := l) (ts := ts)
    rw [List.filterMap_cons]
    split
    · exact ⟨Nat.le_succ_of_le h1, fun _ => Nat.lt_succ_of_le h1⟩
    · rename_i b hb
      refine ⟨Nat.succ_le_succ h1, fun h => Nat.succ_lt_succ (h2 ?_)⟩
      rw [List.any_cons, Bool.or_eq_true] at h
      rcases h with h | h
      · exfalso
        cases t <;> first
          | (cases hb; done)
          | skip
        rename_i x p
        have hb : (if (env.kindOf x == some .local && p.line == l) = true then some x else none) = some b := hb
        have h : (!(locL sc x && (p.line == l))) = true := h
        split at hb
        · rename_i c
          rw [Bool.and_eq_true] at c
          have ky : env.scope.names.lookup x = some .local := beq_iff_eq.mp c.1
          rw [hsc] at ky
          have : locL sc x = true := by unfold locL; rw [ky]
          rw [this, c.2] at h
          cases h
        · cases hb
      · exact h
theorem no_stores {env : PySem.Env} {sc : Scope} {tg t : Expr} (hsc : env.scope = sc) (h : noStores sc tg t = true) : swappedStores [tg] t env = pure none := by
  cases tg <;> first
    | rfl
    | (cases h; done)
    | skip
  rename_i ts kk p
  cases t <;> first
    | rfl
    | skip
  rename_i vs k2 p2
  have h : (ts.any (badT sc (headLine ts)) || vs.all (foldedForSure 8)) = true := h
  unfold swappedStores
  simp only
  split
  · rfl
  · split
    · rfl
    · rw [Bool.or_eq_true] at h
      rcases h with h | h
      · have := (filter_bad hsc (l := headLine ts) (ts := ts)).2 h
        rw [if_pos]
        rw [Bool.or_eq_true]
        refine .inl ?_
        rw [bne_iff_ne]
        exact Nat.ne_of_lt this
      · split
        · rfl
        · simp only [h, if_true]
/-- two, three names stored at once -/
def par2 (sc : Scope) (x y : Str) (px py : Pos) (vs : List Expr) : Bool := locL sc x && locL sc y && (py.line == px.line) && !decide (x = y) && notStars vs && !vs.all (foldedForSure 8) && !vs.all (constantsAlone 8)
theorem noStar_any {vs : List Expr} (h : notStars vs = true) : (vs.any fun x => match x with | .Starred _ _ => true | _ => false) = false := by
  rw [List.any_eq_false]
  intro x hx
  have := List.all_eq_true.mp h x hx
  cases x <;> first
    | exact Bool.false_ne_true
    | cases this
theorem par2_stores {env : PySem.Env} {sc : Scope} {x y : Str} {px py pt pt2 : Pos} {a b : Expr} {kt k2 : Nat} (hsc : env.scope = sc) (hk : sc.kind = .function) (h : par2 sc x y px py [a, b] = true) :
    swappedStores [.Tuple [.Name x px, .Name y py] kt pt] (.Tuple [a, b] k2 pt2) env = pure (some [x, y]) := by
  simp only [par2, Bool.and_eq_true, Bool.not_eq_true', decide_eq_false_iff_not] at h
  obtain ⟨⟨⟨⟨⟨⟨h1, h2⟩, h3⟩, h4⟩, h5⟩, h6⟩, h7⟩ := h
  have hb : env.blockKind = .function := by unfold Env.blockKind; rw [hsc, hk]; rfl
  have kx : (env.kindOf x == some .local) = true := by
    show (env.scope.names.lookup x == some .local) = true
    rw [hsc, locL_eq h1]; rfl
  have ky : (env.kindOf y == some .local) = true := by
    show (env.scope.names.lookup y == some .local) = true
    rw [hsc, locL_eq h2]; rfl
  have e1 : (y == x) = false := beq_eq_false_iff_ne.mpr fun z => h4 z.symm
  have e2 : (x == y) = false := beq_eq_false_iff_ne.mpr h4
  have hns := noStar_any h5
  unfold swappedStores
  simp only [hb, List.filterMap_cons, List.filterMap_nil, List.head?_cons, Option.map_some, Option.getD_some, Expr.pos, kx, ky, h3, Bool.true_and, beq_self_eq_true, if_true]
  split
  · rename_i q
    exact absurd (show (false = true) from q) Bool.false_ne_true
  · split
    · rename_i q
      exact absurd ((noStar_any h5).symm.trans q) Bool.false_ne_true
    · rw [if_neg (by simp [List.eraseDups_cons, e1, e2, h4, Ne.symm h4]), if_neg (by rw [h6]; exact Bool.false_ne_true), if_neg (by rw [h7]; exact Bool.false_ne_true)]
def par3 (sc : Scope) (x y z : Str) (px py pz : Pos) (vs : List Expr) : Bool := locL sc x && locL sc y && locL sc z && (py.line == px.line) && (pz.line == px.line) && !decide (x = y) && !decide (x = z) && !decide (y = z) && notStars vs && !vs.all (foldedForSure 8) && !vs.all (constantsAlone 8)
theorem par3_stores {env : PySem.Env} {sc : Scope} {x y z : Str} {px py pz pt pt2 : Pos} {a b c : Expr} {kt k2 : Nat} (hsc : env.scope = sc) (hk : sc.kind = .function) (h : par3 sc x y z px py pz [a, b, c] = true) :
    swappedStores [.Tuple [.Name x px, .Name y py, .Name z pz] kt pt] (.Tuple [a, b, c] k2 pt2) env = pure (some [x, y, z]) := by
  simp only [par3, Bool.and_eq_true, Bool.not_eq_true', decide_eq_false_iff_not] at h
  obtain ⟨⟨⟨⟨⟨⟨⟨⟨⟨⟨h1, h2⟩, h3⟩, h4⟩, h5⟩, h6⟩, h7⟩, h8⟩, h9⟩, h10⟩, h11⟩ := h
  have hb : env.blockKind = .function := by unfold Env.blockKind; rw [hsc, hk]; rfl
  have key : ∀ {w : Str}, locL sc w = true → (env.kindOf w == some .local) = true := fun {w} hw => by
    show (env.scope.names.lookup w == some .local) = true
    rw [hsc, locL_eq hw]; rfl
  have kx := key h1
  have ky := key h2
  have kz := key h3
  have hns := noStar_any h9
  unfold swappedStores
  simp only [hb, List.filterMap_cons, List.filterMap_nil, List.head?_cons, Option.map_some, Option.getD_some, Expr.pos, kx, ky, kz, h4, h5, Bool.true_and, beq_self_eq_true, if_true]
  split
  · rename_i q
    exact absurd (show (false = true) from q) Bool.false_ne_true
  · split
    · rename_i q
      exact absurd ((noStar_any h9).symm.trans q) Bool.false_ne_true
    · rw [if_neg (by simp [List.eraseDups_cons, h6, h7, h8, Ne.symm h6, Ne.symm h7, Ne.symm h8]), if_neg (by rw [h10]; exact Bool.false_ne_true), if_neg (by rw [h11]; exact Bool.false_ne_true)]
end Vi
end
section
set_option maxHeartbeats 4000000
namespace Vi
open PySem L2

def notComp : Expr → Bool
  | .ListComp .. => false
  | .SetComp .. => false
  | .DictComp .. => false
  | _ => true
/-- a value and where it goes -/
def mAsg (N : List Str) (ro : List Nat) (n : Nat) (sc : Scope) (own : Bool) (tg : Tg) (e : E) (tg' t : Expr) : Bool :=
  mTg N ro sc tg tg' && notStar tg' && (if isSwap sc tg' t then (match tg, e with
      | .nm _, .lc .. => mF N ro n sc e t
      | _, _ => false)
    else notSD t && noStores sc tg' t && (if own then mF N ro n sc e t else mt N ro n sc e t))
def mPar (N : List Str) (ro : List Nat) (n : Nat) (sc : Scope) (is : List Nat) (es : List E) (tg t : Expr) : Bool := match is, tg, t with
  | [i, j], .Tuple [.Name x px, .Name y py] _ _, .Tuple [a, b] _ _ => decide (N[i]? = some x) && decide (N[j]? = some y) && !ro.contains i && !ro.contains j && par2 sc x y px py [a, b] && plainEs es && mArgs N sc (mt N ro n sc) es [a, b]
  | [i, j, l], .Tuple [.Name x px, .Name y py, .Name z pz] _ _, .Tuple [a, b, c] _ _ => decide (N[i]? = some x) && decide (N[j]? = some y) && decide (N[l]? = some z) && !ro.contains i && !ro.contains j && !ro.contains l && par3 sc x y z px py pz [a, b, c] && plainEs es && mArgs N sc (mt N ro n sc) es [a, b, c]
  | _, _, _ => false
def mSpl (N : List Str) (ro : List Nat) (n : Nat) (sc : Scope) (x : Str) (es : List E) (sel : Option Int) (o : Expr) : Bool := match sel, o with
  | none, .Call (.Name y _) xs [] _ => decide (x = y) && glB sc x && okName x && plainEs es && mArgs N sc (mt N ro n sc) es xs && !xs.isEmpty
  | some i, .Subscript (.Call (.Name y _) xs [] _) (.Constant (.int j) _ _) _ => decide (i = j) && decide (x = y) && glB sc x && okName x && plainEs es && mArgs N sc (mt N ro n sc) es xs
  | _, _ => false
mutual
def mS (N : List Str) (ro : List Nat) (n : Nat) (sc : Scope) : Nat → S → Stmt → Bool
  | 0, _, _ => false
  | m + 1, s, t => match s with
    | .sno => true
    | .pas => (match t with | .Pass _ => true | .Expr (.Constant (.str _) _ _) _ => true | _ => false)
    | .asg tg e => (match t with | .Assign [tg'] t _ => mAsg N ro n sc false tg e tg' t | _ => false)
    | .own i e => (match t with | .Assign [tg'] t _ => mAsg N ro n sc true (.nm i) e tg' t | _ => false)
    | .par is es => (match t with | .Assign [tg'] t _ => mPar N ro n sc is es tg' t | _ => false)
    | .seti i kk v => (match t with | .Assign [.Subscript o y _] t _ => mVar N sc i o && notSlice y && notComp t && mt N ro n sc v t && mt N ro n sc kk y | _ => false)
    | .app i e => (match t with | .Expr (.Call (.Attribute x at' ap) [y] [] pos) _ => decide (at' = "append") && mVar N sc i x && notStar y && mt N ro n sc e y && (ap.endLine == pos.line) | _ => false)
    | .ext i e => (match t with | .Expr (.Call (.Attribute x at' ap) [y] [] pos) _ => decide (at' = "extend") && mVar N sc i x && notStar y && mt N ro n sc e y && (ap.endLine == pos.line) | _ => false)
    | .ex e => (match t with | .Expr t _ => notComp t && mt N ro n sc e t | _ => false)
    | .ife c a b => (match t with | .If c' a' b' _ => mtT N ro n sc c c' && mSs N ro n sc m a a' && mSs N ro n sc m b b' | _ => false)
    | .fo tg src body => (match t with | .For tg' it body' [] _ => mSrc N sc (mt N ro n sc) src tg' it && mTg N ro sc tg tg' && mSs N ro n sc m body body' | _ => false)
    | .wh c body => (match t with | .While c' body' [] _ => mtT N ro n sc c c' && mSs N ro n sc m body body' | _ => false)
    | .ownc i x _ es => (match t with | .Assign [tg'] (.Call (.Name y _) xs [] _) _ => mTg N ro sc (.nm i) tg' && decide (x = y) && glB sc x && okName x && plainEs es && mArgs N sc (mt N ro n sc) es xs | _ => false)
    | .spl x _ es sel => (match t with | .Expr (.Call (.Attribute o at' ap) [.Constant .none _ _] [] pos) _ => decide (at' = "append") && (ap.endLine == pos.line) && mSpl N ro n sc x es sel o | _ => false)
    | .ret e => (match t with | .Return (some t) _ => mt N ro n sc e t | .Return none _ => isNon e | _ => false)
    | _ => false
def mSs (N : List Str) (ro : List Nat) (n : Nat) (sc : Scope) : Nat → List S → List Stmt → Bool
  | 0, _, _ => false
  | m + 1, ss, ts => match ss, ts with
    | [], [] => true
    | s :: ss, t :: ts => mS N ro n sc m s t && mSs N ro n sc m ss ts
    | _, _ => false
end

section
variable {X : Cx} {k : Nat} {N : List Str} {ro : List Nat} {sc : Scope} {T : Ent} {n : Nat}
theorem asg_sem {tg : Tg} {a : E} : ∀ D σ H, TSt X T (ex1 (.asg tg a)) D σ H → tAsg (TV X T WE0 (ev a)) (GT X T tg) D σ H := fun D σ H ⟨G, e, S, h⟩ => by
  simp only [ex1] at h
  refine tV_then S h.st fun d e1 v H1 G1 h1 S1 x1 r1 => ?_
  obtain ⟨e2, h2, h3⟩ := h1.opt
  exact ⟨G1, d, e1, e2, S1, r1, h2, fun σ' H' G' S' x' _ _ => h3 σ' H' G' S' (x1.trans x')⟩
theorem own_sem {i : Nat} {a : E} (hi : ∀ b, (i, b) ∉ T.io) : ∀ D σ H, TSt X T (ex1 (.own i a)) D σ H → tAsg (TF X T WE0 (ev a)) (gName i) D σ H := fun D σ H ⟨G, e, S, h⟩ => by
  simp only [ex1] at h
  refine ⟨G, e, S, h.st.mono fun d e1 h1 => ?_⟩
  cases d <;> first
    | exact h1.elim
    | skip
  rename_i ds
  refine ⟨ds, rfl, fun a vs H' G' S' x' ha r g he no => ?_⟩
  have h1 : KS X T D G (.nx (setS e1 i (.ow (.lst ds)))) := h1
  exact h1 _ H' G' (S'.storeOwn hi g he (.inl ⟨vs, ds, rfl, ha, r⟩) fun j dj hj hs => no ⟨j, dj, hj, hs⟩) x'
theorem asgF_sem {i : Nat} {a : E} (hi : ∀ b, (i, b) ∉ T.io) (hf : ∀ e d e', ev a e = .ok d e' → ∃ ds, d = .lst ds) : ∀ D σ H, TSt X T (ex1 (.asg (.nm i) a)) D σ H → tAsg (TF X T WE0 (ev a)) (gName i) D σ H := fun D σ H ⟨G, e, S, h⟩ => by
  simp only [ex1] at h
  have h := h.st
  refine tf_tv hf ⟨G, e, S, h.mono fun d e1 h1 v H' G' S' x' r => ?_⟩
  obtain ⟨e2, h2, h3⟩ := h1.opt
  unfold asgT at h2
  cases h2
  exact h3 _ H' G' (S'.store hi r) x'
theorem mF_lc {own : List Nat} {tg : Tg} {src elt : E} {cond : List E} {t : Expr} (h : mF N ro n sc (.lc own tg src cond elt) t = true) : ∃ el tg' it ifs scope pos, t = .ListComp el [⟨tg', it, ifs, 0⟩] scope pos ∧ (ownN N own).map (·.2) = own ∧ subNat (tgS tg) own = true ∧ blkC N sc scope (ownN N own) = true ∧
    mSrc N sc (mt N ro n sc) src tg' it = true ∧ mTg N ro scope tg tg' = true ∧ mIfs (mtT N ro n scope) cond ifs = true ∧ mt N ro n scope elt el = true := by
  unfold mF at h
  simp only at h
  split at h
  · simp only [Bool.and_eq_true, decide_eq_true_eq] at h
    obtain ⟨⟨⟨⟨⟨⟨⟨rfl, h2⟩, h3⟩, h4⟩, h5⟩, h6⟩, h7⟩, h8⟩ := h
    exact ⟨_, _, _, _, _, _, rfl, h2, h3, h4, h5, h6, h7, h8⟩
  · cases h
theorem m_asg (V : Vx X k N ro sc T) (hsc : X.env.scope = sc) (hk : sc.kind = .function) {tg : Tg} {a : E} {tg' t : Expr} {pos : Pos} (h : mAsg N ro n sc false tg a tg' t = true) (nd : NdOk X k (needsE a)) : PS X (.Assign [tg'] t pos) (TSt X T (ex1 (.asg tg a))) := by
  unfold mAsg at h
  simp only [Bool.and_eq_true] at h
  obtain ⟨⟨h1, h0⟩, h2⟩ := h
  split at h2
  · rename_i hsw
    split at h2
    · rename_i i own tg2 src cond elt
      -- the swapped store of a comprehension
      unfold isSwap at hsw
      split at hsw
      · rename_i y py el gs scope lpos
        simp only [Bool.and_eq_true, Bool.not_eq_true'] at hsw
        obtain ⟨⟨s1, s2⟩, s3⟩ := hsw
        have hy := locL_eq s1
        unfold mTg at h1
        simp only [Bool.and_eq_true, decide_eq_true_eq, Bool.not_eq_true'] at h1
        obtain ⟨⟨⟨n1, n2⟩, n3⟩, n4⟩ := h1
        have hi : i ∉ ro := fun z => by rw [List.contains_iff_mem.mpr z] at n4; cases n4
        obtain ⟨el', tg'', it, ifs, scope', pos', et, k2, h3, h4, h5, h6, h7, h8⟩ := mF_lc h2
        cases et
        obtain ⟨w1, w2, w3, w4, w5, w6⟩ := walk_lc V (walk n) k2 h3 h4 h5 h6 h7 h8 nd
        have hsw := sw_true (elt := el) (gs := [⟨tg'', it, ifs, 0⟩]) (l := pos.line) (show X.env.scope.kind = .function by rw [hsc]; exact hk) (show X.env.scope.names.lookup y = some .local by rw [hsc]; exact hy) s2 s3
        refine ps_imp (ps_setLc V.calm (by rw [V.hN]; exact V.nd) (by rw [V.hN]; exact n1) (by rw [hsc]; exact hy) hsw w1 w3 w4 w5 w6 (w2 _)) fun D σ H hq => ?_
        have hq := asgF_sem (V.noio hi) lc_lst D σ H hq
        show tLc _ _ _ _ ((ownN N own).map (·.2)) σ H _
        rw [k2]
        exact lc_sem (sub_nat h3) hq
      · cases hsw
    · cases h2
  · rename_i hsw
    simp only [Bool.and_eq_true, Bool.false_eq_true, if_false] at h2
    obtain ⟨⟨h3, h4⟩, h5⟩ := h2
    have hns : notStars [tg'] = true := by simp only [notStars, List.all_cons, List.all_nil, Bool.and_true]; exact h0
    refine ps_imp (ps_asg (((walk n) X k sc T V).1 a t h5 nd) (pg_tg V tg tg' h1) (no_swap hsc hk h3 (by simpa using hsw)) (no_stores hsc h4) (by rw [assign_each hns]; rfl)) asg_sem
theorem m_own (V : Vx X k N ro sc T) (hsc : X.env.scope = sc) (hk : sc.kind = .function) {i : Nat} {a : E} {tg' t : Expr} {pos : Pos} (h : mAsg N ro n sc true (.nm i) a tg' t = true) (nd : NdOk X k (needsE a)) : PS X (.Assign [tg'] t pos) (TSt X T (ex1 (.own i a))) := by
  unfold mAsg at h
  simp only [Bool.and_eq_true] at h
  obtain ⟨⟨h1, h0⟩, h2⟩ := h
  unfold mTg at h1
  split at h1
  · rename_i y py
    simp only [Bool.and_eq_true, decide_eq_true_eq, Bool.not_eq_true'] at h1
    obtain ⟨⟨⟨n1, n2⟩, n3⟩, n4⟩ := h1
    have hi : i ∉ ro := fun z => by rw [List.contains_iff_mem.mpr z] at n4; cases n4
    split at h2
    · rename_i hsw
      split at h2
      · rename_i i' own tg2 src cond elt hh
        unfold isSwap at hsw
        split at hsw
        · rename_i y' py' el gs scope lpos heq0
          cases heq0
          simp only [Bool.and_eq_true, Bool.not_eq_true'] at hsw
          obtain ⟨⟨s1, s2⟩, s3⟩ := hsw
          have hy := locL_eq s1
          obtain ⟨el', tg'', it, ifs, scope', pos', et, k2, h3, h4, h5, h6, h7, h8⟩ := mF_lc h2
          cases et
          obtain ⟨w1, w2, w3, w4, w5, w6⟩ := walk_lc V (walk n) k2 h3 h4 h5 h6 h7 h8 nd
          have hsw := sw_true (elt := el) (gs := [⟨tg'', it, ifs, 0⟩]) (l := pos.line) (show X.env.scope.kind = .function by rw [hsc]; exact hk) (show X.env.scope.names.lookup y = some .local by rw [hsc]; exact hy) s2 s3
          refine ps_imp (ps_setLc V.calm (by rw [V.hN]; exact V.nd) (by rw [V.hN]; exact n1) (by rw [hsc]; exact hy) hsw w1 w3 w4 w5 w6 (w2 _)) fun D σ H hq => ?_
          have hq := own_sem (V.noio hi) D σ H hq
          show tLc _ _ _ _ ((ownN N own).map (·.2)) σ H _
          rw [k2]
          exact lc_sem (sub_nat h3) hq
        · cases hsw
      · cases h2
    · rename_i hsw
      simp only [Bool.and_eq_true, if_true] at h2
      obtain ⟨⟨h3, h4⟩, h5⟩ := h2
      obtain ⟨l1, l2⟩ := V.loc _ n2
      exact ps_imp (ps_asg (walkF V h5 nd) (pg_name (by rw [V.hN]; exact V.nd) (by rw [V.hN]; exact n1) l1 l2) (no_swap (tg := Expr.Name y py) (l := pos.line) hsc hk h3 (by simpa using hsw)) (no_stores hsc h4) rfl) (own_sem (V.noio hi))
  · cases h1
theorem par_sem2 {i j : Nat} {es : List E} (hi : ∀ b, (i, b) ∉ T.io) (hj : ∀ b, (j, b) ∉ T.io) : ∀ D σ H, TSt X T (ex1 (.par [i, j] es)) D σ H → tPar i j (TL X T WE0 (evs es)) D σ H := fun D σ H ⟨G, e, S, h⟩ => by
  simp only [ex1] at h
  refine tL_then S h.sts fun ds e1 vs H1 G1 h1 S1 x1 r1 => ?_
  obtain ⟨e2, h2, h3⟩ := h1.opt
  match ds, h2, r1 with
  | [d, d'], h2, r1 =>
    simp only [setSs, Option.some.injEq] at h2
    subst h2
    obtain ⟨v, w, rfl, rv, rw'⟩ := r1.two
    exact ⟨v, w, rfl, h3 _ H1 G1 ((S1.store hi rv).store hj rw') x1⟩
  | [], h2, _ => cases h2
  | [_], h2, _ => cases h2
  | _ :: _ :: _ :: _, h2, _ => cases h2
theorem par_sem3 {i j l : Nat} {es : List E} (hi : ∀ b, (i, b) ∉ T.io) (hj : ∀ b, (j, b) ∉ T.io) (hl : ∀ b, (l, b) ∉ T.io) : ∀ D σ H, TSt X T (ex1 (.par [i, j, l] es)) D σ H → tPar3 i j l (TL X T WE0 (evs es)) D σ H := fun D σ H ⟨G, e, S, h⟩ => by
  simp only [ex1] at h
  refine tL_then S h.sts fun ds e1 vs H1 G1 h1 S1 x1 r1 => ?_
  obtain ⟨e2, h2, h3⟩ := h1.opt
  match ds, h2, r1 with
  | [d, d', d''], h2, .cons ru r2 =>
    simp only [setSs, Option.some.injEq] at h2
    subst h2
    obtain ⟨v, w, rfl, rv, rw'⟩ := r2.two
    exact ⟨_, v, w, rfl, h3 _ H1 G1 (((S1.store hi ru).store hj rv).store hl rw') x1⟩
  | [], h2, _ => cases h2
  | [_], h2, _ => cases h2
  | [_, _], h2, _ => cases h2
  | _ :: _ :: _ :: _ :: _, h2, _ => cases h2
theorem notc {ro : List Nat} {i : Nat} (h : ro.contains i = false) : i ∉ ro := fun z => by rw [List.contains_iff_mem.mpr z] at h; cases h
theorem m_par (V : Vx X k N ro sc T) (hsc : X.env.scope = sc) (hk : sc.kind = .function) {is : List Nat} {es : List E} {tg' t : Expr} {pos : Pos} (h : mPar N ro n sc is es tg' t = true) (nd : NdOk X k (needsEs es)) : PS X (.Assign [tg'] t pos) (TSt X T (ex1 (.par is es))) := by
  have iE := ((walk (N := N) (ro := ro) n) X k sc T V).1
  unfold mPar at h
  split at h
  · rename_i i j x px y py kt pt a b k2 pt2
    simp only [Bool.and_eq_true, decide_eq_true_eq, Bool.not_eq_true'] at h
    obtain ⟨⟨⟨⟨⟨⟨h1, h2⟩, h3⟩, h4⟩, h5⟩, h6⟩, h7⟩ := h
    have hw := par2_stores (pt := pt) (pt2 := pt2) (kt := kt) (k2 := k2) hsc hk h5
    simp only [par2, Bool.and_eq_true, Bool.not_eq_true', decide_eq_false_iff_not] at h5
    obtain ⟨⟨⟨⟨⟨⟨l1, l2⟩, _⟩, ne⟩, _⟩, _⟩, _⟩ := h5
    have hij : i ≠ j := fun z => by subst z; rw [h1] at h2; exact ne (Option.some.inj h2)
    exact ps_imp (ps_par V.calm (by rw [V.hN]; exact V.nd) (by rw [V.hN]; exact h1) (by rw [V.hN]; exact h2) hij (by rw [hsc]; exact locL_eq l1) (by rw [hsc]; exact locL_eq l2) (r_plain (m_args V iE h7 nd).1 h6) hw) (par_sem2 (V.noio (notc h3)) (V.noio (notc h4)))
  · rename_i i j l x px y py z pz kt pt a b c k2 pt2
    simp only [Bool.and_eq_true, decide_eq_true_eq, Bool.not_eq_true'] at h
    obtain ⟨⟨⟨⟨⟨⟨⟨⟨h1, h2⟩, h2'⟩, h3⟩, h4⟩, h4'⟩, h5⟩, h6⟩, h7⟩ := h
    have hw := par3_stores (pt := pt) (pt2 := pt2) (kt := kt) (k2 := k2) hsc hk h5
    simp only [par3, Bool.and_eq_true, Bool.not_eq_true', decide_eq_false_iff_not] at h5
    obtain ⟨⟨⟨⟨⟨⟨⟨⟨⟨⟨l1, l2⟩, l3⟩, _⟩, _⟩, ne1⟩, ne2⟩, ne3⟩, _⟩, _⟩, _⟩ := h5
    have hij : i ≠ j := fun z => by subst z; rw [h1] at h2; exact ne1 (Option.some.inj h2)
    have hil : i ≠ l := fun z => by subst z; rw [h1] at h2'; exact ne2 (Option.some.inj h2')
    have hjl : j ≠ l := fun z => by subst z; rw [h2] at h2'; exact ne3 (Option.some.inj h2')
    exact ps_imp (ps_par3 V.calm (by rw [V.hN]; exact V.nd) (by rw [V.hN]; exact h1) (by rw [V.hN]; exact h2) (by rw [V.hN]; exact h2') hij hil hjl (by rw [hsc]; exact locL_eq l1) (by rw [hsc]; exact locL_eq l2) (by rw [hsc]; exact locL_eq l3) (r_plain (m_args V iE h7 nd).1 h6) hw)
      (par_sem3 (V.noio (notc h3)) (V.noio (notc h4)) (V.noio (notc h4')))
  · cases h
theorem ownL_at {σ : St} {H G : Hp} {e : Env} {i : Nat} (S : Stt X.K X.mg T H G σ e) (h : isOwnL i e = true) : ∃ a vs ds, getS e i = .ow (.lst ds) ∧ σ[i]? = some (some (.ref a)) ∧ H a = some (.lst vs) ∧ Reps X.K X.mg G vs ds := by
  unfold isOwnL at h
  have s := S.slot i
  cases q : getS e i with
  | un => rw [q] at h; cases h
  | fr d => rw [q] at h; cases h
  | ow d =>
    rw [q] at h s
    obtain ⟨a, e1, g, z, o⟩ := s
    rcases o with ⟨vs, ds, z1, h1, r⟩ | ⟨kvs, ds, z1, h1, r⟩
    · subst z1; exact ⟨a, vs, ds, rfl, e1, h1, r⟩
    · subst z1; cases h
theorem m_app (V : Vx X k N ro sc T) {i : Nat} {a : E} {x y : Expr} {ap pos pos' : Pos} (hx : PE X x (tVar i)) (hs : notSup x = true) (hy : notStar y = true) (ha : PE X y (TV X T WE0 (ev a))) (hl : (ap.endLine == pos.line) = true) : PS X (.Expr (.Call (.Attribute x "append" ap) [y] [] pos) pos') (TSt X T (ex1 (.app i a))) := by
  have e1 := star1 (env := X.env) (xs := []) hy
  refine ps_imp (ps_expr (pe_bm (r := rAppend) PySem.F.plainAttrs_list PySem.slot_list_append PySem.type_list_append mt_append hx (pa_cons ha pa_nil e1) (base_sup hs) (by rw [e1]; rfl) hl e1 rfl) rfl) fun D σ H ⟨G, e, S, h⟩ => ?_
  simp only [ex1] at h
  cases q : isOwnL i e with
  | false => rw [q] at h; exact h.elim
  | true =>
    rw [q] at h
    obtain ⟨p, vs, ds, o1, o2, o3, o4⟩ := ownL_at S q
    refine ⟨_, o2, .inl ⟨rfl, vs, .inl (.inl o3)⟩, tV_then S (KS.st h) fun d e1 v H1 G1 h1 S1 x1 r1 => ?_⟩
    cases z : getS e1 i with
    | un => rw [z] at h1; exact h1.elim
    | fr d => rw [z] at h1; exact h1.elim
    | ow d1 =>
      rw [z] at h1
      cases d1 with
      | lst ds1 =>
        simp only at h1
        split at h1
        · rename_i hz
          have s := S1.slot i
          rw [z] at s
          obtain ⟨b, e2, g, _, w⟩ := s
          rw [o2] at e2; cases e2
          rcases w with ⟨ws, ds2, z1, w1, w2⟩ | ⟨kvs, ds2, z1, _⟩
          · cases z1
            have hlen : ws.length < sizeLine := by
              rw [w2.length]
              exact Nat.lt_of_le_of_lt (len_le hz) (by decide)
            refine ⟨p, ws, v, rfl, rfl, w1, hlen, ?_⟩
            exact h1 σ _ G1 (S1.chg (o := .lst (ws ++ [v])) z o2 (.inl ⟨_, _, rfl, upd_same, w2.app (.cons r1 .nil)⟩)) x1
          · cases z1
        · exact h1.elim
      | _ => exact h1.elim
theorem m_ext (V : Vx X k N ro sc T) {i : Nat} {a : E} {x y : Expr} {ap pos pos' : Pos} (hx : PE X x (tVar i)) (hs : notSup x = true) (hy : notStar y = true) (ha : PE X y (TV X T WE0 (ev a))) (hl : (ap.endLine == pos.line) = true) : PS X (.Expr (.Call (.Attribute x "extend" ap) [y] [] pos) pos') (TSt X T (ex1 (.ext i a))) := by
  have e1 := star1 (env := X.env) (xs := []) hy
  refine ps_imp (ps_expr (pe_bm (r := rExtend) PySem.F.plainAttrs_list PySem.F.slot_list_extend PySem.F.type_list_extend mt_extend hx (pa_cons ha pa_nil e1) (base_sup hs) (by rw [e1]; rfl) hl e1 rfl) rfl) fun D σ H ⟨G, e, S, h⟩ => ?_
  simp only [ex1] at h
  cases q : isOwnL i e with
  | false => rw [q] at h; exact h.elim
  | true =>
    rw [q] at h
    obtain ⟨p, vs, ds, o1, o2, o3, o4⟩ := ownL_at S q
    refine ⟨_, o2, .inl ⟨rfl, vs, .inl (.inl o3)⟩, tV_then S (KS.st h) fun d e1 v H1 G1 h1 S1 x1 r1 => ?_⟩
    cases z : getS e1 i with
    | un => rw [z] at h1; exact h1.elim
    | fr d => rw [z] at h1; exact h1.elim
    | ow d1 =>
      rw [z] at h1
      cases d1 with
      | lst ds1 =>
        cases d with
        | lst es =>
          simp only at h1
          split at h1
          · rename_i hz
            have s := S1.slot i
            rw [z] at s
            obtain ⟨b, e2, g, _, w⟩ := s
            rw [o2] at e2; cases e2
            rcases w with ⟨ws, ds2, z1, w1, w2⟩ | ⟨kvs, ds2, z1, _⟩
            · cases z1
              cases r1 with
              | lst g1 r1 =>
                refine ⟨p, _, ws, _, rfl, rfl, w1, S1.sub _ _ g1, by rw [w2.length, r1.length]; exact len_line hz, ?_⟩
                exact h1 σ _ G1 (S1.chg (o := .lst (ws ++ _)) z o2 (.inl ⟨_, _, rfl, upd_same, w2.app r1⟩)) x1
            · cases z1
          · exact h1.elim
        | _ => exact h1.elim
      | _ => exact h1.elim
theorem m_seti (V : Vx X k N ro sc T) {i : Nat} {a b : E} {o y t : Expr} {p pos : Pos} (hx : PE X o (tVar i)) (hy : PE X y (TV X T WE0 (ev a))) (hs : notSlice y = true) (ht : PE X t (TV X T WE0 (ev b))) (hc : notComp t = true) : PS X (.Assign [.Subscript o y p] t pos) (TSt X T (ex1 (.seti i a b))) := by
  have ha : ∀ v, assign (.Subscript o y p) X.env v = (do
      let ov ← holding [v] (eval o X.env)
      let iv ← holding [v, ov] (eval y X.env)
      standAt p
      holding [v, ov, iv] (setItem ov iv v)
      release [v, ov, iv] []) := fun v => by
    cases y <;> first
      | rfl
      | cases hs
  have h1 : swapsWithSole [.Subscript o y p] t pos.line X.env = pure false := by
    cases t <;> first
      | rfl
      | cases hc
  refine ps_imp (ps_asg ht (pg_sub hx hy set_list ha) h1 rfl rfl) fun D σ H ⟨G, e, S, h⟩ => ?_
  simp only [ex1] at h
  refine tV_then S (KS.st h) fun d e1 v H1 G1 h1 S1 x1 r1 => ?_
  cases qo : isOwnL i e1 with
  | false => rw [qo] at h1; exact h1.elim
  | true =>
    rw [qo] at h1
    obtain ⟨p, vs, ds, o1, o2, o3, o4⟩ := ownL_at S1 qo
    refine ⟨_, o2, tV_then S1 (KS.st h1) fun dj e2 w H2 G2 h2 S2 x2 r2 => ?_⟩
    cases z : getS e2 i with
    | un => rw [z] at h2; exact h2.elim
    | fr d => rw [z] at h2; exact h2.elim
    | ow d1 =>
      rw [z] at h2
      obtain ⟨e3, h3, h4⟩ := KS.opt h2
      obtain ⟨o', h5, rfl⟩ := Option.map_eq_some_iff.mp h3
      have s := S2.slot i
      rw [z] at s
      obtain ⟨b, e4, g, _, ww⟩ := s
      rw [o2] at e4; cases e4
      rcases ww with ⟨ws, ds2, z1, w1, w2⟩ | ⟨kvs, ds2, z1, _⟩
      · subst z1
        cases r2 <;> first
          | (cases h5; done)
          | skip
        rename_i j
        obtain ⟨m, hm, rfl⟩ := Option.map_eq_some_iff.mp (show (ixD ds2.length j).map (fun m => Vi.D.lst (setL ds2 m d)) = some o' from h5)
        refine ⟨p, ws, j, m, rfl, rfl, w1, by rw [w2.length]; exact hm, ?_⟩
        exact h4 σ _ G2 (S2.chg (o := .lst (ws.set m v)) z o2 (.inl ⟨_, _, rfl, upd_same, w2.set (r1.mono x2) m⟩)) (x1.trans x2)
      · subst z1
        cases h5
end
/-- the known things but the lists -/
def thinG (G : Hp) : Hp := fun a => match G a with
  | some (.lst _) => none
  | some (.dK _) => none
  | o => o
theorem thin_ext (G : Hp) : Ext (thinG G) G := fun a o h => by
  unfold thinG at h
  split at h
  · cases h
  · cases h
  · exact h
theorem thin_keep {G : Hp} {a : Addr} {o : HO} (h : G a = some o) (h1 : ∀ xs, o ≠ .lst xs) (h2 : ∀ kvs, o ≠ .dK kvs) : thinG G a = some o := by
  unfold thinG
  rw [h]
  cases o <;> first
    | rfl
    | exact absurd rfl (h1 _)
    | exact absurd rfl (h2 _)
theorem thin_lst {G : Hp} {a : Addr} {xs : List L2.V} : thinG G a ≠ some (.lst xs) := fun h => by
  unfold thinG at h
  split at h
  · cases h
  · cases h
  · rename_i z _; exact z _ h
section
variable {K : PySem.W.Frag} {mg : Str → Option Value} {G : Hp}
mutual
theorem Rep.thin : ∀ {v : L2.V} {d : Vi.D}, d.thin = true → Rep K mg G v d → Rep K mg (thinG G) v d
  | _, _, _, .non => .non
  | _, _, _, .bl b => .bl b
  | _, _, _, .int i => .int i
  | _, _, _, .str x => .str x
  | _, _, h, .lst _ _ => by simp [D.thin] at h
  | _, _, _, .scr h => .scr (h.elim (fun ⟨o, h⟩ => .inl ⟨o, thin_keep h (fun _ z => by cases z) fun _ z => by cases z⟩) .inr)
  | _, _, h, .tup g r => .tup (g.elim (fun g => .inl (g.elim (fun g => .inl (thin_keep g (fun _ z => by cases z) fun _ z => by cases z)) fun ⟨o, g⟩ => .inr ⟨o, thin_keep g (fun _ z => by cases z) fun _ z => by cases z⟩)) .inr) (Reps.thin (by simpa only [D.thin] using h) r)
  | _, _, h, .dic _ _ _ => by simp [D.thin] at h
  | _, _, h, .fn _ => by simp [D.thin] at h
theorem Reps.thin : ∀ {vs : List L2.V} {ds : List Vi.D}, D.thins ds = true → Reps K mg G vs ds → Reps K mg (thinG G) vs ds
  | _, _, _, .nil => .nil
  | _, _, h, .cons r t => by
    simp only [D.thins, Bool.and_eq_true] at h
    exact .cons (Rep.thin h.1 r) (Reps.thin h.2 t)
end
theorem Reps.scal {G' : Hp} : ∀ {vs : List L2.V} {ds : List Vi.D}, ds.all D.scal = true → Reps K mg G vs ds → Reps K mg G' vs ds
  | _, _, _, .nil => .nil
  | _, _, h, .cons r t => by
    simp only [List.all_cons, Bool.and_eq_true] at h
    refine .cons ?_ (Reps.scal h.2 t)
    cases r <;> first
      | exact .non
      | exact .bl _
      | exact .int _
      | exact .str _
      | (simp [D.scal] at h)
end
section
variable {X : Cx} {k : Nat} {N : List Str} {ro : List Nat} {sc : Scope} {T : Ent} {n : Nat}
/-- a call with thin arguments: its lists are new -/
theorem thin_call {F : Fn} {es : List E} {σ : St} {H G : Hp} {e : Env} {vs : List L2.V} {ds : List Vi.D} {Q : VK} (S : Stt X.K X.mg T H G σ e) (p : plainEs es = true) (r : RepAs X.K X.mg σ G es vs ds) (h : D.thins ds = true) {d : Vi.D} {os : List Vi.D} (hF : F ds = .ok d os)
    (q : ∀ v H' G', Ext G' H' → Rep X.K X.mg G' v d → Stt X.K X.mg T H' G σ e → (∀ a xs, G' a = some (.lst xs) → G a = none ∧ T.He a = none ∧ ¬ OwnAt σ e a) → Q v H') : spD X.K X.mg F (es.map isIov) vs H Q := by
  have r := r.reps p
  obtain ⟨_, pi⟩ := plain_ix p
  have hl := r.length
  have hle : es.length = vs.length := by
    have key : ∀ {es : List E} {vs : List L2.V} {ds : List Vi.D}, RepAs X.K X.mg σ G es vs ds → es.length = vs.length := by
      intro es
      induction es with
      | nil =>
        intro vs ds h
        cases vs with
        | nil => rfl
        | cons _ _ => cases ds <;> exact h.elim
      | cons a es ih =>
        intro vs ds h
        cases vs with
        | nil => cases ds <;> exact h.elim
        | cons v vs =>
          cases ds with
          | nil => exact h.elim
          | cons d ds => exact congrArg Nat.succ (ih h.2)
    exact key ‹RepAs X.K X.mg σ G es vs ds›
  rw [pi, hle]
  refine ⟨thinG G, ds, (thin_ext G).trans S.sub, args_of_reps (Reps.thin h r), by rw [io_plain]; exact List.nodup_nil, ?_⟩
  rw [hF]
  intro v H' G' xG sub new keep rv _
  rw [io_plain] at keep
  have kH : Ext H H' := fun a o ha => keep a o ha fun i hi => by cases hi
  refine q v H' G' sub rv (S.grow kH (Ext.refl G) (S.sub.trans kH) fun a o ha => .inl ha) fun a xs ha => ?_
  have hH : H a = none := by
    rcases new a _ ha with z | z
    · exact absurd z thin_lst
    · exact z
  exact ⟨S.noG hH, S.entry hH, fun ⟨j, d, o1, o2⟩ => by
    obtain ⟨_, _, u, hu⟩ := S.ownThere o1 o2
    rw [hH] at hu; cases hu⟩
theorem never_call {F : Fn} {G : Hp} {D : Ends} (hF : ∀ ds, F ds = .no) {i : Nat} {ds : List Vi.D} {e : Env} : KS X T D G (owncR i F ds e) → False := fun h => by
  unfold owncR at h
  split at h
  · rw [hF] at h; exact h
  · exact h
theorem never_spl {F : Fn} {G : Hp} {D : Ends} (hF : ∀ ds, F ds = .no) {sel : Option Int} {ds : List Vi.D} {e : Env} : KS X T D G (splR F sel ds e) → False := fun h => by
  unfold splR at h
  split at h
  · rw [hF] at h; exact h
  · exact h
theorem m_ownc (V : Vx X k N ro sc T) (hsc : X.env.scope = sc) (hk : sc.kind = .function) {i : Nat} {F : Fn} {es : List E} {x : Str} {tg' : Expr} {xs : List Expr} {p pos pos' : Pos} (nd : NdOk X k (needsS (.ownc i x F es))) (h1 : mTg N ro sc (.nm i) tg' = true) (gl : glB sc x = true) (ok : okName x = true) (pl : plainEs es = true) (ha : mArgs N sc (mt N ro n sc) es xs = true) :
    PS X (.Assign [tg'] (.Call (.Name x p) xs [] pos) pos') (TSt X T (ex1 (.ownc i x F es))) := by
  simp only [needsS] at nd
  obtain ⟨q1, q2, q3⟩ := m_args V ((walk n) X k sc T V).1 ha fun d hd => nd d (List.mem_cons_of_mem _ hd)
  rcases nd _ List.mem_cons_self with never | nd1
  · refine ⟨fun pins s σ H D I ⟨G, e, S, h⟩ => ?_⟩
    exfalso
    simp only [ex1] at h
    have h := KS.sts h
    cases q : evs es e with
    | no => rw [q] at h; exact h
    | ex x e' => rw [q] at h; exact h
    | ok ds e' => rw [q] at h; exact never_call never h
  · unfold mTg at h1
    split at h1
    · rename_i y py
      simp only [Bool.and_eq_true, decide_eq_true_eq, Bool.not_eq_true'] at h1
      obtain ⟨⟨⟨n1, n2⟩, n3⟩, n4⟩ := h1
      obtain ⟨l1, l2⟩ := V.loc _ n2
      refine ps_imp (ps_asg (n_call0 V nd1 q1 q2 (V.gl _ gl) ok fun z => by subst z; exact List.eq_nil_of_length_eq_zero (by simpa using q3.symm)) (pg_name (by rw [V.hN]; exact V.nd) (by rw [V.hN]; exact n1) l1 l2) rfl rfl rfl) fun D σ H ⟨G, e, S, h⟩ => ?_
      simp only [ex1] at h
      refine ⟨G, e, S, (KS.sts h).mono fun ds e1 h1 vs H1 G1 S1 x1 r1 => ?_⟩
      unfold owncR at h1
      split at h1
      · rename_i ht
        split at h1
        · rename_i zs os hF
          split at h1
          · rename_i hz
            refine thin_call S1 pl r1 ht hF fun v H' G' sub rv S' fresh => ?_
            cases rv with
            | lst g r =>
              obtain ⟨f1, f2, f3⟩ := fresh _ _ g
              exact h1 _ H' G1 (S'.storeOwn (V.noio (notc n4)) f1 f2 (.inl ⟨_, zs, rfl, sub _ _ g, Reps.scal hz r⟩) fun j dj hj hs => f3 ⟨j, dj, hj, hs⟩) x1
          · exact h1.elim
        · exact h1.elim
      · exact h1.elim
    · cases h1
theorem m_spl (V : Vx X k N ro sc T) {F : Fn} {es : List E} {x : Str} {sel : Option Int} {o : Expr} {xs : List Expr} {p pos pos' cp ap : Pos} {kk : Nat} (nd : NdOk X k (needsS (.spl x F es sel))) (gl : glB sc x = true) (ok : okName x = true) (pl : plainEs es = true) (ha : mArgs N sc (mt N ro n sc) es xs = true) (hl : (ap.endLine == pos.line) = true)
    (ho : (sel = none ∧ xs ≠ [] ∧ ∃ p1 p2, o = .Call (.Name x p1) xs [] p2) ∨ ∃ i p1 p2 p3 p4 k4, sel = some i ∧ o = .Subscript (.Call (.Name x p1) xs [] p2) (.Constant (.int i) k4 p3) p4) :
    PS X (.Expr (.Call (.Attribute o "append" ap) [.Constant .none kk cp] [] pos) pos') (TSt X T (ex1 (.spl x F es sel))) := by
  simp only [needsS] at nd
  obtain ⟨q1, q2, q3⟩ := m_args V ((walk n) X k sc T V).1 ha fun d hd => nd d (List.mem_cons_of_mem _ hd)
  rcases nd _ List.mem_cons_self with never | nd1
  · refine ⟨fun pins s σ H D I ⟨G, e, S, h⟩ => ?_⟩
    exfalso
    simp only [ex1] at h
    have h := KS.sts h
    cases q : evs es e with
    | no => rw [q] at h; exact h
    | ex x e' => rw [q] at h; exact h
    | ok ds e' => rw [q] at h; exact never_spl never h
  · have hc : ∀ p1 p2, PE X (.Call (.Name x p1) xs [] p2) (fun σ H Q => TR X T WE0 es σ H fun vs H1 => spD X.K X.mg F (es.map isIov) vs H1 Q) := fun p1 p2 => n_call0 V nd1 q1 q2 (V.gl _ gl) ok fun z => by subst z; exact List.eq_nil_of_length_eq_zero (by simpa using q3.symm)
    rcases ho with ⟨rfl, hne, p1, p2, rfl⟩ | ⟨i, p1, p2, p3, p4, k4, rfl, rfl⟩
    · have hsup : notSup (.Call (.Name x p1) xs [] p2) = true := by
        cases xs with
        | nil => exact absurd rfl hne
        | cons _ _ => rfl
      refine ps_imp (ps_expr (pe_bm (r := rAppend) PySem.F.plainAttrs_list PySem.slot_list_append PySem.type_list_append mt_append (hc p1 p2) (pa_cons pe_non pa_nil rfl) (base_sup hsup) rfl hl rfl rfl) rfl) fun D σ H ⟨G, e, S, h⟩ => ?_
      simp only [ex1] at h
      refine ⟨G, e, S, (KS.sts h).mono fun ds e1 h1 vs H1 G1 S1 x1 r1 => ?_⟩
      unfold splR at h1
      split at h1
      · rename_i ht
        split at h1
        · rename_i d os hF
          simp only at h1
          split at h1
          · rename_i zs
            split at h1
            · rename_i hz
              refine thin_call S1 pl r1 ht hF fun v H' G' sub rv S' fresh => ?_
              cases rv with
              | lst g r =>
                obtain ⟨f1, f2, f3⟩ := fresh _ _ g
                refine ⟨.inl ⟨rfl, _, .inl (.inl (sub _ _ g))⟩, _, _, _, rfl, rfl, sub _ _ g, by rw [r.length]; exact Nat.lt_of_le_of_lt (len_le hz) (by decide), ?_⟩
                exact h1 σ _ G1 (S'.updFree (sub _ _ g) f3 f1 f2) x1
            · exact h1.elim
          · exact h1.elim
        · exact h1.elim
      · exact h1.elim
    · refine ps_imp (ps_expr (pe_bm (r := rAppend) PySem.F.plainAttrs_list PySem.slot_list_append PySem.type_list_append mt_append (pe_ix ix_tup (hc p1 p2) pe_int fun _ _ => rfl) (pa_cons pe_non pa_nil rfl) (base_sup rfl) rfl hl rfl rfl) rfl) fun D σ H ⟨G, e, S, h⟩ => ?_
      simp only [ex1] at h
      refine ⟨G, e, S, (KS.sts h).mono fun ds e1 h1 vs H1 G1 S1 x1 r1 => ?_⟩
      unfold splR at h1
      split at h1
      · rename_i ht
        split at h1
        · rename_i d os hF
          simp only at h1
          split at h1
          · rename_i ys
            split at h1
            · rename_i zs hg
              split at h1
              · rename_i hz
                refine thin_call S1 pl r1 ht hF fun v H' G' sub rv S' fresh => ?_
                cases rv with
                | tup g r =>
                  obtain ⟨j, h2, h3, h4⟩ := ixD_atI r.length (show ((ixD ys.length i).bind fun j => ys[j]?) = some (.lst zs) from hg)
                  obtain ⟨u, hu, ru⟩ := r.get h3
                  cases ru with
                  | lst g2 r2 =>
                    obtain ⟨f1, f2, f3⟩ := fresh _ _ g2
                    refine ⟨_, _, i, _, rfl, rfl, SqT.mono sub g, h4 _ hu, .inl ⟨rfl, _, .inl (.inl (sub _ _ g2))⟩, _, _, _, rfl, rfl, sub _ _ g2, by rw [r2.length]; exact Nat.lt_of_le_of_lt (len_le hz) (by decide), ?_⟩
                    exact h1 σ _ G1 (S'.updFree (sub _ _ g2) f3 f1 f2) x1
              · exact h1.elim
            · exact h1.elim
          · exact h1.elim
        · exact h1.elim
      · exact h1.elim
end
end Vi
end
section
set_option maxHeartbeats 4000000
namespace Vi
open PySem L2

section
variable {X : Cx} {k : Nat} {N : List Str} {ro : List Nat} {sc : Scope} {T : Ent} {n : Nat}
theorem walkS (V : Vx X k N ro sc T) (hsc : X.env.scope = sc) (hk : sc.kind = .function) : ∀ m, (∀ s t, mS N ro n sc m s t = true → NdOk X k (needsS s) → PS X t (TSt X T (ex1 s))) ∧ (∀ ss ts, mSs N ro n sc m ss ts = true → NdOk X k (needsSs ss) → PSs X ts (TSt X T (exs ss)))
  | 0 => ⟨fun s t h => (by unfold mS at h; cases h), fun s t h => (by unfold mSs at h; cases h)⟩
  | m + 1 => by
    have iE := ((walk (N := N) (ro := ro) n) X k sc T V).1
    have iT := ((walk (N := N) (ro := ro) n) X k sc T V).2
    obtain ⟨ihS, ihSs⟩ := walkS V hsc hk m
    have hp : PassesOwn (model X.prog X.w) X.A X.env X.xe := by rw [V.xe]; exact PassesOwn.never
    constructor
    · intro s t h nd
      unfold mS at h
      split at h
      case h_1 => -- sno
        exact ⟨fun pins s σ H D I ⟨G, e, S, h⟩ => by simp only [ex1] at h; exact h.elim⟩
      case h_2 => -- pas
        split at h
        · exact ps_imp ps_pass fun D σ H ⟨G, e, S, h⟩ => by simp only [ex1] at h; exact h σ H G S (Ext.refl G)
        · exact ps_imp ps_doc fun D σ H ⟨G, e, S, h⟩ => by simp only [ex1] at h; exact h σ H G S (Ext.refl G)
        · cases h
      case h_3 tg e => -- asg
        split at h
        · simp only [needsS] at nd
          exact m_asg V hsc hk h nd
        · cases h
      case h_4 i e => -- own
        split at h
        · simp only [needsS] at nd
          exact m_own V hsc hk h nd
        · cases h
      case h_5 is es => -- par
        split at h
        · simp only [needsS] at nd
          exact m_par V hsc hk h nd
        · cases h
      case h_6 i kk v => -- seti
        split at h
        · simp only [Bool.and_eq_true] at h
          obtain ⟨⟨⟨⟨h1, h2⟩, h3⟩, h4⟩, h5⟩ := h
          simp only [needsS] at nd
          exact m_seti V (n_slot V h1).1 (iE _ _ h5 (NdOk.l nd)) h2 (iE _ _ h4 (NdOk.r nd)) h3
        · cases h
      case h_7 i e => -- app
        split at h
        · simp only [Bool.and_eq_true, decide_eq_true_eq] at h
          obtain ⟨⟨⟨⟨rfl, h2⟩, h3⟩, h4⟩, h5⟩ := h
          simp only [needsS] at nd
          obtain ⟨q1, q2, q3⟩ := n_slot V h2
          exact m_app V q1 q3 h3 (iE _ _ h4 nd) h5
        · cases h
      case h_8 i e => -- ext
        split at h
        · simp only [Bool.and_eq_true, decide_eq_true_eq] at h
          obtain ⟨⟨⟨⟨rfl, h2⟩, h3⟩, h4⟩, h5⟩ := h
          simp only [needsS] at nd
          obtain ⟨q1, q2, q3⟩ := n_slot V h2
          exact m_ext V q1 q3 h3 (iE _ _ h4 nd) h5
        · cases h
      case h_9 e => -- ex
        split at h
        · rename_i t p
          simp only [Bool.and_eq_true] at h
          simp only [needsS] at nd
          have hs : swapsWith t none p.line X.env = pure false := by
            have h1 := h.1
            cases t <;> first
              | rfl
              | cases h1
          refine ps_imp (ps_expr (iE _ _ h.2 nd) hs) fun D σ H ⟨G, e, S, h⟩ => ?_
          simp only [ex1] at h
          exact tV_then S h.st fun d e1 v H1 G1 h1 S1 x1 r1 => h1 σ H1 G1 S1 x1
        · cases h
      case h_10 c a b => -- ife
        split at h
        · simp only [Bool.and_eq_true] at h
          obtain ⟨⟨h1, h2⟩, h3⟩ := h
          simp only [needsS] at nd
          have nd : NdOk X k (needsE c ++ needsSs a ++ needsSs b) := nd
          refine ps_imp (ps_if (iT _ _ h1 nd.l.l) (ihSs _ _ h2 nd.l.r) (ihSs _ _ h3 nd.r)) fun D σ H ⟨G, e, S, h⟩ => ?_
          simp only [ex1] at h
          refine tW_then S h.st (fun d e' hd => ?_) fun kb e1 H1 G1 h1 S1 x1 => ?_
          · cases d <;> first
              | exact ⟨_, rfl⟩
              | exact hd.elim
          · cases kb with
            | true => exact ⟨G1, e1, S1, KS.mono h1 x1⟩
            | false => exact ⟨G1, e1, S1, KS.mono h1 x1⟩
        · cases h
      case h_11 tg src body => -- fo
        split at h
        · simp only [Bool.and_eq_true] at h
          obtain ⟨⟨h1, h2⟩, h3⟩ := h
          simp only [needsS] at nd
          have nd : NdOk X k (needsE src ++ needsSs body) := nd
          obtain ⟨q1, q2⟩ := m_src V iE h1 nd.l
          exact ps_imp (ps_for hp V.calm q1 (pg_tg V tg _ h2) (ihSs _ _ h3 nd.r) (q2 _)) for_sem
        · cases h
      case h_12 c body => -- wh
        split at h
        · simp only [Bool.and_eq_true] at h
          obtain ⟨h1, h2⟩ := h
          simp only [needsS] at nd
          have nd : NdOk X k (needsE c ++ needsSs body) := nd
          exact ps_imp (ps_while hp (iT _ _ h1 nd.l) (ihSs _ _ h2 nd.r)) wh_sem
        · cases h
      case h_13 i x F es => -- ownc
        split at h
        · simp only [Bool.and_eq_true, decide_eq_true_eq] at h
          obtain ⟨⟨⟨⟨⟨h1, rfl⟩, h2⟩, h3⟩, h4⟩, h5⟩ := h
          exact m_ownc V hsc hk nd h1 h2 h3 h4 h5
        · cases h
      case h_14 x F es sel => -- spl
        split at h
        · simp only [Bool.and_eq_true, decide_eq_true_eq] at h
          obtain ⟨⟨rfl, hl⟩, h⟩ := h
          unfold mSpl at h
          split at h
          · simp only [Bool.and_eq_true, decide_eq_true_eq, Bool.not_eq_true'] at h
            obtain ⟨⟨⟨⟨⟨rfl, h2⟩, h3⟩, h4⟩, h5⟩, h6⟩ := h
            exact m_spl V (p := ⟨0, 0, 0, 0⟩) nd h2 h3 h4 h5 hl (.inl ⟨rfl, (fun z => by rw [z] at h6; cases h6), _, _, rfl⟩)
          · simp only [Bool.and_eq_true, decide_eq_true_eq] at h
            obtain ⟨⟨⟨⟨⟨rfl, rfl⟩, h2⟩, h3⟩, h4⟩, h5⟩ := h
            exact m_spl V (p := ⟨0, 0, 0, 0⟩) nd h2 h3 h4 h5 hl (.inr ⟨_, _, _, _, _, _, rfl, rfl⟩)
          · cases h
        · cases h
      case h_15 e => -- ret
        split at h
        · simp only [needsS] at nd
          refine ps_imp (ps_ret (iE _ _ h nd)) fun D σ H ⟨G, e, S, h⟩ => ?_
          simp only [ex1] at h
          exact tV_then S h.st fun d e1 v H1 G1 h1 S1 x1 r1 => h1 v σ H1 G1 S1 x1 r1
        · refine ps_imp ps_retN fun D σ H ⟨G, e', S, h'⟩ => ?_
          have : e = .non := by cases e <;> first | rfl | cases h
          subst this
          simp only [ex1, ev] at h'
          exact h' .non σ H G S (Ext.refl G) .non
        · cases h
      case h_16 => cases h
    · intro ss ts h nd
      unfold mSs at h
      split at h
      · exact pss_imp pss_nil fun D σ H ⟨G, e, S, h⟩ => by simp only [exs] at h; exact h σ H G S (Ext.refl G)
      · rename_i s ss t ts
        rw [Bool.and_eq_true] at h
        simp only [needsSs] at nd
        have nd : NdOk X k (needsS s ++ needsSs ss) := nd
        refine pss_imp (pss_cons (ihS _ _ h.1 nd.l) (ihSs _ _ h.2 nd.r)) fun D σ H ⟨G, e, S, h⟩ => ?_
        simp only [exs] at h
        exact st_seq D σ H ⟨G, e, S, h⟩
      · cases h
end

section
variable {K : PySem.W.Frag} {mg : Str → Option Value} {H H' G G' : Hp}
theorem getS_un : ∀ {n i : Nat}, getS (List.replicate n Slot.un) i = .un
  | 0, _ => rfl
  | n + 1, 0 => rfl
  | n + 1, i + 1 => by rw [List.replicate_succ]; exact getS_un (n := n) (i := i)
theorem start_slot {T : Ent} : ∀ {io : List Bool} {vs : List L2.V} {ds : List D} {n j i : Nat} {σ : St}, ArgsR K mg H G io vs ds → (∀ p ∈ ioOf j io vs, p ∈ T.io) → (∀ m v, vs[m]? = some v → σ[j + m]? = some (some v)) →
    match getS (inEnv io ds ++ List.replicate n .un) i with
    | .un => True
    | .fr d => ∃ v, σ[j + i]? = some (some v) ∧ Rep K mg G v d
    | .ow d => ∃ a, σ[j + i]? = some (some (.ref a)) ∧ G a = none ∧ (j + i, a) ∈ T.io ∧ (j + i, a) ∈ ioOf j io vs ∧ OwnR K mg H G a d
  | [], [], [], n, j, i, σ, _, _, _ => by
    show match getS (List.replicate n .un) i with | .un => True | .fr d => _ | .ow d => _
    rw [getS_un]
    trivial
  | true :: io, v :: vs, d :: ds, n, j, 0, σ, ⟨⟨a, ea, g, o⟩, t⟩, hi, hs => by
    subst ea
    exact ⟨a, hs 0 _ rfl, g, hi _ (by unfold ioOf; exact List.mem_cons_self), by unfold ioOf; exact List.mem_cons_self, o⟩
  | false :: io, v :: vs, d :: ds, n, j, 0, σ, ⟨r, t⟩, hi, hs => ⟨v, hs 0 _ rfl, r⟩
  | true :: io, v :: vs, d :: ds, n, j, i + 1, σ, ⟨⟨a, ea, g, o⟩, t⟩, hi, hs => by
    subst ea
    have ih := start_slot (T := T) (n := n) (j := j + 1) (i := i) (σ := σ) t (fun p hp => hi p (by unfold ioOf; exact List.mem_cons_of_mem _ hp)) fun m v hm => by
      have := hs (m + 1) v (by simpa using hm)
      rw [show j + 1 + m = j + (m + 1) by omega]; exact this
    show match getS (inEnv io ds ++ List.replicate n .un) i with | .un => True | .fr d => _ | .ow d => _
    rw [show j + (i + 1) = j + 1 + i by omega]
    cases q : getS (inEnv io ds ++ List.replicate n .un) i with
    | un => trivial
    | fr d => rw [q] at ih; exact ih
    | ow d =>
      rw [q] at ih
      obtain ⟨b, h1, h2, h3, h4, h5⟩ := ih
      exact ⟨b, h1, h2, h3, by unfold ioOf; exact List.mem_cons_of_mem _ h4, h5⟩
  | false :: io, v :: vs, d :: ds, n, j, i + 1, σ, ⟨r, t⟩, hi, hs => by
    have eio : ∀ p, p ∈ ioOf (j + 1) io vs → p ∈ ioOf j (false :: io) (v :: vs) := fun p hp => by unfold ioOf; exact hp
    have ih := start_slot (T := T) (n := n) (j := j + 1) (i := i) (σ := σ) t (fun p hp => hi p (eio p hp)) fun m v hm => by
      have := hs (m + 1) v (by simpa using hm)
      rw [show j + 1 + m = j + (m + 1) by omega]; exact this
    show match getS (inEnv io ds ++ List.replicate n .un) i with | .un => True | .fr d => _ | .ow d => _
    rw [show j + (i + 1) = j + 1 + i by omega]
    cases q : getS (inEnv io ds ++ List.replicate n .un) i with
    | un => trivial
    | fr d => rw [q] at ih; exact ih
    | ow d =>
      rw [q] at ih
      obtain ⟨b, h1, h2, h3, h4, h5⟩ := ih
      exact ⟨b, h1, h2, h3, eio _ h4, h5⟩
theorem io_inj : ∀ {l : List (Nat × Addr)}, (l.map (·.2)).Nodup → ∀ {i j a}, (i, a) ∈ l → (j, a) ∈ l → i = j
  | [], _, _, _, _, h, _ => by cases h
  | p :: l, n, i, j, a, h1, h2 => by
    rw [List.map_cons] at n
    have n := List.nodup_cons.mp n
    rcases List.mem_cons.mp h1 with e1 | k1 <;> rcases List.mem_cons.mp h2 with e2 | k2
    · cases e1; cases e2; rfl
    · subst e1; exact absurd (List.mem_map.mpr ⟨(j, a), k2, rfl⟩ : a ∈ l.map (·.2)) n.1
    · subst e2; exact absurd (List.mem_map.mpr ⟨(i, a), k1, rfl⟩ : a ∈ l.map (·.2)) n.1
    · exact io_inj n.2 k1 k2
theorem io_slot_at : ∀ {io : List Bool} {vs : List L2.V} {ds : List D} {n j : Nat} {p : Nat × Addr}, ArgsR K mg H G io vs ds → p ∈ ioOf j io vs → ∃ m d, p.1 = j + m ∧ vs[m]? = some (.ref p.2) ∧ getS (inEnv io ds ++ List.replicate n .un) m = .ow d
  | [], [], [], _, _, _, _, h => by cases h
  | true :: io, v :: vs, d :: ds, n, j, p, ⟨⟨a, ea, g, o⟩, t⟩, h => by
    subst ea
    unfold ioOf at h
    rcases List.mem_cons.mp h with e | h
    · subst e; exact ⟨0, d, rfl, rfl, rfl⟩
    · obtain ⟨m, d', h1, h2, h3⟩ := io_slot_at (n := n) t h
      exact ⟨m + 1, d', by rw [h1]; omega, by simpa using h2, h3⟩
  | false :: io, v :: vs, d :: ds, n, j, p, ⟨r, t⟩, h => by
    unfold ioOf at h
    obtain ⟨m, d', h1, h2, h3⟩ := io_slot_at (n := n) t h
    exact ⟨m + 1, d', by rw [h1]; omega, by simpa using h2, h3⟩
theorem args_len : ∀ {io : List Bool} {vs : List L2.V} {ds : List D}, ArgsR K mg H G io vs ds → vs.length = io.length ∧ ds.length = io.length
  | [], [], [], _ => ⟨rfl, rfl⟩
  | true :: io, v :: vs, d :: ds, ⟨_, t⟩ => ⟨congrArg Nat.succ (args_len t).1, congrArg Nat.succ (args_len t).2⟩
  | false :: io, v :: vs, d :: ds, ⟨_, t⟩ => ⟨congrArg Nat.succ (args_len t).1, congrArg Nat.succ (args_len t).2⟩
theorem inEnv_length : ∀ {io : List Bool} {ds : List D}, ds.length = io.length → (inEnv io ds).length = io.length
  | [], [], _ => rfl
  | true :: io, d :: ds, h => congrArg Nat.succ (inEnv_length (Nat.succ.inj h))
  | false :: io, d :: ds, h => congrArg Nat.succ (inEnv_length (Nat.succ.inj h))
  | [], _ :: _, h => by cases h
  | _ :: _, [], h => by cases h
theorem start_stt {N : List Str} {io : List Bool} {vs : List L2.V} {ds : List D} (e : Ext G H) (a : ArgsR K mg H G io vs ds) (nd : ((ioOf 0 io vs).map (·.2)).Nodup) (hN : io.length ≤ N.length) :
    Stt K mg ⟨H, G, ioOf 0 io vs⟩ H G (L2.start N vs) (inEnv io ds ++ List.replicate (N.length - io.length) .un) := by
  obtain ⟨l1, l2⟩ := args_len a
  have hs : ∀ m v, vs[m]? = some v → (L2.start N vs)[0 + m]? = some (some v) := fun m v hm => by
    rw [Nat.zero_add]
    unfold L2.start
    rw [List.getElem?_append_left (by rw [List.length_map]; exact (List.getElem?_eq_some_iff.mp hm).1), List.getElem?_map, hm]; rfl
  have sl := fun i => start_slot (T := ⟨H, G, ioOf 0 io vs⟩) (n := N.length - io.length) (j := 0) (i := i) (σ := L2.start N vs) a (fun p hp => hp) hs
  refine ⟨?_, e, Ext.refl G, fun a o h => .inl h, fun a o h _ => h, fun i => ?_, fun i j b d d' hij hi hj => ?_, fun p hp => ?_⟩
  · unfold L2.start
    rw [List.length_append, List.length_append, List.length_replicate, List.length_replicate, List.length_map, inEnv_length l2, l1]
  · have s := sl i
    cases q : getS (inEnv io ds ++ List.replicate (N.length - io.length) .un) i with
    | un => trivial
    | fr d => rw [q] at s; rw [Nat.zero_add] at s; exact s
    | ow d =>
      rw [q] at s
      obtain ⟨b, h1, h2, h3, _, h5⟩ := s
      rw [Nat.zero_add] at h1 h3
      exact ⟨b, h1, h2, .inr h3, h5⟩
  · have s1 := sl i
    have s2 := sl j
    rw [hi] at s1
    rw [hj] at s2
    obtain ⟨b1, h1, _, h3, _⟩ := s1
    obtain ⟨b2, k1, _, k3, _⟩ := s2
    rw [Nat.zero_add] at h1 h3 k1 k3
    intro z1 z2
    rw [h1] at z1
    rw [k1] at z2
    cases z1
    cases z2
    exact hij (io_inj nd h3 k3)
  · obtain ⟨m, d, h1, h2, h3⟩ := io_slot_at (n := N.length - io.length) a hp
    rw [Nat.zero_add] at h1
    rw [h1]
    have := hs m _ h2
    rw [Nat.zero_add] at this
    exact ⟨this, d, h3⟩
theorem outs_end {T : Ent} {σ : St} : ∀ {io : List Bool} {vs : List L2.V} {ds : List D} {j : Nat} {e e0 : Env} {os : List D}, ArgsR K mg H G io vs ds → (∀ p ∈ ioOf j io vs, p ∈ T.io) → Stt K mg T H' G' σ e0 → (∀ i, getS e i = getS e0 (j + i)) → outsOf io e = some os → OutsR K mg H' G' io vs os
  | [], [], [], j, e, e0, os, _, _, _, _, h => by
    unfold outsOf at h
    cases h; trivial
  | true :: io, v :: vs, d :: ds, j, e, e0, os, ⟨⟨a, ea, g, o⟩, t⟩, hi, S, he, h => by
    subst ea
    cases e with
    | nil => unfold outsOf at h; cases h
    | cons s e =>
      have h0 := he 0
      have hm : (j, a) ∈ T.io := hi _ (by unfold ioOf; exact List.mem_cons_self)
      obtain ⟨q1, d', q2⟩ := S.ios _ hm
      have q2 : getS e0 j = .ow d' := q2
      rw [Nat.add_zero, q2] at h0
      have h0 : s = .ow d' := h0
      subst h0
      unfold outsOf at h
      obtain ⟨os', h1, rfl⟩ := Option.map_eq_some_iff.mp h
      have sl := S.slot j
      rw [q2] at sl
      obtain ⟨b, e1, _, _, w⟩ := sl
      have q1 : σ[j]? = some (some (.ref a)) := q1
      rw [q1] at e1; cases e1
      exact ⟨⟨a, rfl, w⟩, outs_end (j := j + 1) t (fun p hp => hi p (by unfold ioOf; exact List.mem_cons_of_mem _ hp)) S (fun i => by have := he (i + 1); rw [show j + 1 + i = j + (i + 1) by omega]; exact this) h1⟩
  | false :: io, v :: vs, d :: ds, j, e, e0, os, ⟨r, t⟩, hi, S, he, h => by
    cases e with
    | nil => unfold outsOf at h; cases h
    | cons s e =>
      unfold outsOf at h
      show OutsR K mg H' G' io vs os
      exact outs_end (j := j + 1) t (fun p hp => hi p (by unfold ioOf; exact hp)) S (fun i => by have := he (i + 1); rw [show j + 1 + i = j + (i + 1) by omega]; exact this) h
end

/-- the slots of the changed arguments -/
def roOf (io : List Bool) : List Nat := (List.range io.length).filter fun i => io.getD i false
theorem io_ro : ∀ {io : List Bool} {vs : List L2.V} {j : Nat} {p : Nat × Addr}, p ∈ ioOf j io vs → ∃ m, p.1 = j + m ∧ io[m]? = some true
  | [], _, _, _, h => by unfold ioOf at h; cases h
  | _ :: _, [], _, _, h => by unfold ioOf at h; cases h
  | b :: io, v :: vs, j, p, h => by
    unfold ioOf at h
    have go : p ∈ ioOf (j + 1) io vs → ∃ m, p.1 = j + m ∧ (b :: io)[m]? = some true := fun h => by
      obtain ⟨m, h1, h2⟩ := io_ro h
      exact ⟨m + 1, by rw [h1]; omega, by simpa using h2⟩
    split at h
    · rcases List.mem_cons.mp h with e | h
      · subst e; exact ⟨0, rfl, rfl⟩
      · exact go h
    · exact go h
theorem ro_of {io : List Bool} {vs : List L2.V} : ∀ p ∈ ioOf 0 io vs, p.1 ∈ roOf io := fun p hp => by
  obtain ⟨m, h1, h2⟩ := io_ro hp
  rw [h1, Nat.zero_add]
  unfold roOf
  refine List.mem_filter.mpr ⟨List.mem_range.mpr (List.getElem?_eq_some_iff.mp h2).1, ?_⟩
  rw [List.getD_eq_getElem?_getD, h2]; rfl
theorem fn_g {P : Program} {w : World} {K : PySem.W.Frag} {mg : Str → Option Value} {base : Heap} {k n m : Nat} {f : Addr} {name qual : Str} {params : Arguments} {body : List Stmt} {scope : Scope} {dV kV doc pm cdv ct oc : Value} {an od : Option Addr} {osl : Array (Option Value)} {N ps : List Str} {io : List Bool} {ir : List S}
    (lk : K.lookup f = some ⟨oc, od, .func (PySem.W.fnOf name qual params body scope dV kV doc pm an cdv ct), osl⟩) (hcd : PySem.W.codeIn K cdv qual = true) (Sc : FnScope N ps scope) (hio : ps.length = io.length) (hN : io.length ≤ N.length)
    (hm : mSs N (roOf io) n scope m ir body = true) (bn : ∀ x ∈ bnames, mg x = none) (nd : ∀ d ∈ needsSs ir, NeedOk P w K mg base k d) :
    FnG P w K mg base (k + 1) f (PySem.W.fnOf name qual params body scope dV kV doc pm an cdv ct) ps (mkFn N.length io ir) io := by
  refine ⟨fun A outer s H args us vs Q hr hg e0 hb r h => ?_⟩
  have hlen := spD_len h
  refine LamX.run_ofS lk hcd Sc hr e0 hb r (by rw [hlen, hio]) fun hr' => ?_
  obtain ⟨G, ds, eG, ar, ndp, hF⟩ := h
  obtain ⟨l1, l2⟩ := args_len ar
  generalize hX : (cxOf (L2.CX P w) P w K mg base N qual scope f cdv A outer s H fun _ _ _ => False) = X0
  have V : Vx X0.nox k N (roOf io) scope ⟨H, G, ioOf 0 io vs⟩ := by
    subst hX
    exact {
      hN := rfl
      nd := Sc.nd
      calm := rfl
      guards := hg
      room := hr'
      xe := rfl
      vis := fun x hx => by
        unfold visB at hx
        show Vis scope x
        unfold Vis
        cases q : scope.names.lookup x with
        | none => rw [q] at hx; cases hx
        | some kk =>
          rw [q] at hx
          cases kk <;> first
            | (cases hx; done)
            | simp
      gl := fun x hx => by
        unfold glB at hx
        show scope.names.lookup x = some .globalImplicit
        cases q : scope.names.lookup x with
        | none => rw [q] at hx; cases hx
        | some kk =>
          rw [q] at hx
          cases kk <;> first
            | (cases hx; done)
            | rfl
      cf := fun x hx => by
        unfold cfB at hx
        show scope.names.lookup x = some .cell ∨ scope.names.lookup x = some .free
        cases q : scope.names.lookup x with
        | none => rw [q] at hx; cases hx
        | some kk =>
          rw [q] at hx
          cases kk <;> first
            | (cases hx; done)
            | simp
      loc := fun x hx => by
        unfold locB at hx
        refine ⟨?_, .inl rfl⟩
        show scope.names.lookup x = some .local ∨ scope.names.lookup x = some .cell
        cases q : scope.names.lookup x with
        | none => rw [q] at hx; cases hx
        | some kk =>
          rw [q] at hx
          cases kk <;> first
            | (cases hx; done)
            | simp
      ro := ro_of
      bn := bn }
  have hsc : X0.nox.env.scope = scope := by subst hX; rfl
  have nd' : NdOk X0.nox k (needsSs ir) := by subst hX; exact nd
  have hps := ((walkS (n := n) V hsc Sc.kind m).2 ir body hm nd').nox
  refine ⟨_, hps, G, inEnv io ds ++ List.replicate (N.length - io.length) .un, ?_, ?_⟩
  · have := start_stt (N := N) eG ar ndp hN
    subst hX
    exact this
  · unfold mkFn at hF
    rw [if_pos (by rw [l2]; exact beq_self_eq_true _)] at hF
    have KK : X0.nox.K = K := by subst hX; rfl
    have MM : X0.nox.mg = mg := by subst hX; rfl
    have fin : ∀ {σ' H' G' e' os}, Stt X0.nox.K X0.nox.mg ⟨H, G, ioOf 0 io vs⟩ H' G' σ' e' → outsOf io e' = some os → Ext G' H' ∧ (∀ a o, G' a = some o → G a = some o ∨ H a = none) ∧ (∀ a o, H a = some o → (∀ i, (i, a) ∉ ioOf 0 io vs) → H' a = some o) ∧ OutsR K mg H' G' io vs os := fun {σ' H' G' e' os} S ho => by
      rw [KK, MM] at S
      exact ⟨S.sub, S.new, S.keep, outs_end (j := 0) ar (fun p hp => hp) S (fun i => by rw [Nat.zero_add]) ho⟩
    cases q : exs ir (inEnv io ds ++ List.replicate (N.length - io.length) .un) with
    | nx e =>
      rw [q] at hF
      cases q2 : outsOf io e with
      | none => simp only [q2] at hF
      | some os =>
        simp only [q2] at hF
        intro σ' H' G' S' x'
        obtain ⟨f1, f2, f3, f4⟩ := fin S' q2
        exact hF .non H' G' x' f1 f2 f3 .non f4
    | rt d e =>
      rw [q] at hF
      cases q2 : outsOf io e with
      | none => simp only [q2] at hF
      | some os =>
        simp only [q2] at hF
        intro v σ' H' G' S' x' r'
        obtain ⟨f1, f2, f3, f4⟩ := fin S' q2
        exact hF v H' G' x' f1 f2 f3 (by rw [KK, MM] at r'; exact r') f4
    | bk e => rw [q] at hF; exact hF.elim
    | ct e => rw [q] at hF; exact hF.elim
    | ex x e =>
      rw [q] at hF
      cases q2 : outsOf io e with
      | none => simp only [q2] at hF
      | some os => simp only [q2] at hF
    | no => rw [q] at hF; exact hF.elim
end Vi
end
section
set_option maxHeartbeats 4000000
namespace Vi
open PySem PySem.Spec PyProof.Rows L2

/-- what the law's def computes of a script -/
def LawTrue (F : Fn) (n : Nat) : Prop := ∀ ns : List Int, ns.length ≤ n → (∀ k ∈ ns, Builtin.Int.intBits k ≤ 1048576) → ∃ os, F [.scr ns] = .ok (.bl true) os
section
variable {P : Program} {w : World} {K : PySem.W.Frag} {mg : Str → Option Value} {k : Nat} {fa a : Addr} {fd : FuncData} {x : Str} {F : Fn} {t : Shared} {us : List Value} {zs : List Int}
/-- one road: H tracks nothing, or the script alone -/
theorem law_road {mb : Str → Option Value} (inK : K.In t.heap) (glob : t.heap.Ns mainGlobals mg) (blt : t.heap.Ns builtinsNs mb) (same : ∀ y : Str, y ≠ "__name__" → mb y = bootBuiltins y) (lim : t.heap.NoLimit) (gens : t.gens = #[])
    (script : t.heap.get? a = some { cls := .type "list", data := .seq us.toArray }) (room : Room k callerA)
    (pr : ∀ base : Heap, K.In base → base.Ns mainGlobals mg → FnG P w K mg base k fa fd [x] F [false]) (bind : ∀ (s : Shared) (u : Value), BindsTo s fd ⟨[u], []⟩ [(x, u)]) (out : ∃ os, F [.scr zs] = .ok (.bl true) os)
    (H : Hp) (only : Only H) (seq : ScrL K H a (zs.map V.int)) (held : HOk P w H t.heap) (just : ∀ b, H b ≠ none → b = a) (out2 : H a ≠ none → K.lookup a = none) :
    codeAny (model P w) callerA (.call (.ref fa) ⟨[.ref a], []⟩) (fun r t' => r = .ok (.ret (.bool true)) ∧ OldK t.heap t'.heap ∧ t'.os = t.os ∧ AllBare t'.gens) t := by
  have untracked : ∀ {b : Addr}, b ≠ a → H b = none := fun {b} hb => Classical.byContradiction fun z => hb (just b z)
  have dicts : ∀ {b : Addr} {m : Str → Option Value}, t.heap.Ns b m → (hidT t.heap H).Ns b m := by
    rintro b m ⟨o, es, ep, get, data, rest⟩
    refine ⟨o, es, ep, hidT_get get (untracked fun z => ?_), data, rest⟩
    rw [z, script] at get
    cases get
    cases (show Data.seq us.toArray _ = Data.dict es ep from data)
  have kbase : K.In (hidT t.heap H) := fun b o look => hidT_get (inK b o look) (Classical.byContradiction fun z => by
    have eb := just b z
    rw [eb] at look z
    rw [out2 z] at look
    cases look)
  obtain ⟨mc, lim1, lim2⟩ := lim
  have modules : Mod K mg (hidT t.heap H) := ⟨kbase, dicts glob, ⟨mb, dicts blt, same⟩, ⟨mc, dicts lim1, lim2⟩⟩
  have around : Env0 P w K mg (hidT t.heap H) callerA [] t H := by
    refine ⟨rfl, modules, fun b o e => of_hidT e, Nat.le_of_eq (hidT_size _ _), trivial, fun b hb => ?_, held, .of_eq gens⟩
    cases (show b ∈ ([] : List Addr) from hb)
  obtain ⟨os, hF⟩ := out
  have sp : spD K mg F [false] [.ref a] H fun v _ => v = .bl true := by
    refine ⟨H, [.scr zs], Ext.refl H, ⟨.scr seq, trivial⟩, List.nodup_nil, ?_⟩
    rw [hF]
    intro v H' G' _ _ _ _ r _
    cases r
    rfl
  refine codeAny_mono ((pr _ kbase (dicts glob)).run callerA [] t H ⟨[.ref a], []⟩ [.ref a] [.ref a] _ room rfl around (bind t (.ref a)) (.cons rfl .nil) sp) fun r t' h => ?_
  cases r with
  | error e =>
    obtain ⟨_, _, _, _, _, _, _, _, _, _, _, _, z⟩ := h
    exact z.elim
  | ok fl =>
    cases fl with
    | next => exact h.elim
    | brk => exact h.elim
    | cont => exact h.elim
    | ret u =>
      obtain ⟨v, H', sameOs, bare, un, held', rel, ev⟩ := h
      have ev : v = .bl true := ev
      subst ev
      have eu : u = Value.bool true := rel
      subst eu
      refine ⟨rfl, OldK.of_keep fun b o get => ?_, sameOs, bare⟩
      by_cases hb : H b = none
      · exact un.keep b o get hb (fun z => by cases (show b ∈ ([] : List Addr) from z)) (fun z => by cases z)
      · obtain ⟨ob, xs, fz⟩ := (only b).resolve_left hb
        obtain ⟨g1, _⟩ := held b _ fz
        obtain ⟨g2, _⟩ := held' b _ (un.frzs b ob _ fz)
        rw [get] at g1
        cases g1
        exact g2
theorem law_both {mb : Str → Option Value} (inK : K.In t.heap) (glob : t.heap.Ns mainGlobals mg) (blt : t.heap.Ns builtinsNs mb) (same : ∀ y : Str, y ≠ "__name__" → mb y = bootBuiltins y) (lim : t.heap.NoLimit) (gens : t.gens = #[])
    (script : t.heap.get? a = some { cls := .type "list", data := .seq us.toArray }) (hints : PyProof.Rows.IntsAre us zs) (small : zs.length ≤ sizeLine) (room : Room k callerA)
    (pr : ∀ base : Heap, K.In base → base.Ns mainGlobals mg → FnG P w K mg base k fa fd [x] F [false]) (bind : ∀ (s : Shared) (u : Value), BindsTo s fd ⟨[u], []⟩ [(x, u)]) (out : ∃ os, F [.scr zs] = .ok (.bl true) os) :
    codeAny (model P w) callerA (.call (.ref fa) ⟨[.ref a], []⟩) (fun r t' => r = .ok (.ret (.bool true)) ∧ OldK t.heap t'.heap ∧ t'.os = t.os ∧ AllBare t'.gens) t := by
  have vals : Vals (zs.map V.int) us := vals_of_ints hints
  have road := law_road (x := x) (F := F) (zs := zs) inK glob blt same lim gens script room pr bind out
  cases known : K.lookup a with
  | some o =>
    have e := inK a o known
    rw [script] at e
    cases e
    refine road (fun _ => none) (fun _ => .inl rfl) (.inr ⟨_, us.toArray, _, known, rfl, rfl, rfl, ?_, by simpa using vals⟩) (fun b u z => by cases (show (none : Option HO) = some u from z)) (fun b z => absurd rfl z) fun z => absurd rfl z
    rw [List.size_toArray, hints.length]
    exact small
  | none =>
    let L : HO := .frz { cls := .type "list", data := .seq us.toArray } (.lst (zs.map V.int))
    have at_a : ∀ b, (fun c => if c = a then some L else none : Hp) b ≠ none → b = a := fun b z => Classical.byContradiction fun q => z (if_neg q)
    refine road (fun c => if c = a then some L else none) (fun b => ?_) (.inl ⟨_, if_pos rfl⟩) (fun b u z => ?_) at_a fun _ => known
    · by_cases q : b = a
      · exact .inr ⟨_, _, if_pos q⟩
      · exact .inl (if_neg q)
    · have q : b = a := at_a b (by rw [z]; exact fun y => by cases y)
      subst q
      cases (if_pos rfl).symm.trans z
      exact ⟨script, by rw [List.length_map]; exact small, us, _, vals, script⟩
end
/-- a law whose def keeps a promise of the engine -/
theorem law_g {l : PySem.W.OpenLaw} {n k : Nat} {q : Program} {loose : List Str} {XP : (Str → Option Value) → Heap → Prop} {YP : World → Heap → Prop} {d : DefRec} {x : Str} {F : Fn} (most : l.most = some n) (few : n ≤ sizeLine) (plain : d.params.defaults = []) (room : Room k callerA) (law : LawTrue F n)
    (facts : ∀ (w : World) (mg : Str → Option Value) (fa : Addr) (h : Heap), YP w h → h.Ns mainGlobals mg → mg d.name = some (.ref fa) →
      ∃ (K : PySem.W.Frag) (fd : FuncData), K.In h ∧ (∀ (s : Shared) (u : Value), BindsTo s fd ⟨[u], []⟩ [(x, u)]) ∧ ∀ base : Heap, K.In base → base.Ns mainGlobals mg → FnG l.prog w K mg base k fa fd [x] F [false]) :
    PySem.W.WalkO q loose XP YP l.row.toRowW d [] (fun f vs => PySem.call f vs) := by
  refine Att.attach_callB most plain fun w s₀ s₁ mg mb fa o pm cd doc a vs ns G Y ho hd hcd hmg hobj hints hlen bits hg => ?_
  obtain ⟨K, fd, inK, bind, pr⟩ := facts w mg fa _ Y G.T.g hmg
  exact law_both inK G.T.g G.T.b G.T.builtins G.T.nolimit hg hobj hints (Nat.le_trans hlen few) room pr bind (law ns hlen bits)
end Vi
end
section
set_option maxHeartbeats 4000000
namespace Vi
open PySem PySem.Spec PyProof.Rows L2

mutual
def valB (K : PySem.W.Frag) : Vi.D → Value → Bool
  | .non, u => (match u with | .none => true | _ => false)
  | .bl b, u => (match u with | .bool c => b == c | _ => false)
  | .int i, u => (match u with | .int j _ => decide (i = j) | _ => false)
  | .str s, u => (match u with | .str z _ => decide (s = z) | _ => false)
  | .tup ds, u => (match u with
    | .ref a => (match K.lookup a with
      | some ⟨.type c, _, .seq its _, _⟩ => decide (c = "tuple") && Nat.ble its.size 1000 && valsB K ds its.toList
      | _ => false)
    | _ => false)
  | _, _ => false
def valsB (K : PySem.W.Frag) : List Vi.D → List Value → Bool
  | [], us => us.isEmpty
  | d :: ds, us => (match us with | u :: us => valB K d u && valsB K ds us | [] => false)
end
section
variable {K : PySem.W.Frag} {mg : Str → Option Value}
mutual
theorem valB_ok : ∀ (d : Vi.D) (u : Value), valB K d u = true → ∃ v, RelV v u ∧ ∀ G, Rep K mg G v d
  | .non, u, h => by
    unfold valB at h
    split at h
    · exact ⟨.non, rfl, fun G => .non⟩
    · cases h
  | .bl b, u, h => by
    unfold valB at h
    split at h
    · have h := beq_iff_eq.mp h
      subst h
      exact ⟨.bl b, rfl, fun G => .bl b⟩
    · cases h
  | .int i, u, h => by
    unfold valB at h
    split at h
    · have h := of_decide_eq_true h
      subst h
      exact ⟨.int i, ⟨_, rfl⟩, fun G => .int i⟩
    · cases h
  | .str s, u, h => by
    unfold valB at h
    split at h
    · have h := of_decide_eq_true h
      subst h
      exact ⟨.str s, ⟨_, rfl⟩, fun G => .str s⟩
    · cases h
  | .tup ds, u, h => by
    unfold valB at h
    split at h
    · rename_i a
      split at h
      · rename_i c dd its n sl hl
        simp only [Bool.and_eq_true, decide_eq_true_eq] at h
        obtain ⟨⟨rfl, h2⟩, h3⟩ := h
        obtain ⟨vs, h4, h5⟩ := valsB_ok ds its.toList h3
        exact ⟨.ref a, rfl, fun G => .tup (.inr ⟨_, its, n, hl, rfl, rfl, Nat.le_trans (Nat.le_of_ble_eq_true h2) (by decide), h4⟩) (h5 G)⟩
      · cases h
    · cases h
  | .lst _, u, h => by simp [valB] at h
  | .dic _ _, u, h => by simp [valB] at h
  | .fn _, u, h => by simp [valB] at h
  | .clo _ _, u, h => by simp [valB] at h
  | .ins _ _ _, u, h => by simp [valB] at h
  | .scr _, u, h => by simp [valB] at h
theorem valsB_ok : ∀ (ds : List Vi.D) (us : List Value), valsB K ds us = true → ∃ vs, Vals vs us ∧ ∀ G, Reps K mg G vs ds
  | [], us, h => by
    unfold valsB at h
    have h : us = [] := by simpa using h
    subst h
    exact ⟨[], .nil, fun G => .nil⟩
  | d :: ds, us, h => by
    unfold valsB at h
    cases us with
    | nil => cases h
    | cons u us =>
      rw [Bool.and_eq_true] at h
      obtain ⟨v, h1, h2⟩ := valB_ok d u h.1
      obtain ⟨vs, h3, h4⟩ := valsB_ok ds us h.2
      exact ⟨v :: vs, .cons h1 h3, fun G => .cons (h2 G) (h4 G)⟩
end
end
/-- the module's constants, by the written part -/
def gvB (K : PySem.W.Frag) (x : Str) (d : Vi.D) : Bool := match PySem.W.nsIn K mainGlobals x with
  | some (some u) => valB K d u
  | _ => false
def gvsB (l : List (Str × Vi.D)) (K : PySem.W.Frag) : Bool := l.all fun p => gvB K p.1 p.2
section
variable {P : Program} {w : World} {K : PySem.W.Frag} {mg : Str → Option Value} {base : Heap} {h : Heap}
theorem need_gl {l : List (Str × Vi.D)} {k : Nat} {x : Str} {d : Vi.D} (inK : K.In h) (glob : h.Ns mainGlobals mg) (c : gvsB l K = true) (m : (x, d) ∈ l) : NeedOk P w K mg base k (.gl x d) := by
  have c := List.all_eq_true.mp c _ m
  unfold gvB at c
  split at c
  · rename_i u hu
    obtain ⟨v, h1, h2⟩ := valB_ok (mg := mg) d u c
    exact ⟨u, v, PySem.W.mg_of inK glob hu, h1, h2⟩
  · cases c
theorem FnG.mono {j k : Nat} {f : Addr} {fd : FuncData} {ps : List Str} {F : Fn} {io : List Bool} (g : FnG P w K mg base j f fd ps F io) (le : j ≤ k) : FnG P w K mg base k f fd ps F io := ⟨fun A outer s H args us vs Q r => g.run A outer s H args us vs Q (r.mono le)⟩
theorem NeedOk.mono {j k : Nat} {d : Need} (n : NeedOk P w K mg base j d) (le : j ≤ k) : NeedOk P w K mg base k d := by
  cases d with
  | fn x F io =>
    rcases n with n | ⟨f, fd, ps, h1, h2, h3, h4, h5⟩
    · exact .inl n
    · exact .inr ⟨f, fd, ps, h1, h2, h3, h4, h5.mono le⟩
  | fnk x F m ks perm =>
    obtain ⟨f, fd, ps, h1, h2, h3, h4, h5⟩ := n
    exact ⟨f, fd, ps, h1, h2, h3, h4, h5.mono le⟩
  | gl x d => exact n
  | fv x => exact n
def AllNd (P : Program) (w : World) (K : PySem.W.Frag) (mg : Str → Option Value) (base : Heap) (k : Nat) : List Need → Prop
  | [] => True
  | d :: r => NeedOk P w K mg base k d ∧ AllNd P w K mg base k r
theorem AllNd.all {k : Nat} : ∀ {l : List Need}, AllNd P w K mg base k l → ∀ d ∈ l, NeedOk P w K mg base k d
  | [], _, d, hd => by cases hd
  | _ :: _, ⟨h1, h2⟩, d, hd => by
    rcases List.mem_cons.mp hd with e | hd
    · rw [e]; exact h1
    · exact h2.all d hd
/-- a def of the module, against its rendering -/
structure DefOk (x : Str) (body : List Stmt) (scope : Scope) (N ps : List Str) (io : List Bool) (ir : List S) (n m : Nat) : Prop where
  sc : FnScope N ps scope
  io1 : ps.length = io.length
  io2 : io.length ≤ N.length
  mt : mSs N (roOf io) n scope m ir body = true
theorem fn_gD {x qual : Str} {params : Arguments} {body : List Stmt} {scope : Scope} {f : Addr} {fd : FuncData} {N ps : List Str} {io : List Bool} {ir : List S} {n m k : Nat} (F : FunD K x qual params body scope [] [] f fd) (ok : DefOk x body scope N ps io ir n m) (bn : ∀ x ∈ bnames, mg x = none)
    (nd : ∀ d ∈ needsSs ir, NeedOk P w K mg base k d) : FnG P w K mg base (k + 1) f fd ps (mkFn N.length io ir) io := by
  obtain ⟨oc, od, dV, kV, doc, pm, an, cdv, ct, osl, rfl, lk, hcd, _, _⟩ := F.ex
  exact fn_g lk hcd ok.sc ok.io1 ok.io2 ok.mt bn nd
theorem need_fn {x qual : Str} {params : Arguments} {body : List Stmt} {scope : Scope} {f : Addr} {N ps : List Str} {io : List Bool} {ir : List S} {n m k : Nat} (F : ∃ fd, FunD K x qual params body scope [] [] f fd) (at_ : mg x = some (.ref f)) (ok : DefOk x body scope N ps io ir n m)
    (bind : ∀ (kV doc pm : Value) (an : Option Addr) (cdv ct : Value) (us : List Value), us.length = ps.length → bindArgs (PySem.W.fnOf x qual params body scope .none kV doc pm an cdv ct) ⟨us, []⟩ = pure (ps.zip us)) (bn : ∀ x ∈ bnames, mg x = none)
    (nd : ∀ d ∈ needsSs ir, NeedOk P w K mg base k d) : NeedOk P w K mg base (k + 1) (.fn x (mkFn N.length io ir) io) := by
  obtain ⟨fd, F⟩ := F
  exact .inr ⟨f, fd, ps, at_, F.kp, ok.io1, F.bindsN bind, fn_gD F ok bn nd⟩
theorem need_fnk {x qual : Str} {params : Arguments} {body : List Stmt} {scope : Scope} {f : Addr} {N ps : List Str} {io : List Bool} {ir : List S} {n m k a : Nat} {ks : List Str} {perm : List Nat} (F : ∃ fd, FunD K x qual params body scope [] [] f fd) (at_ : mg x = some (.ref f)) (ok : DefOk x body scope N ps io ir n m)
    (bind : ∀ (kV doc pm : Value) (an : Option Addr) (cdv ct : Value), KwTo (PySem.W.fnOf x qual params body scope .none kV doc pm an cdv ct) ps a ks perm) (pl : io = List.replicate perm.length false) (bn : ∀ x ∈ bnames, mg x = none)
    (nd : ∀ d ∈ needsSs ir, NeedOk P w K mg base k d) : NeedOk P w K mg base (k + 1) (.fnk x (mkFn N.length io ir) a ks perm) := by
  obtain ⟨fd, F⟩ := F
  have g := fn_gD F ok bn nd
  have l := ok.io1
  subst pl
  refine ⟨f, fd, ps, at_, F.kp, by rw [l, List.length_replicate], ?_, g⟩
  obtain ⟨oc, od, dV, kV, doc, pm, an, cdv, ct, osl, rfl, lk, hcd, hD, hK⟩ := F.ex
  rcases hD with ⟨_, rfl⟩ | ⟨e, _⟩
  · exact bind kV doc pm an cdv ct
  · exact absurd rfl e
end
end Vi
namespace Vi
open PySem PySem.Spec PyProof.Rows L2
section
variable {K : PySem.W.Frag} {mg : Str → Option Value} {h : Heap} {fa : List He.Fa} {fn : List He.DefD}
theorem bn_ok (inK : K.In h) (glob : h.Ns mainGlobals mg) (c : He.SaysD (fa ++ bnames.map He.Fa.free) fn K) : ∀ x ∈ bnames, mg x = none := fun x hx =>
  He.free_ok inK glob (c.facts (f := .free x) (List.mem_append_right _ (List.mem_map.mpr ⟨x, hx, rfl⟩)))
theorem gl_ok (inK : K.In h) (glob : h.Ns mainGlobals mg) (c : He.SaysD (fa ++ bnames.map He.Fa.free) fn K) {x : Str} (hx : He.Fa.glo x ∈ fa) : mg x = some (.ref (He.ga K x)) := He.glo_ok inK glob (c.facts (List.mem_append_left _ hx))
end
theorem room_of {k : Nat} (h : Nat.ble k 100 = true) : Room k callerA := by
  have h := Nat.le_of_ble_eq_true h
  have r : Room 100 callerA := ⟨rfl, by decide +kernel, by decide +kernel⟩
  exact r.mono h
end Vi
end
section
set_option maxRecDepth 100000
set_option maxHeartbeats 4000000
namespace Vi
open PySem L2

section
variable {α β : Type} {e : Env}
@[simp] theorem rb_ok (a : α) (e : Env) (f : α → Env → R β) : (R.ok a e).bind f = f a e := rfl
@[simp] theorem rb_ex (x : Exc) (e : Env) (f : α → Env → R β) : (R.ex x e : R α).bind f = .ex x e := rfl
@[simp] theorem rb_no (f : α → Env → R β) : (R.no : R α).bind f = .no := rfl
@[simp] theorem ro_some (a : α) (e : Env) : R.opt (some a) e = .ok a e := rfl
@[simp] theorem ro_none (e : Env) : (R.opt none e : R α) = .no := rfl
@[simp] theorem rs_ok (d : D) (e : Env) (f : D → Env → RS) : (R.ok d e).st f = f d e := rfl
@[simp] theorem rs_no (f : D → Env → RS) : (R.no : R D).st f = .no := rfl
@[simp] theorem rs_ex (x : Exc) (e : Env) (f : D → Env → RS) : (R.ex x e : R D).st f = .ex x e := rfl
@[simp] theorem rss_ok (d : List D) (e : Env) (f : List D → Env → RS) : (R.ok d e).sts f = f d e := rfl
@[simp] theorem rss_no (f : List D → Env → RS) : (R.no : R (List D)).sts f = .no := rfl
@[simp] theorem so_some (e : Env) : RS.opt (some e) = .nx e := rfl
@[simp] theorem so_none : RS.opt none = .no := rfl
@[simp] theorem sq_nx (e : Env) (f : Env → RS) : (RS.nx e).seq f = f e := rfl
@[simp] theorem sq_rt (d : D) (e : Env) (f : Env → RS) : (RS.rt d e).seq f = .rt d e := rfl
@[simp] theorem sq_ex (x : Exc) (e : Env) (f : Env → RS) : (RS.ex x e).seq f = .ex x e := rfl
@[simp] theorem sq_no (f : Env → RS) : RS.no.seq f = .no := rfl
@[simp] theorem g0 (s : Slot) (r : Env) : getS (s :: r) 0 = s := rfl
@[simp] theorem gS (s : Slot) (r : Env) (i : Nat) : getS (s :: r) (i + 1) = getS r i := rfl
@[simp] theorem gN (i : Nat) : getS [] i = .un := by cases i <;> rfl
@[simp] theorem s0 (s t : Slot) (r : Env) : setS (s :: r) 0 t = t :: r := rfl
@[simp] theorem sS (s t : Slot) (r : Env) (i : Nat) : setS (s :: r) (i + 1) t = s :: setS r i t := rfl

@[simp] theorem g_1 (s : Slot) (r : Env) : getS (s :: r) 1 = getS r 0 := rfl
@[simp] theorem s_1 (s t : Slot) (r : Env) : setS (s :: r) 1 t = s :: setS r 0 t := rfl
@[simp] theorem g_2 (s : Slot) (r : Env) : getS (s :: r) 2 = getS r 1 := rfl
@[simp] theorem s_2 (s t : Slot) (r : Env) : setS (s :: r) 2 t = s :: setS r 1 t := rfl
@[simp] theorem g_3 (s : Slot) (r : Env) : getS (s :: r) 3 = getS r 2 := rfl
@[simp] theorem s_3 (s t : Slot) (r : Env) : setS (s :: r) 3 t = s :: setS r 2 t := rfl
@[simp] theorem g_4 (s : Slot) (r : Env) : getS (s :: r) 4 = getS r 3 := rfl
@[simp] theorem s_4 (s t : Slot) (r : Env) : setS (s :: r) 4 t = s :: setS r 3 t := rfl
@[simp] theorem g_5 (s : Slot) (r : Env) : getS (s :: r) 5 = getS r 4 := rfl
@[simp] theorem s_5 (s t : Slot) (r : Env) : setS (s :: r) 5 t = s :: setS r 4 t := rfl
@[simp] theorem g_6 (s : Slot) (r : Env) : getS (s :: r) 6 = getS r 5 := rfl
@[simp] theorem s_6 (s t : Slot) (r : Env) : setS (s :: r) 6 t = s :: setS r 5 t := rfl
@[simp] theorem g_7 (s : Slot) (r : Env) : getS (s :: r) 7 = getS r 6 := rfl
@[simp] theorem s_7 (s t : Slot) (r : Env) : setS (s :: r) 7 t = s :: setS r 6 t := rfl
@[simp] theorem g_8 (s : Slot) (r : Env) : getS (s :: r) 8 = getS r 7 := rfl
@[simp] theorem s_8 (s t : Slot) (r : Env) : setS (s :: r) 8 t = s :: setS r 7 t := rfl
@[simp] theorem g_9 (s : Slot) (r : Env) : getS (s :: r) 9 = getS r 8 := rfl
@[simp] theorem s_9 (s t : Slot) (r : Env) : setS (s :: r) 9 t = s :: setS r 8 t := rfl
@[simp] theorem g_10 (s : Slot) (r : Env) : getS (s :: r) 10 = getS r 9 := rfl
@[simp] theorem s_10 (s t : Slot) (r : Env) : setS (s :: r) 10 t = s :: setS r 9 t := rfl
@[simp] theorem g_11 (s : Slot) (r : Env) : getS (s :: r) 11 = getS r 10 := rfl
@[simp] theorem s_11 (s t : Slot) (r : Env) : setS (s :: r) 11 t = s :: setS r 10 t := rfl
@[simp] theorem g_12 (s : Slot) (r : Env) : getS (s :: r) 12 = getS r 11 := rfl
@[simp] theorem s_12 (s t : Slot) (r : Env) : setS (s :: r) 12 t = s :: setS r 11 t := rfl
@[simp] theorem g_13 (s : Slot) (r : Env) : getS (s :: r) 13 = getS r 12 := rfl
@[simp] theorem s_13 (s t : Slot) (r : Env) : setS (s :: r) 13 t = s :: setS r 12 t := rfl
@[simp] theorem rd_eq (i : Nat) (e : Env) : rdS i e = (match getS e i with | .un => .no | .fr d => .ok d e | .ow d => .ok d (setS e i (.fr d))) := rfl
@[simp] theorem pk_eq (i : Nat) (e : Env) : pkS i e = (match getS e i with | .fr d => some d | .ow (.lst xs) => some (.lst xs) | _ => none) := rfl
@[simp] theorem has_eq (i : Nat) (e : Env) : hasS i e = (match getS e i with | .un => false | _ => true) := rfl
@[simp] theorem isown_eq (i : Nat) (e : Env) : isOwnL i e = (match getS e i with | .ow (.lst _) => true | _ => false) := rfl
@[simp] theorem ev_non  : ev .non e = .ok .non e := by first | (simp only [ev]; done) | (simp only [ev]; rfl)
@[simp] theorem ev_bl (b : Bool) : ev (.bl b) e = .ok (.bl b) e := by first | (simp only [ev]; done) | (simp only [ev]; rfl)
@[simp] theorem ev_int (i : Int) : ev (.int i) e = .ok (.int i) e := by first | (simp only [ev]; done) | (simp only [ev]; rfl)
@[simp] theorem ev_str (s : Str) : ev (.str s) e = .ok (.str s) e := by first | (simp only [ev]; done) | (simp only [ev]; rfl)
@[simp] theorem ev_var (i : Nat) : ev (.var i) e = rdS i e := by first | (simp only [ev]; done) | (simp only [ev]; rfl)
@[simp] theorem ev_gl (x : Str) (d : D) : ev (.gl x d) e = .ok d e := by first | (simp only [ev]; done) | (simp only [ev]; rfl)
@[simp] theorem ev_fnv (x : Str) : ev (.fnv x) e = .ok (.fn x) e := by first | (simp only [ev]; done) | (simp only [ev]; rfl)
@[simp] theorem ev_bin (op : Op) (a b : E) : ev (.bin op a b) e = (ev a e).bind fun x e => (ev b e).bind fun y e => R.opt (binD op x y) e := by first | (simp only [ev]; done) | (simp only [ev]; rfl)
@[simp] theorem ev_neg (a : E) : ev (.neg a) e = (ev a e).bind fun x e => (match x with | .int i => .ok (.int (-i)) e | _ => .no) := by first | (simp only [ev]; done) | (simp only [ev]; rfl)
@[simp] theorem ev_cmp (c : Cop) (a b : E) : ev (.cmp c a b) e = (ev a e).bind fun x e => (ev b e).bind fun y e => R.opt ((cmpD c x y).map .bl) e := by first | (simp only [ev]; done) | (simp only [ev]; rfl)
@[simp] theorem ev_chn (c1 c2 : Cop) (a b c : E) : ev (.chn c1 c2 a b c) e = (ev a e).bind fun x e => (ev b e).bind fun y e => (match cmpD c1 x y with | some true => (ev c e).bind fun z e => R.opt ((cmpD c2 y z).map .bl) e | some false => .ok (.bl false) e | none => .no) := by first | (simp only [ev]; done) | (simp only [ev]; rfl)
@[simp] theorem ev_and (a b : E) : ev (.and a b) e = (ev a e).bind fun x e => (match x with | .bl true => ev b e | .bl false => .ok (.bl false) e | _ => .no) := by first | (simp only [ev]; done) | (simp only [ev]; rfl)
@[simp] theorem ev_or (a b : E) : ev (.or a b) e = (ev a e).bind fun x e => (match x with | .bl true => .ok (.bl true) e | .bl false => ev b e | _ => .no) := by first | (simp only [ev]; done) | (simp only [ev]; rfl)
@[simp] theorem ev_not (a : E) : ev (.not a) e = (ev a e).bind fun x e => (match x with | .bl b => .ok (.bl (!b)) e | _ => .no) := by first | (simp only [ev]; done) | (simp only [ev]; rfl)
@[simp] theorem ev_ite (c a b : E) : ev (.ite c a b) e = (ev c e).bind fun x e => (match x with | .bl true => ev a e | .bl false => ev b e | _ => .no) := by first | (simp only [ev]; done) | (simp only [ev]; rfl)
@[simp] theorem ev_tup (es : List E) : ev (.tup es) e = (evs es e).bind fun ds e => .ok (.tup ds) e := by first | (simp only [ev]; done) | (simp only [ev]; rfl)
@[simp] theorem ev_lst (es : List E) : ev (.lst es) e = (evs es e).bind fun ds e => .ok (.lst ds) e := by first | (simp only [ev]; done) | (simp only [ev]; rfl)
@[simp] theorem ev_call (x : Str) (F : Fn) (es : List E) : ev (.call x F es) e = (evs es e).bind fun ds e => callF F es ds e := by first | (simp only [ev]; done) | (simp only [ev]; rfl)
@[simp] theorem ev_callk (x : Str) (F : Fn) (ks : List Str) (perm : List Nat) (es ws : List E) : ev (.callk x F ks perm es ws) e = (evs es e).bind fun ds e => (evs ws e).bind fun cs e => callK F perm (ds ++ cs) e := by first | (simp only [ev]; done) | (simp only [ev]; rfl)
@[simp] theorem ev_bi (f : Bi) (es : List E) : ev (.bi f es) e = (evs es e).bind fun ds e => R.opt (biD f ds) e := by first | (simp only [ev]; done) | (simp only [ev]; rfl)
@[simp] theorem ev_isi (a : E) (ts : List String) : ev (.isi a ts) e = (ev a e).bind fun x e => R.opt ((isDs x ts).map .bl) e := by first | (simp only [ev]; done) | (simp only [ev]; rfl)
@[simp] theorem ev_ix (a b : E) : ev (.ix a b) e = (ev a e).bind fun x e => (ev b e).bind fun y e => R.opt (getD x y) e := by first | (simp only [ev]; done) | (simp only [ev]; rfl)
@[simp] theorem ev_sl (a lo hi : E) : ev (.sl a lo hi) e = (ev a e).bind fun x e => (ev lo e).bind fun l e => (R.opt (partE lo l) e).bind fun l e => (ev hi e).bind fun h e => (R.opt (partE hi h) e).bind fun h e => R.opt (cutD x l h) e := by first | (simp only [ev]; done) | (simp only [ev]; rfl)
@[simp] theorem ev_rev (a : E) : ev (.rev a) e = (ev a e).bind fun x e => R.opt (revD x) e := by first | (simp only [ev]; done) | (simp only [ev]; rfl)
@[simp] theorem ev_rng (es : List E) : ev (.rng es) e = (evs es e).bind fun ds e => R.opt ((rngD ds).map .lst) e := by first | (simp only [ev]; done) | (simp only [ev]; rfl)
@[simp] theorem ev_zip (es : List E) : ev (.zip es) e = (evs es e).bind fun ds e => R.opt ((zipD ds).map .lst) e := by first | (simp only [ev]; done) | (simp only [ev]; rfl)
@[simp] theorem ev_enu (a : E) : ev (.enu a) e = (ev a e).bind fun x e => (match x with | .lst l => .ok (.lst (enumL 0 l)) e | _ => .no) := by first | (simp only [ev]; done) | (simp only [ev]; rfl)
@[simp] theorem ev_pop (i : Nat) : ev (.pop i) e = popD i none e := by first | (simp only [ev]; done) | (simp only [ev]; rfl)
@[simp] theorem ev_eno  : ev .eno e = .no := by first | (simp only [ev]; done) | (simp only [ev]; rfl)
@[simp] theorem ev_pix (i : Nat) (b : E) : ev (.pix i b) e = if !hasS i e then .no else (ev b e).bind fun y e => R.opt ((pkS i e).bind fun x => getD x y) e := by first | (simp only [ev]; done) | (simp only [ev]; rfl)
@[simp] theorem ev_plen (i : Nat) : ev (.plen i) e = R.opt ((pkS i e).bind fun x => biD .len [x]) e := by first | (simp only [ev]; done) | (simp only [ev]; rfl)
@[simp] theorem ev_pcmp (c : Cop) (i : Nat) (b : E) : ev (.pcmp c i b) e = if !hasS i e then .no else (ev b e).bind fun y e => R.opt (((pkS i e).bind fun x => cmpD c x y).map .bl) e := by first | (simp only [ev]; done) | (simp only [ev]; rfl)
@[simp] theorem ev_pin (c : Cop) (a : E) (i : Nat) : ev (.pin c a i) e = (ev a e).bind fun y e => R.opt (((pkS i e).bind fun x => cmpD c y x).map .bl) e := by first | (simp only [ev]; done) | (simp only [ev]; rfl)
@[simp] theorem ev_mth (m : Mth) (a : E) (es : List E) : ev (.mth m a es) e = (ev a e).bind fun x e => (match x with | .str s => (evs es e).bind fun ds e => R.opt (mthD m (.str s) ds) e | _ => .no) := by first | (simp only [ev]; done) | (simp only [ev]; rfl)
@[simp] theorem ev_psl (i : Nat) (lo hi : E) : ev (.psl i lo hi) e = if !hasS i e then .no else (ev lo e).bind fun l e => (R.opt (partE lo l) e).bind fun l e => (ev hi e).bind fun h e => (R.opt (partE hi h) e).bind fun h e => R.opt ((pkS i e).bind fun x => cutD x l h) e := by first | (simp only [ev]; done) | (simp only [ev]; rfl)
@[simp] theorem ev_iov (i : Nat) : ev (.iov i) e = (match getS e i with | .ow _ => .ok .non e | _ => .no) := by first | (simp only [ev]; done) | (simp only [ev]; rfl)
@[simp] theorem evs_nil : evs [] e = .ok [] e := by first | (simp only [evs]; done) | (simp only [evs]; rfl)
@[simp] theorem evs_cons (a : E) (as : List E) : evs (a :: as) e = (ev a e).bind fun d e => (evs as e).bind fun ds e => .ok (d :: ds) e := by first | (simp only [evs]; done) | (simp only [evs]; rfl)
@[simp] theorem exs_nil : exs [] e = .nx e := by first | (simp only [exs]; done) | (simp only [exs]; rfl)
@[simp] theorem exs_cons (s : S) (ss : List S) : exs (s :: ss) e = (ex1 s e).seq fun e => exs ss e := by first | (simp only [exs]; done) | (simp only [exs]; rfl)
@[simp] theorem x_asg (tg : Tg) (a : E) : ex1 (.asg tg a) e = (ev a e).st fun d e => RS.opt (asgT tg d e) := by first | (simp only [ex1]; done) | (simp only [ex1]; rfl)
@[simp] theorem x_own (i : Nat) (a : E) : ex1 (.own i a) e = (ev a e).st fun d e => if freshD d then .nx (setS e i (.ow d)) else .no := by first | (simp only [ex1]; done) | (simp only [ex1]; rfl)
@[simp] theorem x_par (is : List Nat) (es : List E) : ex1 (.par is es) e = (evs es e).sts fun ds e => RS.opt (setSs is ds e) := by first | (simp only [ex1]; done) | (simp only [ex1]; rfl)
@[simp] theorem x_app (i : Nat) (a : E) : ex1 (.app i a) e = if !isOwnL i e then .no else (ev a e).st fun d e => (match getS e i with | .ow (.lst xs) => if lenOk xs.length then .nx (setS e i (.ow (.lst (xs ++ [d])))) else .no | _ => .no) := by first | (simp only [ex1]; done) | (simp only [ex1]; rfl)
@[simp] theorem x_ex (a : E) : ex1 (.ex a) e = (ev a e).st fun _ e => .nx e := by first | (simp only [ex1]; done) | (simp only [ex1]; rfl)
@[simp] theorem x_ife (c : E) (a b : List S) : ex1 (.ife c a b) e = (ev c e).st fun d e => (match d with | .bl true => exs a e | .bl false => exs b e | _ => .no) := by first | (simp only [ex1]; done) | (simp only [ex1]; rfl)
@[simp] theorem x_fo (tg : Tg) (src : E) (body : List S) : ex1 (.fo tg src body) e = (ev src e).st fun d e => (match itemsD d with | some ds => forL tg (exs body) ds e | none => .no) := by first | (simp only [ex1]; done) | (simp only [ex1]; rfl)
@[simp] theorem x_ret (a : E) : ex1 (.ret a) e = (ev a e).st fun d e => .rt d e := by first | (simp only [ex1]; done) | (simp only [ex1]; rfl)
@[simp] theorem x_pas  : ex1 .pas e = .nx e := by first | (simp only [ex1]; done) | (simp only [ex1]; rfl)
@[simp] theorem x_sno  : ex1 .sno e = .no := by first | (simp only [ex1]; done) | (simp only [ex1]; rfl)
@[simp] theorem x_ownc (i : Nat) (x : Str) (F : Fn) (es : List E) : ex1 (.ownc i x F es) e = (evs es e).sts fun ds e => owncR i F ds e := by first | (simp only [ex1]; done) | (simp only [ex1]; rfl)
@[simp] theorem x_spl (x : Str) (F : Fn) (es : List E) (sel : Option Int) : ex1 (.spl x F es sel) e = (evs es e).sts fun ds e => splR F sel ds e := by first | (simp only [ex1]; done) | (simp only [ex1]; rfl)
end
@[simp] theorem b_add (i j : Int) : binD .add (.int i) (.int j) = some (.int (i + j)) := rfl
@[simp] theorem b_sub (i j : Int) : binD .sub (.int i) (.int j) = some (.int (i - j)) := rfl
@[simp] theorem b_mul (i j : Int) : binD .mul (.int i) (.int j) = if bitsOk i j then some (.int (i * j)) else none := rfl
@[simp] theorem b_mod (i j : Int) : binD .mod (.int i) (.int j) = if 0 < j then some (.int (i % j)) else none := rfl
@[simp] theorem b_adds (i j : Str) : binD .add (.str i) (.str j) = if lenOk (i.length + j.length) then some (.str (i ++ j)) else none := rfl
@[simp] theorem b_addl (i j : List D) : binD .add (.lst i) (.lst j) = if lenOk (i.length + j.length) then some (.lst (i ++ j)) else none := rfl
@[simp] theorem b_addt (i j : List D) : binD .add (.tup i) (.tup j) = if lenOk (i.length + j.length) then some (.tup (i ++ j)) else none := rfl
@[simp] theorem c_lt (i j : Int) : cmpD .lt (.int i) (.int j) = some (decide (i < j)) := rfl
@[simp] theorem c_le (i j : Int) : cmpD .le (.int i) (.int j) = some (decide (i ≤ j)) := rfl
@[simp] theorem c_gt (i j : Int) : cmpD .gt (.int i) (.int j) = some (decide (j < i)) := rfl
@[simp] theorem c_ge (i j : Int) : cmpD .ge (.int i) (.int j) = some (decide (j ≤ i)) := rfl
@[simp] theorem c_eqi (i j : Int) : cmpD .eq (.int i) (.int j) = some (i == j) := rfl
@[simp] theorem c_nei (i j : Int) : cmpD .ne (.int i) (.int j) = some (!(i == j)) := rfl
@[simp] theorem c_eqs (i j : Str) : cmpD .eq (.str i) (.str j) = some (i == j) := rfl
@[simp] theorem c_nes (i j : Str) : cmpD .ne (.str i) (.str j) = some (!(i == j)) := rfl
@[simp] theorem c_isN (x : D) : cmpD .isN x .non = some (match x with | .non => true | _ => false) := rfl
@[simp] theorem c_notN (x : D) : cmpD .notN x .non = some (match x with | .non => false | _ => true) := rfl
@[simp] theorem bi_lenl (xs : List D) : biD .len [.lst xs] = some (.int xs.length) := rfl
@[simp] theorem bi_lent (xs : List D) : biD .len [.tup xs] = some (.int xs.length) := rfl
@[simp] theorem bi_lenc (xs : List Int) : biD .len [.scr xs] = some (.int xs.length) := rfl
@[simp] theorem bi_lens (s : Str) : biD .len [.str s] = if lenOk s.length then some (.int s.length) else none := rfl
@[simp] theorem bx_abs (i : Int) : biD .abs [.int i] = some (.int (if i < 0 then -i else i)) := rfl
@[simp] theorem bx_int (i : Int) : biD .int [.int i] = some (.int i) := rfl
@[simp] theorem bx_min (i j : Int) : biD .min [.int i, .int j] = some (.int (if j < i then j else i)) := rfl
@[simp] theorem bx_max (i j : Int) : biD .max [.int i, .int j] = some (.int (if j > i then j else i)) := rfl
@[simp] theorem bi_listl (xs : List D) : biD .list [.lst xs] = some (.lst xs) := rfl
@[simp] theorem bi_listt (xs : List D) : biD .list [.tup xs] = some (.lst xs) := rfl
@[simp] theorem bi_tupl (xs : List D) : biD .tuple [.lst xs] = some (.tup xs) := rfl
@[simp] theorem bi_tupt (xs : List D) : biD .tuple [.tup xs] = some (.tup xs) := rfl
@[simp] theorem bx_all (xs : List D) : biD .all [.lst xs] = (blsD xs).map fun l => .bl (l.all id) := rfl
@[simp] theorem bx_any (xs : List D) : biD .any [.lst xs] = (blsD xs).map fun l => .bl (l.any id) := rfl
@[simp] theorem bi_dm (i j : Int) : biD .divmod [.int i, .int j] = if decide (0 < j) && decide (j < 1073741824) then some (.tup [.int (i / j), .int (i % j)]) else none := rfl
@[simp] theorem as_nm (i : Nat) (d : D) (e : Env) : asgT (.nm i) d e = some (setS e i (.fr d)) := by unfold asgT; rfl
@[simp] theorem as_tp (ts : List Tg) (xs : List D) (e : Env) : asgT (.tp ts) (.tup xs) e = asgTs ts xs e := by rw [asgT]
@[simp] theorem ass_nil (e : Env) : asgTs [] [] e = some e := by rw [asgTs]
@[simp] theorem ass_cons (t : Tg) (ts : List Tg) (x : D) (xs : List D) (e : Env) : asgTs (t :: ts) (x :: xs) e = (asgT t x e).bind fun e => asgTs ts xs e := by rw [asgTs]
@[simp] theorem as_sb (i : Nat) (k : Ix) (d : D) (e : Env) : asgT (.sb i k) d e = (match getS e i with | .ow o => (ixOf k e).bind fun j => (storeD o (.int j) d).map fun o => setS e i (.ow o) | _ => none) := by unfold asgT; rfl
@[simp] theorem ixOf_lit (i : Int) (e : Env) : ixOf (.lit i) e = some i := rfl
@[simp] theorem ss_nil (e : Env) : setSs [] [] e = some e := rfl
@[simp] theorem ss_cons (i : Nat) (is : List Nat) (d : D) (ds : List D) (e : Env) : setSs (i :: is) (d :: ds) e = setSs is ds (setS e i (.fr d)) := rfl
/-- a call whose arguments are all values -/
@[simp] theorem fill_nil (e : Env) : fillIo [] [] e = some [] := rfl
theorem fill_plain : ∀ {es : List E} {ds : List D} {e : Env}, (es.all fun a => (iovOf a).isNone) = true → es.length = ds.length → fillIo es ds e = some ds
  | [], [], _, _, _ => rfl
  | a :: es, d :: ds, e, h, hl => by
    simp only [List.all_cons, Bool.and_eq_true] at h
    have z : iovOf a = none := by simpa using h.1
    unfold fillIo
    rw [z, fill_plain h.2 (Nat.succ.inj hl)]; rfl
  | [], _ :: _, _, _, hl => by cases hl
  | _ :: _, [], _, _, hl => by cases hl
theorem put_plain : ∀ {es : List E} {os : List D} {e : Env}, (es.all fun a => (iovOf a).isNone) = true → putIo es os e = (match os with | [] => some e | _ => none)
  | [], [], _, _ => rfl
  | [], _ :: _, _, _ => rfl
  | a :: es, os, e, h => by
    simp only [List.all_cons, Bool.and_eq_true] at h
    have z : iovOf a = none := by simpa using h.1
    unfold putIo
    rw [z, put_plain h.2]
theorem call_plain {F : Fn} {es : List E} {ds : List D} {e : Env} {d : D} (h : (es.all fun a => (iovOf a).isNone) = true) (hl : es.length = ds.length) (hF : F ds = .ok d []) : callF F es ds e = .ok d e := by
  unfold callF
  rw [fill_plain h hl]
  simp only [hF, put_plain h]
/-- one changed argument, the first -/
theorem call_io1 {F : Fn} {i : Nat} {es : List E} {x : D} {ds : List D} {e : Env} {d p p' : D} (h : (es.all fun a => (iovOf a).isNone) = true) (hl : es.length = ds.length) (hp : getS e i = .ow p) (hF : F (p :: ds) = .ok d [p']) : callF F (.iov i :: es) (x :: ds) e = .ok d (setS e i (.ow p')) := by
  unfold callF
  have h1 : fillIo (.iov i :: es) (x :: ds) e = some (p :: ds) := by
    show (match getS e i with | .ow d => (fillIo es ds e).map fun r => d :: r | _ => none) = _
    rw [hp, fill_plain h hl]; rfl
  rw [h1]
  simp only [hF]
  have h2 : putIo (.iov i :: es) [p'] e = some (setS e i (.ow p')) := by
    show putIo es [] (setS e i (.ow p')) = _
    rw [put_plain h]
  rw [h2]
/-- what a def computes, by its body -/
theorem fn_run {n : Nat} {io : List Bool} {ir : List S} {ds : List D} (h : ds.length = io.length) : mkFn n io ir ds = (match exs ir (inEnv io ds ++ List.replicate (n - io.length) .un) with
    | .nx e => (match outsOf io e with | some os => .ok .non os | none => .no)
    | .rt d e => (match outsOf io e with | some os => .ok d os | none => .no)
    | .ex x e => (match outsOf io e with | some os => .ex x os | none => .no)
    | _ => .no) := by
  unfold mkFn
  rw [h, if_pos (beq_self_eq_true _)]
  try rfl
@[simp] theorem ie_t (io : List Bool) (d : D) (ds : List D) : inEnv (true :: io) (d :: ds) = .ow d :: inEnv io ds := rfl
@[simp] theorem ie_f (io : List Bool) (d : D) (ds : List D) : inEnv (false :: io) (d :: ds) = .fr d :: inEnv io ds := rfl
@[simp] theorem ie_n : inEnv [] [] = [] := rfl
@[simp] theorem oo_n (e : Env) : outsOf [] e = some [] := rfl
@[simp] theorem oo_t (io : List Bool) (d : D) (e : Env) : outsOf (true :: io) (.ow d :: e) = (outsOf io e).map fun r => d :: r := rfl
@[simp] theorem oo_f (io : List Bool) (s : Slot) (e : Env) : outsOf (false :: io) (s :: e) = outsOf io e := rfl
/-- a comprehension whose element is a function of the item -/
theorem lc_map {own : List Nat} {tg : Tg} {f : Env → R (Option D)} {e : Env} {g : D → D} : ∀ {ds : List D}, (∀ d ∈ ds, ∃ e1 e2, asgT tg d e = some e1 ∧ f e1 = .ok (some (g d)) e2 ∧ wipeE e2 own = some e) → lcL own tg f ds e = .ok (ds.map g) e
  | [], _ => rfl
  | d :: ds, h => by
    obtain ⟨e1, e2, h1, h2, h3⟩ := h d List.mem_cons_self
    unfold lcL
    rw [h1]
    simp only [h2, rb_ok, h3, lc_map fun d hd => h d (List.mem_cons_of_mem _ hd)]
    rfl
/-- with an invariant of the state -/
theorem lc_inv {own : List Nat} {tg : Tg} {f : Env → R (Option D)} (I : Env → Prop) (Q : D → Prop) : ∀ {ds : List D} {e : Env}, I e → (∀ d ∈ ds, ∀ e, I e → ∃ e1 x e2 e3, asgT tg d e = some e1 ∧ f e1 = .ok (some x) e2 ∧ wipeE e2 own = some e3 ∧ I e3 ∧ Q x) →
    ∃ xs e', lcL own tg f ds e = .ok xs e' ∧ I e' ∧ xs.length = ds.length ∧ ∀ x ∈ xs, Q x
  | [], e, hi, _ => ⟨[], e, rfl, hi, rfl, fun x hx => by cases hx⟩
  | d :: ds, e, hi, h => by
    obtain ⟨e1, x, e2, e3, h1, h2, h3, h4, h5⟩ := h d List.mem_cons_self e hi
    obtain ⟨xs, e', k1, k2, k3, k4⟩ := lc_inv I Q h4 fun d hd => h d (List.mem_cons_of_mem _ hd)
    refine ⟨x :: xs, e', ?_, k2, congrArg Nat.succ k3, fun y hy => ?_⟩
    · unfold lcL
      rw [h1]
      show ((f e1).bind fun o e => _) = _
      rw [h2, rb_ok]
      simp only [h3, k1, rb_ok]
    · rcases List.mem_cons.mp hy with z | z
      · rw [z]; exact h5
      · exact k4 y z
/-- while: enough turns -/
theorem wh_run {c : Env → R D} {f : Env → RS} (n : Nat) : ∀ (k : Nat) {e : Env} {r : RS}, whN c f n e = r → r ≠ .no → whN c f (n + k) e = r := by
  induction n with
  | zero => intro k e r h hr; exact absurd h.symm hr
  | succ n ih =>
    intro k e r h hr
    rw [Nat.add_right_comm]
    unfold whN at h ⊢
    cases hc : c e with
    | no => rw [hc] at h; exact absurd h.symm hr
    | ex x e1 => rw [hc] at h; exact h
    | ok d e1 =>
      rw [hc] at h
      cases d with
      | bl b =>
        cases b with
        | false => exact h
        | true =>
          cases hf : f e1 with
          | nx e2 => simp only [hf] at h ⊢; exact ih k h hr
          | ct e2 => simp only [hf] at h ⊢; exact ih k h hr
          | bk e2 => simp only [hf] at h ⊢; exact h
          | rt d e2 => simp only [hf] at h ⊢; exact h
          | ex x e2 => simp only [hf] at h ⊢; exact h
          | no => simp only [hf] at h ⊢; exact h
      | _ => exact absurd h.symm hr
theorem wh_fuel {c : E} {body : List S} {n : Nat} {e : Env} {r : RS} (h : whN (ev c) (exs body) n e = r) (hr : r ≠ .no) (hn : n ≤ FUEL) : ex1 (.wh c body) e = r := by
  simp only [ex1]
  rw [← Nat.add_sub_cancel' hn]
  exact wh_run n _ h hr
theorem fuel_le {n k : Nat} (h : n ≤ 2 ^ k) (hk : k ≤ 10000) : n ≤ FUEL := Nat.le_trans h (Nat.pow_le_pow_right (by decide) hk)
/-- a comprehension without a condition -/
theorem ev_lc0 {own : List Nat} {tg : Tg} {src elt : E} {e e0 e1 : Env} {s : D} {ds : List D} {g : D → D} (hs : ev src e = .ok s e0) (hi : itemsD s = some ds) (hw : wipeE e0 own = some e1) (hl : ds.length ≤ 1000000)
    (h : ∀ d ∈ ds, ∃ e2 e3, asgT tg d e1 = some e2 ∧ ev elt e2 = .ok (g d) e3 ∧ wipeE e3 own = some e1) : ev (.lc own tg src [] elt) e = .ok (.lst (ds.map g)) (unwipe e0 e1 own) := by
  simp only [ev, hs, rb_ok, hi, hw]
  rw [show lenOk ds.length = true from Nat.ble_eq_true_of_le hl]
  have k := lc_map (own := own) (tg := tg) (f := fun e => (evs [] e).bind fun c e => (match c with
        | [] => (ev elt e).bind fun d e => .ok (some d) e
        | [.bl true] => (ev elt e).bind fun d e => .ok (some d) e
        | [.bl false] => .ok none e
        | _ => .no)) (e := e1) (g := g) (ds := ds) fun d hd => by
    obtain ⟨e2, e3, h1, h2, h3⟩ := h d hd
    exact ⟨e2, e3, h1, by simp only [evs, rb_ok, h2], h3⟩
  show (match lcL own tg (fun e => (evs [] e).bind fun c e => (match c with
        | [] => (ev elt e).bind fun d e => .ok (some d) e
        | [.bl true] => (ev elt e).bind fun d e => .ok (some d) e
        | [.bl false] => .ok none e
        | _ => .no)) ds e1 with
    | .ok ds e2 => R.ok (D.lst ds) (unwipe e0 e2 own)
    | _ => .no) = _
  rw [k]
/-- one with a changed state: the invariant I, what each element is -/
theorem ev_lcI {own : List Nat} {tg : Tg} {src elt : E} {e e0 e1 : Env} {s : D} {ds : List D} (I : Env → Prop) (Q : D → Prop) (hs : ev src e = .ok s e0) (hi : itemsD s = some ds) (hw : wipeE e0 own = some e1) (hl : ds.length ≤ 1000000) (h0 : I e1)
    (h : ∀ d ∈ ds, ∀ e, I e → ∃ e1 x e2 e3, asgT tg d e = some e1 ∧ ev elt e1 = .ok x e2 ∧ wipeE e2 own = some e3 ∧ I e3 ∧ Q x) : ∃ xs e', ev (.lc own tg src [] elt) e = .ok (.lst xs) (unwipe e0 e' own) ∧ I e' ∧ xs.length = ds.length ∧ ∀ x ∈ xs, Q x := by
  obtain ⟨xs, e', k1, k2, k3, k4⟩ := lc_inv (own := own) (tg := tg) (f := fun e => (evs [] e).bind fun c e => (match c with
        | [] => (ev elt e).bind fun d e => .ok (some d) e
        | [.bl true] => (ev elt e).bind fun d e => .ok (some d) e
        | [.bl false] => .ok none e
        | _ => .no)) I Q (ds := ds) h0 fun d hd e he => by
    obtain ⟨e1, x, e2, e3, h1, h2, h3, h4, h5⟩ := h d hd e he
    exact ⟨e1, x, e2, e3, h1, by simp only [evs, rb_ok, h2], h3, h4, h5⟩
  refine ⟨xs, e', ?_, k2, k3, k4⟩
  simp only [ev, hs, rb_ok, hi, hw]
  rw [show lenOk ds.length = true from Nat.ble_eq_true_of_le hl]
  show (match lcL own tg (fun e => (evs [] e).bind fun c e => (match c with
        | [] => (ev elt e).bind fun d e => .ok (some d) e
        | [.bl true] => (ev elt e).bind fun d e => .ok (some d) e
        | [.bl false] => .ok none e
        | _ => .no)) ds e1 with
    | .ok ds e2 => R.ok (D.lst ds) (unwipe e0 e2 own)
    | _ => .no) = _
  rw [k1]
end Vi
end
section
set_option maxRecDepth 100000
set_option maxHeartbeats 4000000
namespace Vi
open PySem L2
def strL (s : Str) : Nat := 10 * s.length + 2
mutual
/-- a bound of the repr's length -/
def siz : D → Nat
  | .non => 4 | .bl _ => 5 | .int i => i.natAbs.log2 + 2 | .str s => strL s
  | .lst xs => sizs xs + 2
  | .tup xs => sizs xs + 3
  | _ => 0
def sizs : List D → Nat
  | [] => 0
  | x :: xs => siz x + 2 + sizs xs
end
mutual
/-- numbers that may be shown -/
def D.shw : D → Bool
  | .int i => Nat.blt i.natAbs.log2 1920
  | .lst xs => D.shws xs
  | .tup xs => D.shws xs
  | _ => true
def D.shws : List D → Bool
  | [] => true
  | x :: xs => D.shw x && D.shws xs
end
theorem rchar_le {q c : Nat} (h : c < 0x110000) : (PySem.Builtin.Str.reprChar q c).length ≤ 10 := by
  have d : (Nat.toDigits 16 c).length ≤ 6 := (Nat.length_toDigits_le_iff (b := 16) (by decide) (by decide)).mpr (by omega)
  unfold PySem.Builtin.Str.reprChar
  simp only []
  repeat' split
  all_goals simp
  all_goals omega
theorem rtext_le {s : Str} (h : (s.cps.all fun c => decide (c < 0x110000)) = true) : (reprText s).length ≤ strL s := by
  rw [← reprLen_eq]
  have k : ∀ (l : List Nat) (n : Nat), (∀ c ∈ l, c < 0x110000) → l.foldl (fun n c => n + (PySem.Builtin.Str.reprChar (reprQuote s) c).length) n ≤ n + 10 * l.length := by
    intro l
    induction l with
    | nil => intro n _; simp
    | cons c r ih =>
      intro n hc
      have := ih (n + (PySem.Builtin.Str.reprChar (reprQuote s) c).length) fun x hx => hc x (List.mem_cons_of_mem _ hx)
      have k := rchar_le (q := reprQuote s) (hc c List.mem_cons_self)
      rw [List.foldl_cons, List.length_cons]
      omega
  rw [← Array.foldl_toList]
  have := k s.cps.toList 2 fun c hc => by
    have := Array.all_eq_true_iff_forall_mem.mp h c (Array.mem_toList_iff.mp hc)
    simpa using this
  have e : s.cps.toList.length = s.length := rfl
  unfold strL
  omega
theorem tfrom_le : ∀ (ts : List Str) (k : Nat) (acc : Str), (textFrom k acc ts).length ≤ acc.length + piled ts
  | [], k, acc => by simp [textFrom, piled]
  | t :: r, k, acc => by
    have h := tfrom_le r (k + 1) (acc ++ (if k > 0 then ", " else "" : String) ++ t)
    have e : (acc ++ (if k > 0 then ", " else "" : String) ++ t).length = acc.length + (if k > 0 then 2 else 0) + t.length := by
      rw [strLen_append, strLen_append]
      split <;> rfl
    rw [e] at h
    rw [piled_cons]
    show (textFrom (k + 1) _ r).length ≤ _
    have : (if k > 0 then 2 else 0 : Nat) ≤ 2 := by split <;> omega
    omega
theorem ltext_le (ts : List Str) : (listText ts).length ≤ piled ts + 2 := by
  unfold listText
  rw [strLen_append]
  have h := tfrom_le ts 0 "["
  have e1 : ((("[" : String) : Str)).length = 1 := rfl
  have e2 : ((("]" : String) : Str)).length = 1 := rfl
  omega
theorem ttext_le (ts : List Str) : (tupleText ts).length ≤ piled ts + 3 := by
  unfold tupleText
  rw [strLen_append, strLen_append]
  have e1 : ((("(" : String) : Str)).length = 1 := rfl
  have e3 : (((if ts.length == 1 then ",)" else ")" : String) : Str)).length ≤ 2 := by split <;> decide
  by_cases h : ts = []
  · subst h; simp [piled] at e3 ⊢; decide
  · have := join_length_add ts h
    omega
mutual
theorem shown_le : ∀ d : D, d.pure = true → d.shw = true → d.py.showable = true ∧ d.py.shown.length ≤ siz d
  | .non, _, _ => ⟨rfl, by decide⟩
  | .bl b, _, _ => ⟨rfl, by cases b <;> decide⟩
  | .int i, _, h => by
    have h : i.natAbs.log2 < 1920 := by simpa [D.shw, Nat.blt_eq] using h
    refine ⟨by simp [D.py, PyData.showable, h], ?_⟩
    show (Str.ofString (toString i)).length ≤ i.natAbs.log2 + 2
    rw [ofString_length]
    exact int_text_length_le (k := i.natAbs.log2 + 1) (Nat.succ_pos _) (Nat.lt_succ_self _)
  | .str s, h, _ => ⟨rfl, by rw [D.pure] at h; exact rtext_le h⟩
  | .lst xs, h, h2 => by
    rw [D.pure] at h; rw [D.shw] at h2
    obtain ⟨k1, k2⟩ := showns_le xs h h2
    refine ⟨by simpa [D.py, PyData.showable] using k1, ?_⟩
    have := ltext_le (PyData.shownAll (D.pys xs))
    rw [D.py, PyData.shown, siz]; omega
  | .tup xs, h, h2 => by
    rw [D.pure] at h; rw [D.shw] at h2
    obtain ⟨k1, k2⟩ := showns_le xs h h2
    refine ⟨by simpa [D.py, PyData.showable] using k1, ?_⟩
    have := ttext_le (PyData.shownAll (D.pys xs))
    rw [D.py, PyData.shown, siz]; omega
  | .dic _ _, h, _ => by simp [D.pure] at h
  | .fn _, h, _ => by simp [D.pure] at h
  | .clo _ _, h, _ => by simp [D.pure] at h
  | .ins _ _ _, h, _ => by simp [D.pure] at h
  | .scr _, h, _ => by simp [D.pure] at h
theorem showns_le : ∀ xs : List D, D.pures xs = true → D.shws xs = true → PyData.showableAll (D.pys xs) = true ∧ piled (PyData.shownAll (D.pys xs)) ≤ sizs xs
  | [], _, _ => ⟨rfl, by simp [D.pys, PyData.shownAll, piled]⟩
  | x :: xs, h, h2 => by
    simp only [D.pures, Bool.and_eq_true] at h
    simp only [D.shws, Bool.and_eq_true] at h2
    obtain ⟨a1, a2⟩ := shown_le x h.1 h2.1
    obtain ⟨b1, b2⟩ := showns_le xs h.2 h2.2
    refine ⟨by rw [D.pys, PyData.showableAll, a1, b1]; rfl, ?_⟩
    rw [D.pys, PyData.shownAll, piled_cons, sizs]; omega
end
theorem repl_ok {xs : List D} (h : (D.lst xs).flat = true) (h2 : D.shws xs = true) (h3 : sizs xs ≤ 999990) : biD .repr [.lst xs] = some (.str (D.lst xs).py.shown) := by
  have p : (D.lst xs).pure = true := by simp only [D.flat, Bool.and_eq_true] at h; exact h.1
  obtain ⟨a, b⟩ := shown_le (.lst xs) p (by rw [D.shw]; exact h2)
  show (if (D.lst xs).flat && (D.lst xs).py.showable && Nat.ble (D.lst xs).py.shown.length 1000000 then some (D.str (D.lst xs).py.shown) else none) = _
  rw [siz] at b
  rw [h, a, show Nat.ble (D.lst xs).py.shown.length 1000000 = true from Nat.ble_eq_true_of_le (by omega)]; rfl
theorem rept_ok {xs : List D} (h : (D.tup xs).flat = true) (h2 : D.shws xs = true) (h3 : sizs xs ≤ 999990) : biD .repr [.tup xs] = some (.str (D.tup xs).py.shown) := by
  have p : (D.tup xs).pure = true := by simp only [D.flat, Bool.and_eq_true] at h; exact h.1
  obtain ⟨a, b⟩ := shown_le (.tup xs) p (by rw [D.shw]; exact h2)
  show (if (D.tup xs).flat && (D.tup xs).py.showable && Nat.ble (D.tup xs).py.shown.length 1000000 then some (D.str (D.tup xs).py.shown) else none) = _
  rw [siz] at b
  rw [h, a, show Nat.ble (D.tup xs).py.shown.length 1000000 = true from Nat.ble_eq_true_of_le (by omega)]; rfl
end Vi
end
section
set_option maxRecDepth 100000
namespace M
open PySem Vi
def ir_is_integer : List S := [
  .ret (.and (.isi (.var 0) ["int"]) (.not (.isi (.var 0) ["bool"])))]
def F_is_integer : Fn := mkFn 1 [false] ir_is_integer
def ir_is_list : List S := [
  .ret (.isi (.var 0) ["list", "tuple"])]
def F_is_list : Fn := mkFn 1 [false] ir_is_list
def ir_divisor : List S := [
  .wh (.cmp .gt (.var 1) (.int 0)) [.par [0, 1] [(.var 1), (.bin .mod (.bi .int [(.var 0)]) (.var 1))]],
  .ret (.var 0)]
def F_divisor : Fn := mkFn 2 [false, false] ir_divisor
def ir_is_fraction_of : List S := [
  .ife (.or (.not (.isi (.var 0) ["tuple"])) (.or (.cmp .ne (.bi .len [(.var 0)]) (.int 2)) (.or (.not (.call "is_integer" F_is_integer [(.ix (.var 0) (.int 0))])) (.not (.call "is_integer" F_is_integer [(.ix (.var 0) (.int 1))]))))) [.ret (.bl false)] [],
  .ret (.and (.cmp .ge (.ix (.var 0) (.int 1)) (.int 1)) (.cmp .eq (.call "divisor" F_divisor [(.bi .abs [(.ix (.var 0) (.int 0))]), (.ix (.var 0) (.int 1))]) (.int 1)))]
def F_is_fraction_of : Fn := mkFn 1 [false] ir_is_fraction_of
def ir_is_small : List S := [
  .ret (.and (.call "is_fraction_of" F_is_fraction_of [(.var 0)]) (.and (.cmp .le (.bi .abs [(.ix (.var 0) (.int 0))]) (.gl "MOST_TOP" (.int 999))) (.cmp .le (.ix (.var 0) (.int 1)) (.gl "MOST_BOTTOM" (.int 99)))))]
def F_is_small : Fn := mkFn 1 [false] ir_is_small
def ir_are_fractions : List S := [
  .ret (.and (.call "is_list" F_is_list [(.var 0)]) (.bi .all [(.lc [1] (.nm 1) (.var 0) [] (.call "is_fraction_of" F_is_fraction_of [(.var 1)]))]))]
def F_are_fractions : Fn := mkFn 2 [false] ir_are_fractions
def ir_are_small : List S := [
  .ret (.and (.call "is_list" F_is_list [(.var 0)]) (.bi .all [(.lc [1] (.nm 1) (.var 0) [] (.call "is_small" F_is_small [(.var 1)]))]))]
def F_are_small : Fn := mkFn 2 [false] ir_are_small
def ir_is_below : List S := [
  .ret (.cmp .lt (.bin .mul (.ix (.var 0) (.int 0)) (.ix (.var 1) (.int 1))) (.bin .mul (.ix (.var 1) (.int 0)) (.ix (.var 0) (.int 1))))]
def F_is_below : Fn := mkFn 2 [false, false] ir_is_below
def ir_is_poly_of : List S := [
  .ret (.and (.call "are_fractions" F_are_fractions [(.var 0)]) (.cmp .le (.bi .len [(.var 0)]) (.gl "MOST_NUMBERS" (.int 5))))]
def F_is_poly_of : Fn := mkFn 1 [false] ir_is_poly_of
def ir_is_stretch_of : List S := [
  .ife (.or (.not (.isi (.var 0) ["tuple"])) (.or (.cmp .ne (.bi .len [(.var 0)]) (.int 2)) (.not (.bi .all [(.lc [1] (.nm 1) (.var 0) [] (.call "is_small" F_is_small [(.var 1)]))])))) [.ret (.bl false)] [],
  .ret (.call "is_below" F_is_below [(.ix (.var 0) (.int 0)), (.ix (.var 0) (.int 1))])]
def F_is_stretch_of : Fn := mkFn 2 [false] ir_is_stretch_of
def ir_are_knots_of : List S := [
  .ife (.or (.not (.call "are_small" F_are_small [(.var 0)])) (.not (.chn .le .le (.int 2) (.bi .len [(.var 0)]) (.gl "MOST_KNOTS" (.int 6))))) [.ret (.bl false)] [],
  .ret (.bi .all [(.lc [1, 2] (.tp [(.nm 1), (.nm 2)]) (.zip [(.var 0), (.sl (.var 0) (.int 1) .non)]) [] (.call "is_below" F_is_below [(.var 1), (.var 2)]))])]
def F_are_knots_of : Fn := mkFn 3 [false] ir_are_knots_of
def ir_is_bent_of : List S := [
  .ife (.or (.not (.isi (.var 0) ["tuple"])) (.or (.cmp .ne (.bi .len [(.var 0)]) (.int 2)) (.or (.not (.call "are_knots_of" F_are_knots_of [(.ix (.var 0) (.int 0))])) (.not (.call "is_list" F_is_list [(.ix (.var 0) (.int 1))]))))) [.ret (.bl false)] [],
  .ret (.and (.cmp .eq (.bi .len [(.ix (.var 0) (.int 1))]) (.bin .sub (.bi .len [(.ix (.var 0) (.int 0))]) (.int 1))) (.bi .all [(.lc [1] (.nm 1) (.ix (.var 0) (.int 1)) [] (.call "is_poly_of" F_is_poly_of [(.var 1)]))]))]
def F_is_bent_of : Fn := mkFn 2 [false] ir_is_bent_of
def ir_told_of : List S := [
  .own 1 (.bi .list [(.var 0)]),
  .wh (.and (.pcmp .ne 1 (.lst [])) (.cmp .eq (.pix 1 (.neg (.int 1))) (.gl "NOUGHT" (.tup [(.int 0), (.int 1)])))) [.ex (.pop 1)],
  .ret (.var 1)]
def F_told_of : Fn := mkFn 2 [false] ir_told_of
def ir_are_figures : List S := [
  .ret (.and (.cmp .ne (.var 0) (.str "")) (.and (.bi .all [(.lc [1] (.nm 1) (.var 0) [] (.cmp .inn (.var 1) (.gl "FIGURES" (.str "0123456789"))))]) (.or (.cmp .ne (.ix (.var 0) (.int 0)) (.str "0")) (.cmp .eq (.var 0) (.str "0")))))]
def F_are_figures : Fn := mkFn 2 [false] ir_are_figures
def ir_number_in : List S := [
  .asg (.nm 3) (.ite (.cmp .eq (.sl (.var 0) .non (.int 1)) (.str "-")) (.sl (.var 0) (.int 1) .non) (.var 0)),
  .ife (.or (.cmp .gt (.bi .len [(.var 3)]) (.bi .len [(.bi .str [(.gl "MOST_TOP" (.int 999))])])) (.or (.not (.call "are_figures" F_are_figures [(.var 3)])) (.cmp .eq (.var 0) (.str "-0")))) [.ret .non] [],
  .ret (.ite (.chn .le .le (.var 1) (.bi .int [(.var 0)]) (.var 2)) (.bi .int [(.var 0)]) .non)]
def F_number_in : Fn := mkFn 4 [false, false, false] ir_number_in
def ir_fraction_in : List S := [
  .asg (.nm 1) (.mth .split (.var 0) [(.str "/")]),
  .asg (.nm 2) (.call "number_in" F_number_in [(.ix (.var 1) (.int 0)), (.bin .sub (.int 0) (.gl "MOST_TOP" (.int 999))), (.gl "MOST_TOP" (.int 999))]),
  .asg (.nm 3) (.ite (.cmp .eq (.bi .len [(.var 1)]) (.int 1)) (.int 1) (.call "number_in" F_number_in [(.ix (.var 1) (.int 1)), (.int 2), (.gl "MOST_BOTTOM" (.int 99))])),
  .ife (.or (.cmp .isN (.var 2) .non) (.or (.cmp .isN (.var 3) .non) (.or (.cmp .gt (.bi .len [(.var 1)]) (.int 2)) (.cmp .ne (.call "divisor" F_divisor [(.bi .abs [(.var 2)]), (.var 3)]) (.int 1))))) [.ret .non] [],
  .ret (.tup [(.var 2), (.var 3)])]
def F_fraction_in : Fn := mkFn 4 [false] ir_fraction_in
def ir_bottoms_of : List S := [
  .ret (.lc [1] (.nm 1) (.rng [(.int 2), (.bin .add (.gl "MOST_BOTTOM" (.int 99)) (.int 1))]) [(.cmp .eq (.call "divisor" F_divisor [(.bi .abs [(.var 0)]), (.var 1)]) (.int 1))] (.var 1))]
def F_bottoms_of : Fn := mkFn 2 [false] ir_bottoms_of
def ir_greatest_from : List S := [
  .asg (.nm 1) (.mth .split (.var 0) [(.str "/")]),
  .ife (.or (.cmp .gt (.bi .len [(.var 1)]) (.int 2)) (.cmp .eq (.var 0) (.str ""))) [.ret (.ite (.cmp .eq (.var 0) (.str "")) (.tup [(.gl "MOST_TOP" (.int 999)), (.int 1)]) .non)] [],
  .ife (.cmp .eq (.bi .len [(.var 1)]) (.int 2)) [.asg (.nm 2) (.call "number_in" F_number_in [(.ix (.var 1) (.int 0)), (.bin .sub (.int 0) (.gl "MOST_TOP" (.int 999))), (.gl "MOST_TOP" (.int 999))]), .asg (.nm 3) (.ite (.cmp .notN (.var 2) .non) (.lc [4] (.nm 4) (.call "bottoms_of" F_bottoms_of [(.var 2)]) [(.mth .starts (.bi .str [(.var 4)]) [(.ix (.var 1) (.int 1))])] (.var 4)) (.lst [])), .ret (.ite (.cmp .eq (.var 3) (.lst [])) .non (.tup [(.var 2), (.ite (.cmp .gt (.var 2) (.int 0)) (.ix (.var 3) (.int 0)) (.ix (.var 3) (.neg (.int 1))))]))] [],
  .ife (.cmp .eq (.ix (.var 0) (.int 0)) (.str "-")) [.asg (.nm 2) (.ite (.cmp .eq (.var 0) (.str "-")) (.int 1) (.call "number_in" F_number_in [(.sl (.var 0) (.int 1) .non), (.int 1), (.gl "MOST_TOP" (.int 999))])), .ret (.ite (.cmp .isN (.var 2) .non) .non (.tup [(.bin .sub (.int 0) (.var 2)), (.ix (.bin .add (.lst [(.int 1)]) (.call "bottoms_of" F_bottoms_of [(.var 2)])) (.neg (.int 1)))]))] [],
  .asg (.nm 2) (.call "number_in" F_number_in [(.var 0), (.int 0), (.gl "MOST_TOP" (.int 999))]),
  .wh (.and (.cmp .notN (.var 2) .non) (.chn .lt .le (.int 0) (.bin .mul (.int 10) (.var 2)) (.gl "MOST_TOP" (.int 999)))) [.asg (.nm 2) (.bin .add (.bin .mul (.int 10) (.var 2)) (.int 9))],
  .ret (.ite (.cmp .isN (.var 2) .non) .non (.tup [(.var 2), (.int 1)]))]
def F_greatest_from : Fn := mkFn 5 [false] ir_greatest_from
def ir_is_begun_above : List S := [
  .asg (.nm 2) (.call "greatest_from" F_greatest_from [(.var 0)]),
  .ret (.and (.cmp .notN (.var 2) .non) (.or (.cmp .isN (.var 1) .non) (.call "is_below" F_is_below [(.var 1), (.var 2)])))]
def F_is_begun_above : Fn := mkFn 3 [false, false] ir_is_begun_above
def ir_fraction_text : List S := [
  .ret (.ite (.cmp .eq (.ix (.var 0) (.int 1)) (.int 1)) (.bi .str [(.ix (.var 0) (.int 0))]) (.bin .add (.bin .add (.bi .str [(.ix (.var 0) (.int 0))]) (.str "/")) (.bi .str [(.ix (.var 0) (.int 1))])))]
def F_fraction_text : Fn := mkFn 1 [false] ir_fraction_text
def ir_poly_in : List S := [
  .ife (.cmp .eq (.var 0) (.gl "NO_NUMBERS" (.str "-"))) [.ret (.lst [])] [],
  .asg (.nm 1) (.lc [2] (.nm 2) (.mth .split (.var 0) [(.str ",")]) [] (.call "fraction_in" F_fraction_in [(.var 2)])),
  .ret (.ite (.or (.cmp .inn .non (.var 1)) (.or (.cmp .gt (.bi .len [(.var 1)]) (.gl "MOST_NUMBERS" (.int 5))) (.cmp .eq (.ix (.var 1) (.neg (.int 1))) (.gl "NOUGHT" (.tup [(.int 0), (.int 1)]))))) .non (.var 1))]
def F_poly_in : Fn := mkFn 3 [false] ir_poly_in
def ir_is_poly_begun : List S := [
  .asg (.nm 1) (.mth .split (.var 0) [(.str ",")]),
  .ife (.or (.cmp .gt (.bi .len [(.var 1)]) (.gl "MOST_NUMBERS" (.int 5))) (.bi .any [(.lc [2] (.nm 2) (.sl (.var 1) .non (.neg (.int 1))) [] (.cmp .isN (.call "fraction_in" F_fraction_in [(.var 2)]) .non))])) [.ret (.bl false)] [],
  .ret (.and (.call "is_begun_above" F_is_begun_above [(.ix (.var 1) (.neg (.int 1))), .non]) (.or (.cmp .lt (.bi .len [(.var 1)]) (.gl "MOST_NUMBERS" (.int 5))) (.cmp .ne (.ix (.var 1) (.neg (.int 1))) (.str "0"))))]
def F_is_poly_begun : Fn := mkFn 3 [false] ir_is_poly_begun
def ir_poly_text : List S := [
  .ret (.ite (.cmp .eq (.bi .len [(.var 0)]) (.int 0)) (.gl "NO_NUMBERS" (.str "-")) (.mth .join (.str ",") [(.lc [1] (.nm 1) (.var 0) [] (.call "fraction_text" F_fraction_text [(.var 1)]))]))]
def F_poly_text : Fn := mkFn 2 [false] ir_poly_text
def ir_rising_in : List S := [
  .asg (.nm 2) (.lc [3] (.nm 3) (.mth .split (.var 0) [(.var 1)]) [] (.call "fraction_in" F_fraction_in [(.var 3)])),
  .ife (.or (.cmp .inn .non (.var 2)) (.not (.bi .all [(.lc [4, 5] (.tp [(.nm 4), (.nm 5)]) (.zip [(.var 2), (.sl (.var 2) (.int 1) .non)]) [] (.call "is_below" F_is_below [(.var 4), (.var 5)]))]))) [.ret .non] [],
  .ret (.var 2)]
def F_rising_in : Fn := mkFn 6 [false, false] ir_rising_in
def ir_are_rising_begun : List S := [
  .asg (.nm 3) (.mth .split (.var 0) [(.var 1)]),
  .asg (.nm 4) (.ite (.cmp .gt (.bi .len [(.var 3)]) (.int 1)) (.call "rising_in" F_rising_in [(.mth .join (.var 1) [(.sl (.var 3) .non (.neg (.int 1)))]), (.var 1)]) (.lst [])),
  .ife (.or (.cmp .isN (.var 4) .non) (.cmp .gt (.bi .len [(.var 3)]) (.var 2))) [.ret (.bl false)] [],
  .ret (.call "is_begun_above" F_is_begun_above [(.ix (.var 3) (.neg (.int 1))), (.ite (.cmp .ne (.var 4) (.lst [])) (.ix (.var 4) (.neg (.int 1))) .non)])]
def F_are_rising_begun : Fn := mkFn 5 [false, false, false] ir_are_rising_begun
def ir_stretch_in : List S := [
  .asg (.nm 1) (.call "rising_in" F_rising_in [(.var 0), (.str ":")]),
  .ret (.ite (.and (.cmp .notN (.var 1) .non) (.cmp .eq (.bi .len [(.var 1)]) (.int 2))) (.bi .tuple [(.var 1)]) .non)]
def F_stretch_in : Fn := mkFn 2 [false] ir_stretch_in
def ir_knots_in : List S := [
  .asg (.nm 1) (.call "rising_in" F_rising_in [(.var 0), (.str ",")]),
  .ret (.ite (.and (.cmp .notN (.var 1) .non) (.chn .le .le (.int 2) (.bi .len [(.var 1)]) (.gl "MOST_KNOTS" (.int 6)))) (.var 1) .non)]
def F_knots_in : Fn := mkFn 2 [false] ir_knots_in
def ir_bent_in : List S := [
  .asg (.nm 1) (.mth .split (.var 0) [(.str ";")]),
  .par [2, 3] [(.call "knots_in" F_knots_in [(.ix (.var 1) (.int 0))]), (.lc [4] (.nm 4) (.sl (.var 1) (.int 1) .non) [] (.call "poly_in" F_poly_in [(.var 4)]))],
  .ret (.ite (.or (.cmp .isN (.var 2) .non) (.or (.cmp .inn .non (.var 3)) (.cmp .ne (.bi .len [(.var 3)]) (.bin .sub (.bi .len [(.var 2)]) (.int 1))))) .non (.tup [(.var 2), (.var 3)]))]
def F_bent_in : Fn := mkFn 5 [false] ir_bent_in
def ir_is_bent_begun : List S := [
  .asg (.nm 1) (.mth .split (.var 0) [(.str ";")]),
  .ife (.cmp .eq (.bi .len [(.var 1)]) (.int 1)) [.ret (.call "are_rising_begun" F_are_rising_begun [(.var 0), (.str ","), (.gl "MOST_KNOTS" (.int 6))])] [],
  .asg (.nm 2) (.call "knots_in" F_knots_in [(.ix (.var 1) (.int 0))]),
  .ife (.or (.cmp .isN (.var 2) .non) (.or (.cmp .gt (.bi .len [(.var 1)]) (.bi .len [(.var 2)])) (.bi .any [(.lc [3] (.nm 3) (.sl (.var 1) (.int 1) (.neg (.int 1))) [] (.cmp .isN (.call "poly_in" F_poly_in [(.var 3)]) .non))]))) [.ret (.bl false)] [],
  .ret (.call "is_poly_begun" F_is_poly_begun [(.ix (.var 1) (.neg (.int 1)))])]
def F_is_bent_begun : Fn := mkFn 4 [false] ir_is_bent_begun
def ir_is_sort : List S := [
  .ret (.and (.isi (.var 0) ["str"]) (.cmp .inn (.var 0) (.gl "SORTS" (.tup [(.str "poly"), (.str "stretch"), (.str "bent")]))))]
def F_is_sort : Fn := mkFn 1 [false] ir_is_sort
def ir_is_told_poly : List S := [
  .ret (.and (.call "are_small" F_are_small [(.var 0)]) (.and (.cmp .le (.bi .len [(.var 0)]) (.gl "MOST_NUMBERS" (.int 5))) (.cmp .eq (.call "told_of" F_told_of [(.var 0)]) (.bi .list [(.var 0)]))))]
def F_is_told_poly : Fn := mkFn 1 [false] ir_is_told_poly
def ir_is_thing_of : List S := [
  .ife (.cmp .eq (.var 0) (.gl "POLY" (.str "poly"))) [.ret (.call "is_told_poly" F_is_told_poly [(.var 1)])] [],
  .ife (.cmp .eq (.var 0) (.gl "STRETCH" (.str "stretch"))) [.ret (.call "is_stretch_of" F_is_stretch_of [(.var 1)])] [],
  .ret (.and (.call "is_bent_of" F_is_bent_of [(.var 1)]) (.bi .all [(.lc [2] (.nm 2) (.ix (.var 1) (.int 1)) [] (.call "is_told_poly" F_is_told_poly [(.var 2)]))]))]
def F_is_thing_of : Fn := mkFn 3 [false, false] ir_is_thing_of
def ir_read : List S := [
  .ife (.cmp .eq (.var 0) (.gl "POLY" (.str "poly"))) [.ret (.call "poly_in" F_poly_in [(.var 1)])] [],
  .ret (.ite (.cmp .eq (.var 0) (.gl "STRETCH" (.str "stretch"))) (.call "stretch_in" F_stretch_in [(.var 1)]) (.call "bent_in" F_bent_in [(.var 1)]))]
def F_read : Fn := mkFn 2 [false, false] ir_read
def ir_is_begun : List S := [
  .ife (.cmp .eq (.var 0) (.gl "POLY" (.str "poly"))) [.ret (.call "is_poly_begun" F_is_poly_begun [(.var 1)])] [],
  .ret (.ite (.cmp .eq (.var 0) (.gl "STRETCH" (.str "stretch"))) (.call "are_rising_begun" F_are_rising_begun [(.var 1), (.str ":"), (.int 2)]) (.call "is_bent_begun" F_is_bent_begun [(.var 1)]))]
def F_is_begun : Fn := mkFn 2 [false, false] ir_is_begun
def ir_written_by : List S := [
  .ife (.cmp .eq (.var 0) (.gl "POLY" (.str "poly"))) [.ret (.call "poly_text" F_poly_text [(.var 1)])] [],
  .ife (.cmp .eq (.var 0) (.gl "STRETCH" (.str "stretch"))) [.ret (.mth .join (.str ":") [(.lc [2] (.nm 2) (.var 1) [] (.call "fraction_text" F_fraction_text [(.var 2)]))])] [],
  .ret (.mth .join (.str ";") [(.bin .add (.lst [(.mth .join (.str ",") [(.lc [2] (.nm 2) (.ix (.var 1) (.int 0)) [] (.call "fraction_text" F_fraction_text [(.var 2)]))])]) (.lc [3] (.nm 3) (.ix (.var 1) (.int 1)) [] (.call "poly_text" F_poly_text [(.var 3)])))])]
def F_written_by : Fn := mkFn 4 [false, false] ir_written_by
def ir_place_in : List S := [
  .ife (.cmp .notN (.call "read" F_read [(.var 0), (.var 1)]) .non) [.ret .non] [],
  .asg (.nm 2) (.int 0),
  .wh (.and (.cmp .lt (.var 2) (.bi .len [(.var 1)])) (.call "is_begun" F_is_begun [(.var 0), (.sl (.var 1) .non (.bin .add (.var 2) (.int 1)))])) [.asg (.nm 2) (.bin .add (.var 2) (.int 1))],
  .ret (.var 2)]
def F_place_in : Fn := mkFn 3 [false, false] ir_place_in
def ir_read_thing : List S := [
  .asg (.nm 2) (.call "place_in" F_place_in [(.var 0), (.var 1)]),
  .ife (.cmp .notN (.var 2) .non) [.sno] [],
  .ret (.call "read" F_read [(.var 0), (.var 1)])]
def F_read_thing : Fn := mkFn 3 [false, false] ir_read_thing
def ir_check_text : List S := [
  .ife (.not (.call "is_sort" F_is_sort [(.var 0)])) [.sno] [],
  .ife (.not (.isi (.var 1) ["str"])) [.sno] []]
def F_check_text : Fn := mkFn 2 [false, false] ir_check_text
def ir_text_of : List S := [
  .ife (.not (.call "is_sort" F_is_sort [(.var 0)])) [.sno] [],
  .ife (.not (.call "is_thing_of" F_is_thing_of [(.var 0), (.var 1)])) [.sno] [],
  .ret (.call "written_by" F_written_by [(.var 0), (.var 1)])]
def F_text_of : Fn := mkFn 2 [false, false] ir_text_of
def ir_wrong_place : List S := [
  .ex (.call "check_text" F_check_text [(.var 0), (.var 1)]),
  .ret (.call "place_in" F_place_in [(.var 0), (.var 1)])]
def F_wrong_place : Fn := mkFn 2 [false, false] ir_wrong_place
def ir_thing_of : List S := [
  .ex (.call "check_text" F_check_text [(.var 0), (.var 1)]),
  .ret (.call "read_thing" F_read_thing [(.var 0), (.var 1)])]
def F_thing_of : Fn := mkFn 2 [false, false] ir_thing_of
def ir__law_pot : List S := [
  .asg (.nm 2) (.ite (.cmp .lt (.var 1) (.bi .len [(.var 0)])) (.bi .abs [(.ix (.var 0) (.var 1))]) (.bin .add (.bin .mul (.int 4441) (.var 1)) (.int 3041))),
  .ret (.lst [(.bi .max [(.int 0), (.bin .sub (.var 2) (.bin .pow (.int 10) (.int 18)))]), (.bin .add (.bin .mod (.bi .int [(.bin .add (.bin .add (.bin .mul (.bin .mod (.bi .int [(.var 2)]) (.int 2147483549)) (.int 45439)) (.bin .mul (.int 3041) (.var 1))) (.int 4441))]) (.int 2147483563)) (.int 1))])]
def F__law_pot : Fn := mkFn 3 [false, false] ir__law_pot
def ir__law_draw : List S := [
  .ife (.cmp .gt (.pix 0 (.int 0)) (.int 0)) [.asg (.tp [(.sb 0 (.lit 0)), (.nm 2)]) (.bi .divmod [(.pix 0 (.int 0)), (.var 1)]), .ret (.var 2)] [],
  .asg (.sb 0 (.lit 1)) (.bin .mod (.bi .int [(.bin .add (.bin .mul (.pix 0 (.int 1)) (.int 40014)) (.int 3583))]) (.int 2147483563)),
  .ret (.bin .mod (.bi .int [(.bin .fdiv (.bin .mod (.bi .int [(.bin .mul (.pix 0 (.int 1)) (.pix 0 (.int 1)))]) (.int 2147483549)) (.int 17))]) (.var 1))]
def F__law_draw : Fn := mkFn 3 [true, false] ir__law_draw
def ir__law_pick : List S := [
  .ret (.ix (.var 1) (.call "_law_draw" F__law_draw [(.iov 0), (.bi .len [(.var 1)])]))]
def F__law_pick : Fn := mkFn 2 [true, false] ir__law_pick
def ir__law_frac : List S := [
  .ife (.cmp .lt (.var 1) (.int 0)) [.par [0, 1] [(.bin .sub (.int 0) (.var 0)), (.bin .sub (.int 0) (.var 1))]] [],
  .par [2, 3] [(.bi .abs [(.var 0)]), (.var 1)],
  .wh (.cmp .gt (.var 3) (.int 0)) [.par [2, 3] [(.var 3), (.bin .mod (.bi .int [(.var 2)]) (.var 3))]],
  .ret (.tup [(.bin .fdiv (.var 0) (.var 2)), (.bin .fdiv (.var 1) (.var 2))])]
def F__law_frac : Fn := mkFn 4 [false, false] ir__law_frac
def ir__law_plus : List S := [
  .ret (.call "_law_frac" F__law_frac [(.bin .add (.bin .mul (.ix (.var 0) (.int 0)) (.ix (.var 1) (.int 1))) (.bin .mul (.ix (.var 1) (.int 0)) (.ix (.var 0) (.int 1)))), (.bin .mul (.ix (.var 0) (.int 1)) (.ix (.var 1) (.int 1)))])]
def F__law_plus : Fn := mkFn 2 [false, false] ir__law_plus
def ir__law_minus : List S := [
  .ret (.call "_law_frac" F__law_frac [(.bin .sub (.bin .mul (.ix (.var 0) (.int 0)) (.ix (.var 1) (.int 1))) (.bin .mul (.ix (.var 1) (.int 0)) (.ix (.var 0) (.int 1)))), (.bin .mul (.ix (.var 0) (.int 1)) (.ix (.var 1) (.int 1)))])]
def F__law_minus : Fn := mkFn 2 [false, false] ir__law_minus
def ir__law_times : List S := [
  .ret (.call "_law_frac" F__law_frac [(.bin .mul (.ix (.var 0) (.int 0)) (.ix (.var 1) (.int 0))), (.bin .mul (.ix (.var 0) (.int 1)) (.ix (.var 1) (.int 1)))])]
def F__law_times : Fn := mkFn 2 [false, false] ir__law_times
def ir__law_sum : List S := [
  .asg (.nm 1) (.tup [(.int 0), (.int 1)]),
  .fo (.nm 2) (.var 0) [.asg (.nm 1) (.call "_law_plus" F__law_plus [(.var 1), (.var 2)])],
  .ret (.var 1)]
def F__law_sum : Fn := mkFn 3 [false] ir__law_sum
def ir__law_below : List S := [
  .ret (.cmp .lt (.bin .mul (.ix (.var 0) (.int 0)) (.ix (.var 1) (.int 1))) (.bin .mul (.ix (.var 1) (.int 0)) (.ix (.var 0) (.int 1))))]
def F__law_below : Fn := mkFn 2 [false, false] ir__law_below
def ir__law_small : List S := [
  .ret (.call "_law_frac" F__law_frac [(.bin .sub (.call "_law_draw" F__law_draw [(.iov 0), (.bin .add (.bin .mul (.int 2) (.var 1)) (.int 1))]) (.var 1)), (.call "_law_pick" F__law_pick [(.iov 0), (.lst [(.int 1), (.int 1), (.int 2), (.int 3), (.int 98)])])])]
def F__law_small : Fn := mkFn 2 [true, false] ir__law_small
def ir__law_poly : List S := [
  .own 2 (.lc [3] (.nm 3) (.rng [(.call "_law_draw" F__law_draw [(.iov 0), (.bin .add (.var 1) (.int 1))])]) [] (.call "_law_small" F__law_small [(.iov 0), (.call "_law_pick" F__law_pick [(.iov 0), (.lst [(.int 2), (.int 9), (.int 999)])])])),
  .wh (.and (.pcmp .ne 2 (.lst [])) (.cmp .eq (.pix 2 (.neg (.int 1))) (.tup [(.int 0), (.int 1)]))) [.ex (.pop 2)],
  .ret (.var 2)]
def F__law_poly : Fn := mkFn 4 [true, false] ir__law_poly
def ir__law_rising : List S := [
  .own 2 (.lst [(.call "_law_frac" F__law_frac [(.bin .sub (.call "_law_draw" F__law_draw [(.iov 0), (.int 41)]) (.int 20)), (.bin .add (.int 1) (.call "_law_draw" F__law_draw [(.iov 0), (.int 2)]))])]),
  .fo (.nm 3) (.rng [(.bin .sub (.var 1) (.int 1))]) [.app 2 (.call "_law_plus" F__law_plus [(.pix 2 (.neg (.int 1))), (.call "_law_frac" F__law_frac [(.bin .add (.int 1) (.call "_law_draw" F__law_draw [(.iov 0), (.int 4)])), (.bin .add (.int 1) (.call "_law_draw" F__law_draw [(.iov 0), (.int 2)]))])])],
  .ret (.var 2)]
def F__law_rising : Fn := mkFn 4 [true, false] ir__law_rising
def ir__law_some : List S := [
  .ife (.cmp .eq (.var 1) (.str "poly")) [.ret (.call "_law_poly" F__law_poly [(.iov 0), (.int 5)])] [],
  .ife (.cmp .eq (.var 1) (.str "stretch")) [.ret (.bi .tuple [(.call "_law_rising" F__law_rising [(.iov 0), (.int 2)])])] [],
  .asg (.nm 3) (.call "_law_rising" F__law_rising [(.iov 0), (.bin .add (.int 2) (.call "_law_draw" F__law_draw [(.iov 0), (.bin .sub (.var 2) (.int 1))]))]),
  .ret (.tup [(.var 3), (.lc [4] (.nm 4) (.sl (.var 3) (.int 1) .non) [] (.call "_law_poly" F__law_poly [(.iov 0), (.int 3)]))])]
def F__law_some : Fn := mkFn 5 [true, false, false] ir__law_some
def ir__law_fraction : List S := [
  .ret (.ite (.cmp .eq (.ix (.var 0) (.int 1)) (.int 1)) (.bi .str [(.ix (.var 0) (.int 0))]) (.bin .add (.bin .add (.bi .str [(.ix (.var 0) (.int 0))]) (.str "/")) (.bi .str [(.ix (.var 0) (.int 1))])))]
def F__law_fraction : Fn := mkFn 1 [false] ir__law_fraction
def ir__law_fractions : List S := [
  .ret (.mth .join (.str ",") [(.lc [1] (.nm 1) (.var 0) [] (.call "_law_fraction" F__law_fraction [(.var 1)]))])]
def F__law_fractions : Fn := mkFn 2 [false] ir__law_fractions
def ir__law_written (F_rec : Fn) : List S := [
  .ife (.cmp .eq (.var 0) (.str "poly")) [.ret (.ite (.cmp .gt (.bi .len [(.var 1)]) (.int 0)) (.call "_law_fractions" F__law_fractions [(.var 1)]) (.str "-"))] [],
  .ife (.cmp .eq (.var 0) (.str "stretch")) [.ret (.bin .add (.bin .add (.call "_law_fraction" F__law_fraction [(.ix (.var 1) (.int 0))]) (.str ":")) (.call "_law_fraction" F__law_fraction [(.ix (.var 1) (.int 1))]))] [],
  .ret (.mth .join (.str ";") [(.bin .add (.lst [(.call "_law_fractions" F__law_fractions [(.ix (.var 1) (.int 0))])]) (.lc [2] (.nm 2) (.ix (.var 1) (.int 1)) [] (.call "_law_written" F_rec [(.str "poly"), (.var 2)])))])]
def F__law_written_0 : Fn := fun _ => .no
def F__law_written_1 : Fn := mkFn 3 [false, false] (ir__law_written F__law_written_0)
def F__law_written_2 : Fn := mkFn 3 [false, false] (ir__law_written F__law_written_1)
def F__law_written : Fn := mkFn 3 [false, false] (ir__law_written F__law_written_2)
def ir__law_spoilt : List S := [
  .ife (.cmp .eq (.var 0) (.str "poly")) [.spl "thing_of" F_thing_of [(.var 0), (.var 1)] none] [],
  .ife (.cmp .eq (.var 0) (.str "bent")) [.spl "thing_of" F_thing_of [(.var 0), (.var 1)] (some 0), .spl "thing_of" F_thing_of [(.var 0), (.var 1)] (some 1)] []]
def F__law_spoilt : Fn := mkFn 2 [false, false] ir__law_spoilt
def ir__law_one_right : List S := [
  .par [2, 3] [(.call "_law_some" F__law_some [(.iov 0), (.var 1), (.int 6)]), (.call "_law_some" F__law_some [(.iov 0), (.var 1), (.int 3)])],
  .par [4, 5] [(.call "_law_written" F__law_written [(.var 1), (.var 2)]), (.bi .repr [(.var 2)])],
  .asg (.nm 6) (.ite (.cmp .eq (.var 1) (.str "bent")) (.tup [(.bi .tuple [(.ix (.var 2) (.int 0))]), (.bi .tuple [(.lc [7] (.nm 7) (.ix (.var 2) (.int 1)) [] (.bi .tuple [(.var 7)]))])]) (.bi .tuple [(.var 2)])),
  .ife (.cmp .ne (.bi .repr [(.lst [(.call "text_of" F_text_of [(.var 1), (.var 2)]), (.callk "text_of" F_text_of ["kept_thing", "sort"] [1, 0] [] [(.var 6), (.var 1)])])]) (.bi .repr [(.lst [(.var 4), (.var 4)])])) [.ret (.bl false)] [],
  .ife (.cmp .ne (.bi .repr [(.lst [(.call "thing_of" F_thing_of [(.var 1), (.var 4)]), (.callk "thing_of" F_thing_of ["written", "sort"] [1, 0] [] [(.var 4), (.var 1)])])]) (.bi .repr [(.lst [(.var 2), (.var 2)])])) [.ret (.bl false)] [],
  .ife (.or (.cmp .notN (.call "wrong_place" F_wrong_place [(.var 1), (.var 4)]) .non) (.cmp .notN (.callk "wrong_place" F_wrong_place ["written", "sort"] [1, 0] [] [(.var 4), (.var 1)]) .non)) [.ret (.bl false)] [],
  .ex (.call "_law_spoilt" F__law_spoilt [(.var 1), (.var 4)]),
  .ret (.and (.cmp .eq (.call "thing_of" F_thing_of [(.var 1), (.var 4)]) (.var 2)) (.and (.cmp .eq (.bi .repr [(.var 2)]) (.var 5)) (.cmp .eq (.cmp .eq (.call "text_of" F_text_of [(.var 1), (.var 3)]) (.var 4)) (.cmp .eq (.var 3) (.var 2)))))]
def F__law_one_right : Fn := mkFn 8 [true, false] ir__law_one_right
def ir__law_full_right : List S := [
  .asg (.nm 1) (.lst [(.tup [(.int 999), (.int 1)]), (.tup [(.neg (.int 999)), (.int 98)]), (.tup [(.int 0), (.int 1)]), (.tup [(.int 1), (.int 99)]), (.tup [(.neg (.int 1)), (.int 99)]), (.tup [(.int 998), (.int 99)]), (.tup [(.int 999), (.int 97)])]),
  .asg (.nm 2) (.bin .add (.lc [3] (.nm 3) (.rng [(.int 4)]) [] (.call "_law_pick" F__law_pick [(.iov 0), (.var 1)])) (.lst [(.tup [(.neg (.int 999)), (.int 1)])])),
  .asg (.nm 4) (.lst [(.tup [(.neg (.int 999)), (.int 1)]), (.tup [(.neg (.int 998)), (.int 99)]), (.tup [(.neg (.int 1)), (.int 99)]), (.tup [(.int 0), (.int 1)]), (.tup [(.int 1), (.int 99)]), (.tup [(.int 999), (.int 1)])]),
  .asg (.nm 5) (.lst [(.tup [(.str "poly"), (.var 2)]), (.tup [(.str "poly"), (.lst [])]), (.tup [(.str "poly"), (.bin .add (.bin .mul (.lst [(.tup [(.int 0), (.int 1)])]) (.int 4)) (.lst [(.tup [(.int 1), (.int 99)])]))]), (.tup [(.str "stretch"), (.tup [(.tup [(.neg (.int 999)), (.int 1)]), (.tup [(.int 999), (.int 1)])])]), (.tup [(.str "stretch"), (.tup [(.tup [(.int 1), (.int 99)]), (.tup [(.int 1), (.int 98)])])])]),
  .fo (.tp [(.nm 6), (.nm 7)]) (.bin .add (.var 5) (.lst [(.tup [(.str "bent"), (.tup [(.var 4), (.lst [(.var 2), (.lst []), (.var 2), (.lst []), (.lst [(.tup [(.int 1), (.int 1)])])])])]), (.tup [(.str "bent"), (.tup [(.sl (.var 4) (.int 2) (.int 4)), (.lst [(.var 2)])])])])) [.asg (.nm 8) (.call "_law_written" F__law_written [(.var 6), (.var 7)]), .ife (.or (.cmp .ne (.call "text_of" F_text_of [(.var 6), (.var 7)]) (.var 8)) (.cmp .ne (.bi .repr [(.call "thing_of" F_thing_of [(.var 6), (.var 8)])]) (.bi .repr [(.var 7)]))) [.ret (.bl false)] []],
  .ret (.bl true)]
def F__law_full_right : Fn := mkFn 9 [true] ir__law_full_right
def ir_law : List S := [
  .fo (.nm 1) (.rng [(.bi .max [(.int 1), (.bi .min [(.int 3), (.bi .len [(.var 0)])])])]) [.ownc 2 "_law_pot" F__law_pot [(.var 0), (.var 1)], .ife (.or (.not (.bi .all [(.lc [3] (.nm 3) (.tup [(.str "poly"), (.str "stretch"), (.str "bent")]) [] (.call "_law_one_right" F__law_one_right [(.iov 2), (.var 3)]))])) (.not (.call "_law_full_right" F__law_full_right [(.iov 2)]))) [.ret (.bl false)] []],
  .ret (.bl true)]
def F_law : Fn := mkFn 4 [false] ir_law
end M
end
section
set_option maxRecDepth 100000
set_option maxHeartbeats 4000000
namespace M
open PySem Vi L2

/-- a pot of digits -/
def Pot (d : Vi.D) : Prop := ∃ a b : Int, d = .lst [.int a, .int b] ∧ 0 ≤ a ∧ 0 ≤ b ∧ b < 2147483564
theorem log_le {i : Int} {k : Nat} (h : i.natAbs < 2 ^ (k + 1)) : i.natAbs.log2 ≤ k := by
  by_cases z : i.natAbs = 0
  · rw [z]; exact Nat.zero_le _
  · exact Nat.le_of_lt_succ ((Nat.log2_lt z).mpr h)
theorem bits_small {i j : Int} (hi : i.natAbs < 2 ^ 201) (hj : j.natAbs < 2 ^ 201) : bitsOk i j = true := by
  have h1 := log_le hi
  have h2 := log_le hj
  exact Nat.ble_eq_true_of_le (by show Nat.succ _ ≤ _; omega)
theorem draw_ok {p : Vi.D} {m : Int} (hp : Pot p) (h0 : 0 < m) (h1 : m < 1000000) : ∃ r p', F__law_draw [p, .int m] = .ok (.int r) [p'] ∧ 0 ≤ r ∧ r < m ∧ Pot p' := by
  obtain ⟨a, b, rfl, ha, hb, hb2⟩ := hp
  by_cases h : 0 < a
  · refine ⟨a % m, .lst [.int (a / m), .int b], ?_, Int.emod_nonneg _ (by omega), Int.emod_lt_of_pos _ h0, _, _, rfl, Int.ediv_nonneg ha (by omega), hb, hb2⟩
    have hm : m < 1073741824 := by omega
    simp [F__law_draw, fn_run, ir__law_draw, getD, ixD, ixN, h, h0, storeD, setL, hm]
  · have b1 : bitsOk b 40014 = true := bits_small (by omega) (by decide)
    have hb' : 0 ≤ (b * 40014 + 3583) % 2147483563 := Int.emod_nonneg _ (by decide)
    have hb3 : (b * 40014 + 3583) % 2147483563 < 2147483563 := Int.emod_lt_of_pos _ (by decide)
    have b2 : bitsOk ((b * 40014 + 3583) % 2147483563) ((b * 40014 + 3583) % 2147483563) = true := bits_small (by omega) (by omega)
    refine ⟨((b * 40014 + 3583) % 2147483563 * ((b * 40014 + 3583) % 2147483563)) % 2147483549 / 17 % m, .lst [.int a, .int ((b * 40014 + 3583) % 2147483563)], ?_, Int.emod_nonneg _ (by omega), Int.emod_lt_of_pos _ h0, _, _, rfl, ha, hb', Int.lt_trans hb3 (by decide)⟩
    have b3 : Nat.log2 17 < 9000 := by decide
    simp [F__law_draw, fn_run, ir__law_draw, getD, ixD, ixN, h, h0, storeD, setL, b1, b2, b3, binD]
/-- one of a list -/
theorem pick_ok {p : Vi.D} {xs : List Vi.D} (hp : Pot p) (h0 : xs ≠ []) (h1 : xs.length < 1000) : ∃ x p', F__law_pick [p, .lst xs] = .ok x [p'] ∧ x ∈ xs ∧ Pot p' := by
  have hl : 0 < xs.length := List.length_pos_iff.mpr h0
  obtain ⟨r, p', e, r0, r1, hp'⟩ := draw_ok (m := (xs.length : Int)) hp (by omega) (by omega)
  have hr : r.toNat < xs.length := by omega
  refine ⟨xs[r.toNat], p', ?_, List.getElem_mem hr, hp'⟩
  have hc := call_io1 (F := F__law_draw) (i := 0) (es := [.bi .len [.var 1]]) (x := .non) (ds := [.int xs.length]) (e := [.ow p, .fr (.lst xs)]) (by decide) rfl rfl e
  simp [F__law_pick, fn_run, ir__law_pick, hc, getD, ixD, ixN, r0, r1, hr]
/-- a fraction -/
def fr (p q : Int) : Vi.D := .tup [.int p, .int q]
/-- Euclid's way -/
def gcdL (c : E) (body : List S) : Prop := True
theorem frac_loop {a b : Nat} {s0 s1 : Slot} : ∀ n, b < n → whN (ev (.cmp .gt (.var 3) (.int 0))) (exs [.par [2, 3] [(.var 3), (.bin .mod (.bi .int [(.var 2)]) (.var 3))]]) n [s0, s1, .fr (.int a), .fr (.int b)] = .nx [s0, s1, .fr (.int (Nat.gcd a b)), .fr (.int 0)] := by
  intro n
  induction n generalizing a b with
  | zero => intro h; omega
  | succ n ih =>
    intro h
    unfold whN
    by_cases hb : b = 0
    · subst hb; simp
    · have h0 : 0 < b := Nat.pos_of_ne_zero hb
      have e : ((a : Int) % (b : Int)) = ((a % b : Nat) : Int) := by simp
      have hlt : a % b < n := by have := Nat.mod_lt a h0; omega
      have ihh := ih (a := b) (b := a % b) hlt
      simp [h0]
      rw [e, ihh, Nat.gcd_comm a b, Nat.gcd_rec b a, Nat.gcd_comm (a % b) b]
theorem frac_loop_ok {a b : Nat} {s0 s1 : Slot} (h : b < 2 ^ 9999) : ex1 (.wh (.cmp .gt (.var 3) (.int 0)) [.par [2, 3] [(.var 3), (.bin .mod (.bi .int [(.var 2)]) (.var 3))]]) [s0, s1, .fr (.int a), .fr (.int b)] = .nx [s0, s1, .fr (.int (Nat.gcd a b)), .fr (.int 0)] :=
  wh_fuel (frac_loop (b + 1) (Nat.lt_succ_self b)) (by simp) (fuel_le (k := 9999) (by omega) (by decide))
/-- a fraction in lowest terms -/
theorem frac_nat {p : Int} {q : Nat} (hq : 0 < q) (hq2 : q < 2 ^ 100) : F__law_frac [.int p, .int q] = .ok (fr (p / (Nat.gcd p.natAbs q : Nat)) ((q : Int) / (Nat.gcd p.natAbs q : Nat))) [] := by
  have h1 : ¬ (q : Int) < 0 := by omega
  have e1 : (if p < 0 then -p else p) = (p.natAbs : Int) := by split <;> omega
  have hg : 0 < Nat.gcd p.natAbs q := Nat.gcd_pos_of_pos_right _ hq
  have hgl : Nat.gcd p.natAbs q < 2 ^ 101 := by
    have := Nat.gcd_le_right p.natAbs hq
    omega
  have hb : (Nat.gcd p.natAbs q).log2 < 9000 := by
    have := log_le (i := ((Nat.gcd p.natAbs q : Nat) : Int)) (k := 100) (by simpa using hgl)
    simp at this
    omega
  have lp := frac_loop_ok (a := p.natAbs) (b := q) (s0 := .fr (.int p)) (s1 := .fr (.int q)) (Nat.lt_of_lt_of_le hq2 (Nat.pow_le_pow_right (by decide) (by decide)))
  simp [F__law_frac, fn_run, ir__law_frac, h1, e1, lp, binD, hg, hb, fr]
end M
end
section
set_option maxRecDepth 100000
set_option maxHeartbeats 4000000
namespace M
open PySem Vi L2
/-- the text of a number -/
def nt (i : Int) : Str := toString i
def okSigns (x : Str) : Bool := !x.cps.toList.isEmpty && Nat.ble x.length 6 && x.cps.toList.all fun c => c == 45 || (Nat.ble 48 c && Nat.ble c 57)
def isInt (r : Res) (i : Int) : Bool := match r with
  | .ok (.int j) [] => decide (i = j)
  | _ => false
theorem isInt_ok {r : Res} {i : Int} (h : isInt r i = true) : r = .ok (.int i) [] := by
  unfold isInt at h
  split at h
  · have h := of_decide_eq_true h
    rw [h]
  · cases h
def chkTop (n : Nat) : Bool := isInt (F_number_in [.str (nt ((n : Int) - 999)), .int (-999), .int 999]) ((n : Int) - 999) && okSigns (nt ((n : Int) - 999))
theorem chk_tops_0 : ((List.range 100).all fun n => chkTop (n + 0)) = true := by decide +kernel
theorem chk_tops_1 : ((List.range 100).all fun n => chkTop (n + 100)) = true := by decide +kernel
theorem chk_tops_2 : ((List.range 100).all fun n => chkTop (n + 200)) = true := by decide +kernel
theorem chk_tops_3 : ((List.range 100).all fun n => chkTop (n + 300)) = true := by decide +kernel
theorem chk_tops_4 : ((List.range 100).all fun n => chkTop (n + 400)) = true := by decide +kernel
theorem chk_tops_5 : ((List.range 100).all fun n => chkTop (n + 500)) = true := by decide +kernel
theorem chk_tops_6 : ((List.range 100).all fun n => chkTop (n + 600)) = true := by decide +kernel
theorem chk_tops_7 : ((List.range 100).all fun n => chkTop (n + 700)) = true := by decide +kernel
theorem chk_tops_8 : ((List.range 100).all fun n => chkTop (n + 800)) = true := by decide +kernel
theorem chk_tops_9 : ((List.range 100).all fun n => chkTop (n + 900)) = true := by decide +kernel
theorem chk_tops_10 : ((List.range 100).all fun n => chkTop (n + 1000)) = true := by decide +kernel
theorem chk_tops_11 : ((List.range 100).all fun n => chkTop (n + 1100)) = true := by decide +kernel
theorem chk_tops_12 : ((List.range 100).all fun n => chkTop (n + 1200)) = true := by decide +kernel
theorem chk_tops_13 : ((List.range 100).all fun n => chkTop (n + 1300)) = true := by decide +kernel
theorem chk_tops_14 : ((List.range 100).all fun n => chkTop (n + 1400)) = true := by decide +kernel
theorem chk_tops_15 : ((List.range 100).all fun n => chkTop (n + 1500)) = true := by decide +kernel
theorem chk_tops_16 : ((List.range 100).all fun n => chkTop (n + 1600)) = true := by decide +kernel
theorem chk_tops_17 : ((List.range 100).all fun n => chkTop (n + 1700)) = true := by decide +kernel
theorem chk_tops_18 : ((List.range 100).all fun n => chkTop (n + 1800)) = true := by decide +kernel
theorem chk_tops_19 : ((List.range 99).all fun n => chkTop (n + 1900)) = true := by decide +kernel
theorem chk_tops (m : Nat) (h : m < 1999) : chkTop m = true := by
  have go : ∀ {k c : Nat}, ((List.range c).all fun n => chkTop (n + k)) = true → k ≤ m → m < k + c → chkTop m = true := fun {k c} hk h1 h2 => by
    have := List.all_eq_true.mp hk (m - k) (List.mem_range.mpr (by omega))
    rwa [Nat.sub_add_cancel h1] at this
  by_cases h0 : m < 100
  · exact go chk_tops_0 (by omega) (by omega)
  by_cases h1 : m < 200
  · exact go chk_tops_1 (by omega) (by omega)
  by_cases h2 : m < 300
  · exact go chk_tops_2 (by omega) (by omega)
  by_cases h3 : m < 400
  · exact go chk_tops_3 (by omega) (by omega)
  by_cases h4 : m < 500
  · exact go chk_tops_4 (by omega) (by omega)
  by_cases h5 : m < 600
  · exact go chk_tops_5 (by omega) (by omega)
  by_cases h6 : m < 700
  · exact go chk_tops_6 (by omega) (by omega)
  by_cases h7 : m < 800
  · exact go chk_tops_7 (by omega) (by omega)
  by_cases h8 : m < 900
  · exact go chk_tops_8 (by omega) (by omega)
  by_cases h9 : m < 1000
  · exact go chk_tops_9 (by omega) (by omega)
  by_cases h10 : m < 1100
  · exact go chk_tops_10 (by omega) (by omega)
  by_cases h11 : m < 1200
  · exact go chk_tops_11 (by omega) (by omega)
  by_cases h12 : m < 1300
  · exact go chk_tops_12 (by omega) (by omega)
  by_cases h13 : m < 1400
  · exact go chk_tops_13 (by omega) (by omega)
  by_cases h14 : m < 1500
  · exact go chk_tops_14 (by omega) (by omega)
  by_cases h15 : m < 1600
  · exact go chk_tops_15 (by omega) (by omega)
  by_cases h16 : m < 1700
  · exact go chk_tops_16 (by omega) (by omega)
  by_cases h17 : m < 1800
  · exact go chk_tops_17 (by omega) (by omega)
  by_cases h18 : m < 1900
  · exact go chk_tops_18 (by omega) (by omega)
  exact go chk_tops_19 (by omega) (by omega)
def chkBot (n : Nat) : Bool := isInt (F_number_in [.str (nt ((n : Int) + 2)), .int 2, .int 99]) ((n : Int) + 2) && okSigns (nt ((n : Int) + 2))
theorem chk_bots : (List.range 98).all chkBot = true := by decide +kernel
theorem num_top {p : Int} (h1 : -999 ≤ p) (h2 : p ≤ 999) : F_number_in [.str (nt p), .int (-999), .int 999] = .ok (.int p) [] ∧ okSigns (nt p) = true := by
  have h := chk_tops (p + 999).toNat (by omega)
  have e : (((p + 999).toNat : Nat) : Int) - 999 = p := by omega
  simp only [chkTop, e, Bool.and_eq_true] at h
  exact ⟨isInt_ok h.1, h.2⟩
theorem num_bot {p : Int} (h1 : 2 ≤ p) (h2 : p ≤ 99) : F_number_in [.str (nt p), .int 2, .int 99] = .ok (.int p) [] ∧ okSigns (nt p) = true := by
  have h := List.all_eq_true.mp chk_bots (p - 2).toNat (List.mem_range.mpr (by omega))
  have e : (((p - 2).toNat : Nat) : Int) + 2 = p := by omega
  simp only [chkBot, e, Bool.and_eq_true] at h
  exact ⟨isInt_ok h.1, h.2⟩
end M
end
section
set_option maxRecDepth 100000
set_option maxHeartbeats 4000000
namespace M
open PySem Vi L2
def Num (p : Int) : Prop := -999 ≤ p ∧ p ≤ 999
def Den (q : Int) : Prop := 1 ≤ q ∧ q ≤ 99
def ftext (p q : Int) : Str := if q = 1 then nt p else nt p ++ "/" ++ nt q
theorem bi_strI {i : Int} (h : i.natAbs < 2 ^ 100) : biD .str [.int i] = some (.str (nt i)) := by
  have := log_le (i := i) (k := 99) h
  show (if Nat.blt i.natAbs.log2 1900 then some (Vi.D.str (toString i)) else none) = _
  rw [if_pos (show Nat.blt i.natAbs.log2 1900 = true from Nat.ble_eq_true_of_le (by omega))]
  rfl
theorem signs_len {x : Str} (h : okSigns x = true) : x.length ≤ 6 ∧ x.cps.toList ≠ [] ∧ ∀ c ∈ x.cps.toList, c = 45 ∨ (48 ≤ c ∧ c ≤ 57) := by
  simp only [okSigns, Bool.and_eq_true, Bool.not_eq_true'] at h
  obtain ⟨⟨h1, h2⟩, h3⟩ := h
  refine ⟨Nat.le_of_ble_eq_true h2, (fun z => by rw [z] at h1; cases h1), fun c hc => ?_⟩
  have := List.all_eq_true.mp h3 c hc
  simp only [Bool.or_eq_true, Bool.and_eq_true, beq_iff_eq] at this
  rcases this with z | ⟨z1, z2⟩
  · exact .inl z
  · exact .inr ⟨Nat.le_of_ble_eq_true z1, Nat.le_of_ble_eq_true z2⟩
theorem nt_ok {p : Int} (h : Num p) : okSigns (nt p) = true := (num_top h.1 h.2).2
theorem den_num {q : Int} (h : Den q) : Num q := ⟨by have := h.1; omega, by have := h.2; omega⟩
theorem lenOk_of {n : Nat} (h : n ≤ 1000000) : lenOk n = true := Nat.ble_eq_true_of_le h
theorem slen (x y : Str) : (x ++ y).length = x.length + y.length := by
  show (x.cps ++ y.cps).size = _
  rw [Array.size_append]; rfl
theorem ft_eq {p q : Int} (hp : Num p) (hq : Den q) : F_fraction_text [fr p q] = .ok (.str (ftext p q)) [] ∧ F__law_fraction [fr p q] = .ok (.str (ftext p q)) [] := by
  obtain ⟨l1, _, _⟩ := signs_len (nt_ok hp)
  obtain ⟨l2, _, _⟩ := signs_len (nt_ok (den_num hq))
  have e1 := bi_strI (i := p) (by have := hp.1; have := hp.2; omega)
  have e2 := bi_strI (i := q) (by have := hq.1; have := hq.2; omega)
  have sl : (Str.ofString "/").length = 1 := by decide +kernel
  have k1 : lenOk ((nt p).length + (Str.ofString "/").length) = true := lenOk_of (by rw [sl]; omega)
  have k2 : lenOk ((nt p ++ Str.ofString "/").length + (nt q).length) = true := lenOk_of (by
    rw [slen, sl]; omega)
  by_cases h : q = 1
  · subst h
    constructor <;> simp [F_fraction_text, F__law_fraction, fn_run, ir_fraction_text, ir__law_fraction, fr, getD, ixD, ixN, e1, ftext]
  · have hb : (q == 1) = false := beq_eq_false_iff_ne.mpr h
    constructor <;> simp [F_fraction_text, F__law_fraction, fn_run, ir_fraction_text, ir__law_fraction, fr, getD, ixD, ixN, e1, e2, ftext, h, hb, k1, k2]
theorem sep_free {x : Str} (h : okSigns x = true) {c : Nat} (hc : c = 47 ∨ c = 44 ∨ c = 58 ∨ c = 59) : c ∉ x.cps.toList := fun hm => by
  have := (signs_len h).2.2 c hm
  omega
theorem tl_sep (s : String) (n : Nat) (h : (Str.ofString s).cps.toList = [n]) : (Str.ofString s).cps.toList = n :: [] := h
theorem split_one {x : Str} {s : String} {n : Nat} (hs : (Str.ofString s).cps.toList = [n]) (hk : (Str.ofString s).cps.all (· < 256) = true) (h : n ∉ x.cps.toList) : Txt.split x (Str.ofString s) = [x] := by
  have := TL.split_join (y := Str.ofString s) (s := n) (S := []) hs hk (parts := [x]) (by simp) (by simpa using h)
  rw [TL.join_eq] at this
  exact this
theorem split_two {x y : Str} {s : String} {n : Nat} (hs : (Str.ofString s).cps.toList = [n]) (hk : (Str.ofString s).cps.all (· < 256) = true) (h : n ∉ x.cps.toList) (h2 : n ∉ y.cps.toList) : Txt.split (x ++ Str.ofString s ++ y) (Str.ofString s) = [x, y] := by
  have := TL.split_join (y := Str.ofString s) (s := n) (S := []) hs hk (parts := [x, y]) (by simp) (fun p hp => by
    rcases List.mem_cons.mp hp with z | z
    · rw [z]; exact h
    · rw [List.mem_singleton.mp z]; exact h2)
  rw [TL.join_eq] at this
  exact this
/-- the greatest common divisor, the program's way -/
theorem div_loop {a b : Nat} : ∀ n, b < n → whN (ev (.cmp .gt (.var 1) (.int 0))) (exs [.par [0, 1] [(.var 1), (.bin .mod (.bi .int [(.var 0)]) (.var 1))]]) n [.fr (.int a), .fr (.int b)] = .nx [.fr (.int (Nat.gcd a b)), .fr (.int 0)] := by
  intro n
  induction n generalizing a b with
  | zero => intro h; omega
  | succ n ih =>
    intro h
    unfold whN
    by_cases hb : b = 0
    · subst hb; simp
    · have h0 : 0 < b := Nat.pos_of_ne_zero hb
      have e : ((a : Int) % (b : Int)) = ((a % b : Nat) : Int) := by simp
      have hlt : a % b < n := by have := Nat.mod_lt a h0; omega
      have ihh := ih (a := b) (b := a % b) hlt
      simp [h0]
      rw [e, ihh, Nat.gcd_comm a b, Nat.gcd_rec b a, Nat.gcd_comm (a % b) b]
theorem div_ok {a b : Nat} (h : b < 2 ^ 1000) : F_divisor [.int a, .int b] = .ok (.int (Nat.gcd a b)) [] := by
  have l : ex1 (.wh (.cmp .gt (.var 1) (.int 0)) [.par [0, 1] [(.var 1), (.bin .mod (.bi .int [(.var 0)]) (.var 1))]]) [.fr (.int a), .fr (.int b)] = .nx [.fr (.int (Nat.gcd a b)), .fr (.int 0)] :=
    wh_fuel (div_loop (b + 1) (Nat.lt_succ_self b)) (by simp) (fuel_le (k := 1000) (by omega) (by decide))
  simp [F_divisor, fn_run, ir_divisor, l]
theorem sl_sep : (Str.ofString "/").cps.toList = [47] ∧ (Str.ofString "/").cps.all (· < 256) = true ∧ (Str.ofString "/").length = 1 := by decide +kernel
/-- in lowest terms -/
def Gd (p q : Int) : Prop := Num p ∧ Den q ∧ Int.gcd p q = 1
theorem mth_split {x : Str} {s : String} (h1 : 0 < (Str.ofString s).length) (h2 : x.length ≤ 1000000) : mthD .split (.str x) [.str (Str.ofString s)] = some (.lst ((Txt.split x (Str.ofString s)).map .str)) := by
  show (if (Nat.blt 0 (Str.ofString s).length && lenOk x.length) = true then _ else none) = _
  rw [if_pos]
  rw [lenOk_of h2, Bool.and_true]
  exact Nat.ble_eq_true_of_le h1
theorem fin_ok {p q : Int} (h : Gd p q) : F_fraction_in [.str (ftext p q)] = .ok (fr p q) [] := by
  obtain ⟨hp, hq, hg⟩ := h
  have op := nt_ok hp
  have oq := nt_ok (den_num hq)
  obtain ⟨l1, _, _⟩ := signs_len op
  obtain ⟨l2, _, _⟩ := signs_len oq
  obtain ⟨s1, s2, s3⟩ := sl_sep
  have nt1 := (num_top hp.1 hp.2).1
  have c1 : ∀ e, callF F_number_in [.ix (.var 1) (.int 0), .bin .sub (.int 0) (.gl "MOST_TOP" (.int 999)), .gl "MOST_TOP" (.int 999)] [.str (nt p), .int (-999), .int 999] e = .ok (.int p) e := fun e => call_plain (by decide) rfl nt1
  have ea : (if p < 0 then -p else p) = (p.natAbs : Int) := by split <;> omega
  have eq : q = (q.natAbs : Int) := by have := hq.1; omega
  have dv := div_ok (a := p.natAbs) (b := q.natAbs) (Nat.lt_of_le_of_lt (show q.natAbs ≤ 99 by have := hq.2; have := hq.1; omega) (by decide))
  rw [← eq] at dv
  have dv : F_divisor [.int (p.natAbs : Int), .int q] = .ok (.int 1) [] := by
    rw [dv]; exact congrArg (fun z : Nat => Res.ok (.int (z : Int)) []) hg
  have c3 : ∀ e, callF F_divisor [.bi .abs [.var 2], .var 3] [.int (p.natAbs : Int), .int q] e = .ok (.int 1) e := fun e => call_plain (by decide) rfl dv
  by_cases h1 : q = 1
  · subst h1
    have sp : mthD .split (.str (nt p)) [.str "/"] = some (.lst [.str (nt p)]) := by
      rw [mth_split (by rw [s3]; decide) (by omega), split_one s1 s2 (sep_free op (.inl rfl))]; rfl
    simp [F_fraction_in, fn_run, ir_fraction_in, ftext, sp, getD, ixD, ixN, c1, ea, c3, fr]
  · have hb : (q == 1) = false := beq_eq_false_iff_ne.mpr h1
    have nt2 := (num_bot (p := q) (by have := hq.1; omega) hq.2).1
    have c2 : ∀ e, callF F_number_in [.ix (.var 1) (.int 1), .int 2, .gl "MOST_BOTTOM" (.int 99)] [.str (nt q), .int 2, .int 99] e = .ok (.int q) e := fun e => call_plain (by decide) rfl nt2
    have sp : mthD .split (.str (nt p ++ Str.ofString "/" ++ nt q)) [.str "/"] = some (.lst [.str (nt p), .str (nt q)]) := by
      rw [mth_split (by rw [s3]; decide) (by rw [slen, slen, s3]; omega), split_two s1 s2 (sep_free op (.inl rfl)) (sep_free oq (.inl rfl))]; rfl
    simp [F_fraction_in, fn_run, ir_fraction_in, ftext, h1, sp, getD, ixD, ixN, c1, c2, ea, c3, fr]
end M
end
section
set_option maxRecDepth 100000
set_option maxHeartbeats 4000000
namespace M
open PySem Vi L2
abbrev Ps := List (Int × Int)
def frs (ps : Ps) : List Vi.D := ps.map fun x => fr x.1 x.2
def txs (ps : Ps) : List Str := ps.map fun x => ftext x.1 x.2
def Gds (ps : Ps) : Prop := ∀ x ∈ ps, Gd x.1 x.2
theorem ft_len {p q : Int} (hp : Num p) (hq : Den q) : (ftext p q).length ≤ 13 := by
  obtain ⟨l1, _, _⟩ := signs_len (nt_ok hp)
  obtain ⟨l2, _, _⟩ := signs_len (nt_ok (den_num hq))
  unfold ftext
  split
  · omega
  · rw [slen, slen, sl_sep.2.2]; omega
theorem ft_signs {p q : Int} (hp : Num p) (hq : Den q) {c : Nat} (hc : c = 44 ∨ c = 58 ∨ c = 59) : c ∉ (ftext p q).cps.toList := by
  have o1 := sep_free (nt_ok hp) (c := c) (by omega)
  have o2 := sep_free (nt_ok (den_num hq)) (c := c) (by omega)
  unfold ftext
  split
  · exact o1
  · intro hm
    have e : (nt p ++ Str.ofString "/" ++ nt q).cps.toList = (nt p).cps.toList ++ (Str.ofString "/").cps.toList ++ (nt q).cps.toList := by
      show TL.tl (nt p ++ Str.ofString "/" ++ nt q) = TL.tl (nt p) ++ TL.tl (Str.ofString "/") ++ TL.tl (nt q)
      rw [TL.tl_append, TL.tl_append]
    have hm : c ∈ (nt p ++ Str.ofString "/" ++ nt q).cps.toList := hm
    rw [e, sl_sep.1] at hm
    rcases List.mem_append.mp hm with z | z
    · rcases List.mem_append.mp z with z | z
      · exact o1 z
      · have := List.mem_singleton.mp z; omega
    · exact o2 z
theorem strsD_map : ∀ l : List Str, strsD (l.map Vi.D.str) = some l
  | [] => rfl
  | x :: r => by
    show (strsD (r.map Vi.D.str)).map (fun l => x :: l) = _
    rw [strsD_map r]; rfl
theorem sum_le (ps : Ps) (h : Gds ps) : ((txs ps).map (·.length)).sum ≤ 13 * ps.length := by
  induction ps with
  | nil => simp [txs]
  | cons x r ih =>
    have h1 := ft_len (h x List.mem_cons_self).1 (h x List.mem_cons_self).2.1
    have h2 := ih fun y hy => h y (List.mem_cons_of_mem _ hy)
    simp only [txs, List.map_cons, List.sum_cons, List.length_cons] at h2 ⊢
    omega
theorem mth_join {l : List Str} {s : Str} (h : (l.map (·.length)).sum + l.length * s.length ≤ 1000000) : mthD .join (.str s) [.lst (l.map .str)] = some (.str (Txt.join s l)) := by
  show ((strsD (l.map Vi.D.str)).bind fun l => if Nat.ble ((l.map (·.length)).sum + l.length * s.length) 1000000 then some (Vi.D.str (Txt.join s l)) else none) = _
  rw [strsD_map]
  show (if Nat.ble ((l.map (·.length)).sum + l.length * s.length) 1000000 = true then some (Vi.D.str (Txt.join s l)) else none) = _
  rw [if_pos (Nat.ble_eq_true_of_le h)]
theorem one_signs : (Str.ofString ",").cps.toList = [44] ∧ (Str.ofString ",").cps.all (· < 256) = true ∧ (Str.ofString ",").length = 1 ∧ (Str.ofString ":").cps.toList = [58] ∧ (Str.ofString ":").cps.all (· < 256) = true ∧ (Str.ofString ":").length = 1 ∧
    (Str.ofString ";").cps.toList = [59] ∧ (Str.ofString ";").cps.all (· < 256) = true ∧ (Str.ofString ";").length = 1 := by decide +kernel
/-- the text of a poly -/
def ptext (ps : Ps) : Str := if ps = [] then "-" else Txt.join "," (txs ps)
theorem frs_map (ps : Ps) : (frs ps).length = ps.length := by simp [frs]
/-- each fraction's text -/
theorem lc_texts {ps : Ps} {s : Vi.Slot} (h : Gds ps) (hl : ps.length ≤ 1000) (F : Fn) (nm : Str) (hF : ∀ p q, Num p → Den q → F [fr p q] = .ok (.str (ftext p q)) []) (hs : ∀ d, s ≠ .ow d) :
    ev (.lc [1] (.nm 1) (.var 0) [] (.call nm F [.var 1])) [.fr (.lst (frs ps)), s] = .ok (.lst ((txs ps).map .str)) [.fr (.lst (frs ps)), s] := by
  have hw : wipeE [.fr (.lst (frs ps)), s] [1] = some [.fr (.lst (frs ps)), .un] := by
    cases s <;> first
      | rfl
      | exact absurd rfl (hs _)
  have k := ev_lc0 (own := [1]) (tg := .nm 1) (src := .var 0) (elt := .call nm F [.var 1]) (e := [.fr (.lst (frs ps)), s]) (e0 := [.fr (.lst (frs ps)), s]) (e1 := [.fr (.lst (frs ps)), .un]) (s := .lst (frs ps)) (ds := frs ps)
    (g := fun d => match d with | .tup [.int p, .int q] => .str (ftext p q) | _ => .non) (by simp) rfl hw (by rw [frs_map]; omega) fun d hd => by
      obtain ⟨x, hx, rfl⟩ := List.mem_map.mp hd
      have hF := hF x.1 x.2 (h x hx).1 (h x hx).2.1
      refine ⟨[.fr (.lst (frs ps)), .fr (fr x.1 x.2)], [.fr (.lst (frs ps)), .fr (fr x.1 x.2)], by simp, ?_, rfl⟩
      have c := call_plain (F := F) (es := [.var 1]) (ds := [fr x.1 x.2]) (e := [.fr (.lst (frs ps)), .fr (fr x.1 x.2)]) (by decide) rfl hF
      show ev (.call nm F [.var 1]) [.fr (.lst (frs ps)), .fr (fr x.1 x.2)] = .ok (.str (ftext x.1 x.2)) _
      simp [c]
  rw [k]
  have e1 : unwipe [.fr (.lst (frs ps)), s] [.fr (.lst (frs ps)), .un] [1] = [.fr (.lst (frs ps)), s] := rfl
  rw [e1]
  have e2 : (frs ps).map (fun d => match d with | .tup [.int p, .int q] => Vi.D.str (ftext p q) | _ => .non) = (txs ps).map .str := by
    unfold frs txs
    rw [List.map_map, List.map_map]
    rfl
  rw [e2]
theorem ptext_ok {ps : Ps} (h : Gds ps) (hl : ps.length ≤ 10) : F_poly_text [.lst (frs ps)] = .ok (.str (ptext ps)) [] := by
  by_cases hz : ps = []
  · subst hz
    simp [F_poly_text, fn_run, ir_poly_text, frs, ptext]
  · have hne : ¬ ((frs ps).length : Int) = 0 := by
      rw [frs_map]
      have := List.length_pos_iff.mpr hz
      omega
    have hb : (((frs ps).length : Int) == 0) = false := beq_eq_false_iff_ne.mpr hne
    have l := lc_texts (ps := ps) (s := .un) h (by omega) F_fraction_text "fraction_text" (fun p q a b => (ft_eq a b).1) (fun d z => by cases z)
    have j := mth_join (l := txs ps) (s := Str.ofString ",") (by
      have := sum_le ps h
      have e : (txs ps).length = ps.length := by simp [txs]
      rw [e, one_signs.2.2.1]; omega)
    simp [F_poly_text, fn_run, ir_poly_text, hb, l, j, ptext, hz]
/-- a comprehension over the images of things, each answered by its image -/
theorem lc_imgs {α : Type} {own : List Nat} {tg : Tg} {f : Vi.Env → Vi.R (Option Vi.D)} {e : Vi.Env} {a b : α → Vi.D} : ∀ {ps : List α}, (∀ x ∈ ps, ∃ e1 e2, asgT tg (a x) e = some e1 ∧ f e1 = .ok (some (b x)) e2 ∧ wipeE e2 own = some e) → lcL own tg f (ps.map a) e = .ok (ps.map b) e
  | [], _ => rfl
  | d :: ds, h => by
    obtain ⟨e1, e2, h1, h2, h3⟩ := h d List.mem_cons_self
    rw [List.map_cons, List.map_cons]
    unfold lcL
    rw [h1]
    simp only [h2, rb_ok, h3, lc_imgs fun d hd => h d (List.mem_cons_of_mem _ hd)]
theorem ev_lcP {α : Type} {own : List Nat} {tg : Tg} {src elt : E} {e e0 e1 : Vi.Env} {s : Vi.D} {ps : List α} {a b : α → Vi.D} (hs : ev src e = .ok s e0) (hi : itemsD s = some (ps.map a)) (hw : wipeE e0 own = some e1) (hl : ps.length ≤ 1000000)
    (h : ∀ x ∈ ps, ∃ e2 e3, asgT tg (a x) e1 = some e2 ∧ ev elt e2 = .ok (b x) e3 ∧ wipeE e3 own = some e1) : ev (.lc own tg src [] elt) e = .ok (.lst (ps.map b)) (unwipe e0 e1 own) := by
  simp only [ev, hs, rb_ok, hi, hw]
  rw [show lenOk (ps.map a).length = true from Nat.ble_eq_true_of_le (by rw [List.length_map]; exact hl)]
  have k := lc_imgs (own := own) (tg := tg) (f := fun e => (evs [] e).bind fun c e => (match c with
        | [] => (ev elt e).bind fun d e => .ok (some d) e
        | [.bl true] => (ev elt e).bind fun d e => .ok (some d) e
        | [.bl false] => .ok none e
        | _ => .no)) (e := e1) (a := a) (b := b) (ps := ps) fun x hx => by
    obtain ⟨e2, e3, h1, h2, h3⟩ := h x hx
    exact ⟨e2, e3, h1, by simp only [evs, rb_ok, h2], h3⟩
  show (match lcL own tg (fun e => (evs [] e).bind fun c e => (match c with
        | [] => (ev elt e).bind fun d e => .ok (some d) e
        | [.bl true] => (ev elt e).bind fun d e => .ok (some d) e
        | [.bl false] => .ok none e
        | _ => .no)) (ps.map a) e1 with
    | .ok ds e2 => R.ok (Vi.D.lst ds) (unwipe e0 e2 own)
    | _ => .no) = _
  rw [k]
theorem frac_minus : F_fraction_in [.str "-"] = .ok .non [] := by
  have : (match F_fraction_in [.str "-"] with | .ok .non [] => true | _ => false) = true := by decide +kernel
  revert this
  cases F_fraction_in [.str "-"] with
  | ok d os => cases d <;> cases os <;> intro h <;> first | rfl | cases h
  | ex x os => intro h; cases h
  | no => intro h; cases h
theorem split_txs {ps : Ps} (hne : ps ≠ []) (h : Gds ps) {s : String} {n : Nat} (hs : (Str.ofString s).cps.toList = [n]) (hk : (Str.ofString s).cps.all (· < 256) = true) (hn : n = 44 ∨ n = 58 ∨ n = 59) : Txt.split (Txt.join (Str.ofString s) (txs ps)) (Str.ofString s) = txs ps :=
  TL.split_join (y := Str.ofString s) (s := n) (S := []) hs hk (fun z => hne (List.map_eq_nil_iff.mp z)) fun t ht => by
    obtain ⟨x, hx, rfl⟩ := List.mem_map.mp ht
    exact ft_signs (h x hx).1 (h x hx).2.1 hn
theorem join_len0 {s : Str} (hs : s.length ≤ 1) : ∀ (l : List Str), (Str.join s l).length ≤ (l.map (·.length)).sum + l.length
  | [] => Nat.zero_le _
  | [x] => by
    show x.length ≤ _
    simp
  | x :: y :: r => by
    have ih := join_len0 hs (y :: r)
    have e : Str.join s (x :: y :: r) = x ++ s ++ Str.join s (y :: r) := rfl
    rw [e, slen, slen]
    simp only [List.map_cons, List.sum_cons, List.length_cons] at ih ⊢
    omega
theorem join_len {s : Str} (hs : s.length ≤ 1) (l : List Str) : (Txt.join s l).length ≤ (l.map (·.length)).sum + l.length := by
  rw [TL.join_eq]; exact join_len0 hs l
theorem ptext_ne {ps : Ps} (hne : ps ≠ []) (h : Gds ps) : Txt.join "," (txs ps) ≠ Str.ofString "-" := fun z => by
  obtain ⟨s1, s2, s3, _⟩ := one_signs
  have k := split_txs hne h s1 s2 (.inl rfl)
  rw [z, split_one s1 s2 (by decide +kernel)] at k
  match ps, hne, h, k with
  | [x], _, h, k =>
    have e : Str.ofString "-" = ftext x.1 x.2 := by simpa [txs] using k
    have f := fin_ok (h x List.mem_cons_self)
    rw [← e, frac_minus] at f
    cases f
  | _ :: _ :: _, _, _, k => simp [txs] at k
theorem fr_flat (p q : Int) : (fr p q).pure = true ∧ (fr p q).depth = 1 := by simp [fr, D.pure, D.pures, D.depth, D.depths]
theorem frs_pure : ∀ ps : Ps, D.pures (frs ps) = true ∧ D.depths (frs ps) ≤ 1
  | [] => by simp [frs, D.pures, D.depths]
  | x :: r => by
    have ih := frs_pure r
    have f := fr_flat x.1 x.2
    simp only [frs, List.map_cons, D.pures, D.depths] at ih ⊢
    rw [f.1, f.2]
    exact ⟨by rw [ih.1]; rfl, Nat.max_le.mpr ⟨Nat.le_refl _, ih.2⟩⟩
theorem frs_flat (ps : Ps) : (Vi.D.lst (frs ps)).flat = true := by
  have := frs_pure ps
  simp only [D.flat, D.pure, D.depth, this.1, Bool.true_and]
  exact Nat.ble_eq_true_of_le (by omega)
theorem none_in (ps : Ps) : cmpD .inn .non (.lst (frs ps)) = some false := by
  show (if (Vi.D.non.flat && (Vi.D.lst (frs ps)).flat) = true then some (memD .non (frs ps)) else none) = _
  rw [frs_flat, if_pos (by decide)]
  have : memD .non (frs ps) = false := by
    unfold memD
    rw [List.any_eq_false]
    intro d hd
    obtain ⟨x, hx, rfl⟩ := List.mem_map.mp hd
    simp [fr, D.eqv]
  rw [this]
/-- the last is not nought -/
def NoTail (ps : Ps) : Prop := ∀ x, ps.getLast? = some x → x ≠ (0, 1)
theorem pin_ok {ps : Ps} (h : Gds ps) (hl : ps.length ≤ 5) (ht : NoTail ps) : F_poly_in [.str (ptext ps)] = .ok (.lst (frs ps)) [] := by
  by_cases hz : ps = []
  · subst hz
    simp [F_poly_in, fn_run, ir_poly_in, frs, ptext]
  · obtain ⟨s1, s2, s3, _⟩ := one_signs
    have ne := ptext_ne hz h
    have nb : (Txt.join "," (txs ps) == Str.ofString "-") = false := beq_eq_false_iff_ne.mpr ne
    have e0 : ptext ps = Txt.join "," (txs ps) := if_neg hz
    rw [e0]
    have tl : (txs ps).length = ps.length := by simp [txs]
    have len : (Txt.join "," (txs ps)).length ≤ 1000000 := by
      have h1 := join_len (s := Str.ofString ",") (by rw [s3]; exact Nat.le_refl _) (txs ps)
      have h2 := sum_le ps h
      rw [tl] at h1
      omega
    have sp : mthD .split (.str (Txt.join (Str.ofString ",") (txs ps))) [.str ","] = some (.lst ((txs ps).map .str)) := by
      rw [mth_split (by rw [s3]; decide) len, split_txs hz h s1 s2 (.inl rfl)]
    have lc := ev_lcP (α := Int × Int) (own := [2]) (tg := .nm 2) (src := .mth .split (.var 0) [.str ","]) (elt := .call "fraction_in" F_fraction_in [.var 2]) (e := [.fr (.str (Txt.join (Str.ofString ",") (txs ps))), .un, .un]) (e0 := [.fr (.str (Txt.join (Str.ofString ",") (txs ps))), .un, .un]) (e1 := [.fr (.str (Txt.join (Str.ofString ",") (txs ps))), .un, .un])
      (s := .lst ((txs ps).map .str)) (ps := ps) (a := fun x => .str (ftext x.1 x.2)) (b := fun x => fr x.1 x.2) (by simp [sp]) (by simp [itemsD, txs]) rfl (by omega) fun x hx => by
        refine ⟨[.fr (.str (Txt.join (Str.ofString ",") (txs ps))), .un, .fr (.str (ftext x.1 x.2))], [.fr (.str (Txt.join (Str.ofString ",") (txs ps))), .un, .fr (.str (ftext x.1 x.2))], by simp, ?_, rfl⟩
        have c := call_plain (F := F_fraction_in) (es := [.var 2]) (ds := [.str (ftext x.1 x.2)]) (e := [.fr (.str (Txt.join (Str.ofString ",") (txs ps))), .un, .fr (.str (ftext x.1 x.2))]) (by decide) rfl (fin_ok (h x hx))
        simp [c]
    have e1 : ps.map (fun x => fr x.1 x.2) = frs ps := rfl
    rw [e1] at lc
    have e2 : unwipe [.fr (.str (Txt.join (Str.ofString ",") (txs ps))), .un, .un] [.fr (.str (Txt.join (Str.ofString ",") (txs ps))), .un, .un] [2] = [.fr (.str (Txt.join (Str.ofString ",") (txs ps))), .un, .un] := rfl
    rw [e2] at lc
    obtain ⟨x, hx⟩ : ∃ x, ps.getLast? = some x := ⟨ps.getLast hz, List.getLast?_eq_some_getLast hz⟩
    have nn := ht x hx
    have g : getD (.lst (frs ps)) (.int (-1)) = some (fr x.1 x.2) := by
      have hp := List.length_pos_iff.mpr hz
      show ((ixN (frs ps).length (-1)).bind fun j => (frs ps)[j]?) = _
      have : ixN (frs ps).length (-1) = some (ps.length - 1) := by
        unfold ixN
        rw [frs_map, if_neg (by omega), if_pos (by omega)]
        congr 1; omega
      rw [this]
      show (frs ps)[ps.length - 1]? = _
      unfold frs
      rw [List.getElem?_map, ← List.getLast?_eq_getElem?, hx]; rfl
    have cn : cmpD .eq (fr x.1 x.2) (.tup [.int 0, .int 1]) = some false := by
      have f := fr_flat x.1 x.2
      have f2 : (fr x.1 x.2).flat = true := by
        simp only [D.flat, f.1, f.2, Bool.true_and]; rfl
      show (if ((fr x.1 x.2).flat && (Vi.D.tup [.int 0, .int 1]).flat) = true then some (D.eqv (fr x.1 x.2) (.tup [.int 0, .int 1])) else none) = _
      rw [f2, if_pos (by decide)]
      congr 1
      simp only [fr, D.eqv, D.eqvs, Bool.and_true]
      rw [Bool.eq_false_iff]
      intro z
      simp only [Bool.and_eq_true, beq_iff_eq] at z
      exact nn (Prod.ext z.1 z.2)
    have le5 : ¬ (5 : Int) < ((frs ps).length : Int) := by rw [frs_map]; omega
    simp [F_poly_in, fn_run, ir_poly_in, nb, lc, none_in, le5, g, cn, -ev_call]
end M
end
section
set_option maxRecDepth 100000
set_option maxHeartbeats 4000000
namespace M
open PySem Vi L2
def bel (x y : Int × Int) : Bool := decide (x.1 * y.2 < y.1 * x.2)
theorem bel_ok {x y : Int × Int} (hx : Gd x.1 x.2) (hy : Gd y.1 y.2) : F_is_below [fr x.1 x.2, fr y.1 y.2] = .ok (.bl (bel x y)) [] := by
  obtain ⟨⟨a1, a2⟩, ⟨a3, a4⟩, _⟩ := hx
  obtain ⟨⟨c1, c2⟩, ⟨c3, c4⟩, _⟩ := hy
  have b1 : bitsOk x.1 y.2 = true := bits_small (Nat.lt_of_le_of_lt (show _ ≤ 999 by omega) (by decide)) (Nat.lt_of_le_of_lt (show _ ≤ 999 by omega) (by decide))
  have b2 : bitsOk y.1 x.2 = true := bits_small (Nat.lt_of_le_of_lt (show _ ≤ 999 by omega) (by decide)) (Nat.lt_of_le_of_lt (show _ ≤ 999 by omega) (by decide))
  simp [F_is_below, fn_run, ir_is_below, fr, getD, ixD, ixN, b1, b2, bel]
def prs (ks : Ps) : List ((Int × Int) × (Int × Int)) := ks.zip ks.tail
def Rise (ks : Ps) : Prop := (prs ks).all (fun z => bel z.1 z.2) = true
theorem zip2_map : ∀ (a b : Ps), zip2D (frs a) (frs b) = (a.zip b).map fun z => .tup [fr z.1.1 z.1.2, fr z.2.1 z.2.2]
  | [], b => by cases b <;> rfl
  | _ :: _, [] => rfl
  | x :: a, y :: b => by
    have ih := zip2_map a b
    simp only [frs] at ih ⊢
    simp only [List.map_cons, zip2D, List.zip_cons_cons, ih]
theorem cut_tail {α : Type} (xs : List α) : cutL xs (some 1) none = xs.tail := by
  unfold cutL HT.sIx
  cases xs with
  | nil => simp
  | cons x r => simp
theorem blsD_map {α : Type} (f : α → Bool) : ∀ l : List α, blsD (l.map fun z => Vi.D.bl (f z)) = some (l.map f)
  | [] => rfl
  | x :: r => by
    show (blsD (r.map fun z => Vi.D.bl (f z))).map (fun l => f x :: l) = _
    rw [blsD_map f r]; rfl
theorem prs_mem {ks : Ps} (h : Gds ks) : ∀ z ∈ prs ks, Gd z.1.1 z.1.2 ∧ Gd z.2.1 z.2.2 := fun z hz => by
  have := List.of_mem_zip (show (z.1, z.2) ∈ ks.zip ks.tail from hz)
  exact ⟨h _ this.1, h _ (List.mem_of_mem_tail this.2)⟩
theorem prs_len (ks : Ps) : (prs ks).length ≤ ks.length := by
  unfold prs; rw [List.length_zip]; exact Nat.min_le_left _ _
theorem frs_len (ps : Ps) : (frs ps).length = ps.length := by simp [frs]
theorem txs_len (ps : Ps) : (txs ps).length = ps.length := by simp [txs]
theorem jl_le {ps : Ps} (h : Gds ps) {s : String} (hs : (Str.ofString s).length = 1) : (Txt.join (Str.ofString s) (txs ps)).length ≤ 14 * ps.length := by
  have h1 := join_len (s := Str.ofString s) (by rw [hs]; exact Nat.le_refl _) (txs ps)
  have h2 := sum_le ps h
  rw [txs_len] at h1
  omega
theorem rin_ok {ks : Ps} (hne : ks ≠ []) (h : Gds ks) (hl : ks.length ≤ 10) (hr : Rise ks) {s : String} {n : Nat} (s1 : (Str.ofString s).cps.toList = [n]) (s2 : (Str.ofString s).cps.all (· < 256) = true) (s3 : (Str.ofString s).length = 1) (hn : n = 44 ∨ n = 58 ∨ n = 59) :
    F_rising_in [.str (Txt.join (Str.ofString s) (txs ks)), .str (Str.ofString s)] = .ok (.lst (frs ks)) [] := by
  have len := jl_le h s3
  have sp : mthD .split (.str (Txt.join (Str.ofString s) (txs ks))) [.str (Str.ofString s)] = some (.lst ((txs ks).map .str)) := by
    rw [mth_split (by rw [s3]; decide) (by omega), split_txs hne h s1 s2 hn]
  have lc := ev_lcP (α := Int × Int) (own := [3]) (tg := .nm 3) (src := .mth .split (.var 0) [.var 1]) (elt := .call "fraction_in" F_fraction_in [.var 3]) (e := [.fr (.str (Txt.join (Str.ofString s) (txs ks))), .fr (.str (Str.ofString s)), .un, .un, .un, .un]) (e0 := [.fr (.str (Txt.join (Str.ofString s) (txs ks))), .fr (.str (Str.ofString s)), .un, .un, .un, .un]) (e1 := [.fr (.str (Txt.join (Str.ofString s) (txs ks))), .fr (.str (Str.ofString s)), .un, .un, .un, .un])
      (s := .lst ((txs ks).map .str)) (ps := ks) (a := fun x => .str (ftext x.1 x.2)) (b := fun x => fr x.1 x.2) (by simp [sp]) (by simp [itemsD, txs]) rfl (by omega) fun x hx => by
        refine ⟨[.fr (.str (Txt.join (Str.ofString s) (txs ks))), .fr (.str (Str.ofString s)), .un, .fr (.str (ftext x.1 x.2)), .un, .un], [.fr (.str (Txt.join (Str.ofString s) (txs ks))), .fr (.str (Str.ofString s)), .un, .fr (.str (ftext x.1 x.2)), .un, .un], by simp, ?_, rfl⟩
        have c := call_plain (F := F_fraction_in) (es := [.var 3]) (ds := [.str (ftext x.1 x.2)]) (e := [.fr (.str (Txt.join (Str.ofString s) (txs ks))), .fr (.str (Str.ofString s)), .un, .fr (.str (ftext x.1 x.2)), .un, .un]) (by decide) rfl (fin_ok (h x hx))
        simp [c]
  have e1 : ks.map (fun x => fr x.1 x.2) = frs ks := rfl
  rw [e1] at lc
  have e2 : ∀ e : Vi.Env, e = [.fr (.str (Txt.join (Str.ofString s) (txs ks))), .fr (.str (Str.ofString s)), .un, .un, .un, .un] → unwipe e e [3] = e := fun e h => by subst h; rfl
  rw [e2 _ rfl] at lc
  have e4 : cutD (.lst (frs ks)) (some 1) none = some (.lst (frs ks.tail)) := by
    show some (Vi.D.lst (cutL (frs ks) (some 1) none)) = _
    rw [cut_tail]
    unfold frs
    rw [List.map_tail]
  have lc2 := ev_lcP (α := (Int × Int) × (Int × Int)) (own := [4, 5]) (tg := .tp [.nm 4, .nm 5]) (src := .zip [.var 2, .sl (.var 2) (.int 1) .non]) (elt := .call "is_below" F_is_below [.var 4, .var 5]) (e := [.fr (.str (Txt.join (Str.ofString s) (txs ks))), .fr (.str (Str.ofString s)), .fr (.lst (frs ks)), .un, .un, .un]) (e0 := [.fr (.str (Txt.join (Str.ofString s) (txs ks))), .fr (.str (Str.ofString s)), .fr (.lst (frs ks)), .un, .un, .un]) (e1 := [.fr (.str (Txt.join (Str.ofString s) (txs ks))), .fr (.str (Str.ofString s)), .fr (.lst (frs ks)), .un, .un, .un])
      (s := .lst ((prs ks).map fun z => .tup [fr z.1.1 z.1.2, fr z.2.1 z.2.2])) (ps := prs ks) (a := fun z => .tup [fr z.1.1 z.1.2, fr z.2.1 z.2.2]) (b := fun z => .bl (bel z.1 z.2)) (by simp [e4, partE, zipD, zip2_map, prs]) (by simp [itemsD]) rfl (by have := prs_len ks; omega) fun z hz => by
        obtain ⟨g1, g2⟩ := prs_mem h z hz
        refine ⟨[.fr (.str (Txt.join (Str.ofString s) (txs ks))), .fr (.str (Str.ofString s)), .fr (.lst (frs ks)), .un, .fr (fr z.1.1 z.1.2), .fr (fr z.2.1 z.2.2)], [.fr (.str (Txt.join (Str.ofString s) (txs ks))), .fr (.str (Str.ofString s)), .fr (.lst (frs ks)), .un, .fr (fr z.1.1 z.1.2), .fr (fr z.2.1 z.2.2)], by simp, ?_, rfl⟩
        have c := call_plain (F := F_is_below) (es := [.var 4, .var 5]) (ds := [fr z.1.1 z.1.2, fr z.2.1 z.2.2]) (e := [.fr (.str (Txt.join (Str.ofString s) (txs ks))), .fr (.str (Str.ofString s)), .fr (.lst (frs ks)), .un, .fr (fr z.1.1 z.1.2), .fr (fr z.2.1 z.2.2)]) (by decide) rfl (bel_ok g1 g2)
        simp [c]
  have e5 : ∀ e : Vi.Env, e = [.fr (.str (Txt.join (Str.ofString s) (txs ks))), .fr (.str (Str.ofString s)), .fr (.lst (frs ks)), .un, .un, .un] → unwipe e e [4, 5] = e := fun e h => by subst h; rfl
  rw [e5 _ rfl] at lc2
  have al : biD .all [.lst ((prs ks).map fun z => Vi.D.bl (bel z.1 z.2))] = some (.bl true) := by
    rw [bx_all, blsD_map]
    show some (Vi.D.bl (((prs ks).map fun z => bel z.1 z.2).all id)) = _
    rw [List.all_map]
    have : (prs ks).all (id ∘ fun z => bel z.1 z.2) = true := hr
    rw [this]
  simp [F_rising_in, fn_run, ir_rising_in, lc, lc2, none_in, al, -ev_call, -ev_zip, -bx_all]
end M
end
section
set_option maxRecDepth 100000
set_option maxHeartbeats 4000000
namespace M
open PySem Vi L2
def ktext (ks : Ps) : Str := Txt.join "," (txs ks)
def stext (ks : Ps) : Str := Txt.join ":" (txs ks)
theorem len_ne {ks : Ps} (h : 1 ≤ ks.length) : ks ≠ [] := fun z => by subst z; simp at h
theorem sin_ok {ks : Ps} (h : Gds ks) (hl : ks.length = 2) (hr : Rise ks) : F_stretch_in [.str (stext ks)] = .ok (.tup (frs ks)) [] := by
  obtain ⟨_, _, _, s1, s2, s3, _⟩ := one_signs
  have r := rin_ok (len_ne (by omega)) h (by omega) hr s1 s2 s3 (.inr (.inl rfl))
  have c : ∀ e, callF F_rising_in [.var 0, .str ":"] [.str (Txt.join (Str.ofString ":") (txs ks)), .str (Str.ofString ":")] e = .ok (.lst (frs ks)) e := fun e => call_plain (by decide) rfl r
  simp [F_stretch_in, fn_run, ir_stretch_in, stext, c, frs_len, hl]
theorem kin_ok {ks : Ps} (h : Gds ks) (hl : 2 ≤ ks.length) (hl2 : ks.length ≤ 6) (hr : Rise ks) : F_knots_in [.str (ktext ks)] = .ok (.lst (frs ks)) [] := by
  obtain ⟨s1, s2, s3, _⟩ := one_signs
  have r := rin_ok (len_ne (by omega)) h (by omega) hr s1 s2 s3 (.inl rfl)
  have c : ∀ e, callF F_rising_in [.var 0, .str ","] [.str (Txt.join (Str.ofString ",") (txs ks)), .str (Str.ofString ",")] e = .ok (.lst (frs ks)) e := fun e => call_plain (by decide) rfl r
  have h1 : (2 : Int) ≤ ks.length := by omega
  have h2 : (ks.length : Int) ≤ 6 := by omega
  simp [F_knots_in, fn_run, ir_knots_in, ktext, c, frs_len, h1, h2]
/-- a poly that may be kept -/
def GP (ps : Ps) : Prop := Gds ps ∧ ps.length ≤ 5 ∧ NoTail ps
def pd (ps : Ps) : Vi.D := .lst (frs ps)
/-- the text of a bent one -/
def btext (ks : Ps) (pss : List Ps) : Str := Txt.join ";" (ktext ks :: pss.map ptext)
theorem jt_signs {ps : Ps} (h : Gds ps) {s : String} {n c : Nat} (s1 : (Str.ofString s).cps.toList = [n]) (hc : c = 44 ∨ c = 58 ∨ c = 59) (hn : n ≠ c) : c ∉ (Txt.join (Str.ofString s) (txs ps)).cps.toList := by
  rw [TL.join_eq]
  have e : ∀ l : List Str, (∀ t ∈ l, c ∉ t.cps.toList) → c ∉ (Str.join (Str.ofString s) l).cps.toList := by
    intro l
    induction l with
    | nil => intro _ hm; cases hm
    | cons x r ih =>
      intro hh
      cases r with
      | nil => exact hh x List.mem_cons_self
      | cons y r =>
        intro hm
        have e : (Str.join (Str.ofString s) (x :: y :: r)).cps.toList = x.cps.toList ++ (Str.ofString s).cps.toList ++ (Str.join (Str.ofString s) (y :: r)).cps.toList := by
          show TL.tl (x ++ Str.ofString s ++ Str.join (Str.ofString s) (y :: r)) = TL.tl x ++ TL.tl (Str.ofString s) ++ TL.tl (Str.join (Str.ofString s) (y :: r))
          rw [TL.tl_append, TL.tl_append]
        rw [e, s1] at hm
        rcases List.mem_append.mp hm with z | z
        · rcases List.mem_append.mp z with z | z
          · exact hh x List.mem_cons_self z
          · exact hn (List.mem_singleton.mp z).symm
        · exact ih (fun t ht => hh t (List.mem_cons_of_mem _ ht)) z
  exact e _ fun t ht => by
    obtain ⟨x, hx, rfl⟩ := List.mem_map.mp ht
    exact ft_signs (h x hx).1 (h x hx).2.1 hc
theorem pt_signs {ps : Ps} (h : Gds ps) {c : Nat} (hc : c = 58 ∨ c = 59) : c ∉ (ptext ps).cps.toList := by
  unfold ptext
  split
  · intro hm
    have : (Str.ofString "-").cps.toList = [45] := by decide +kernel
    have hm : c ∈ (Str.ofString "-").cps.toList := hm
    rw [this] at hm
    have := List.mem_singleton.mp hm
    omega
  · exact jt_signs h one_signs.1 (by omega) (by omega)
theorem pt_len {ps : Ps} (h : Gds ps) : (ptext ps).length ≤ 14 * ps.length + 1 := by
  unfold ptext
  split
  · have : (Str.ofString "-").length = 1 := by decide +kernel
    have e : (Str.ofString "-").length ≤ 14 * ps.length + 1 := by omega
    exact e
  · have := jl_le h one_signs.2.2.1
    exact Nat.le_succ_of_le this
def GPs (pss : List Ps) : Prop := ∀ p ∈ pss, GP p
theorem pts_len (pss : List Ps) (h : GPs pss) : ((pss.map ptext).map (·.length)).sum ≤ 71 * pss.length := by
  induction pss with
  | nil => simp
  | cons x r ih =>
    have g := h x List.mem_cons_self
    have h1 := pt_len g.1
    have h3 := g.2.1
    have h2 := ih fun y hy => h y (List.mem_cons_of_mem _ hy)
    simp only [List.map_cons, List.sum_cons, List.length_cons] at h2 ⊢
    omega
theorem bt_len {ks : Ps} {pss : List Ps} (h : Gds ks) (hp : GPs pss) : (btext ks pss).length ≤ 14 * ks.length + 72 * pss.length + 1 := by
  have h1 := join_len (s := Str.ofString ";") (by rw [one_signs.2.2.2.2.2.2.2.2]; exact Nat.le_refl _) (ktext ks :: pss.map ptext)
  have h2 := pts_len pss hp
  have h3 : (ktext ks).length ≤ 14 * ks.length := jl_le h one_signs.2.2.1
  simp only [List.map_cons, List.sum_cons, List.length_cons, List.length_map] at h1 h2
  show (Txt.join (Str.ofString ";") (ktext ks :: pss.map ptext)).length ≤ _
  omega
theorem sp_bt {ks : Ps} {pss : List Ps} (h : Gds ks) (hp : GPs pss) (l1 : ks.length ≤ 6) (l2 : pss.length ≤ 10) : mthD .split (.str (btext ks pss)) [.str ";"] = some (.lst ((ktext ks :: pss.map ptext).map .str)) := by
  obtain ⟨_, _, _, _, _, _, s1, s2, s3⟩ := one_signs
  have bl := bt_len h hp
  rw [mth_split (by rw [s3]; decide) (by omega)]
  have k := TL.split_join (y := Str.ofString ";") (s := 59) (S := []) s1 s2 (parts := ktext ks :: pss.map ptext) (by simp) (fun t ht => by
    rcases List.mem_cons.mp ht with z | z
    · rw [z]; exact jt_signs h one_signs.1 (.inr (.inr rfl)) (by decide)
    · obtain ⟨x, hx, rfl⟩ := List.mem_map.mp z
      exact pt_signs (hp x hx).1 (.inr rfl))
  have k : Txt.split (btext ks pss) (Str.ofString ";") = _ := k
  rw [k]
theorem pds_pure : ∀ pss : List Ps, D.pures (pss.map pd) = true ∧ D.depths (pss.map pd) ≤ 2
  | [] => by simp [D.pures, D.depths]
  | x :: r => by
    have ih := pds_pure r
    have f := frs_pure x
    simp only [List.map_cons, D.pures, D.depths, pd, D.pure, D.depth] at ih ⊢
    rw [f.1]
    exact ⟨by rw [ih.1]; rfl, Nat.max_le.mpr ⟨by omega, ih.2⟩⟩
theorem none_inp (pss : List Ps) : cmpD .inn .non (.lst (pss.map pd)) = some false := by
  have h := pds_pure pss
  have fl : (Vi.D.lst (pss.map pd)).flat = true := by
    simp only [D.flat, D.pure, D.depth, h.1, Bool.true_and]
    exact Nat.ble_eq_true_of_le (by omega)
  show (if (Vi.D.non.flat && (Vi.D.lst (pss.map pd)).flat) = true then some (memD .non (pss.map pd)) else none) = _
  rw [fl, if_pos (by decide)]
  have : memD .non (pss.map pd) = false := by
    unfold memD
    rw [List.any_eq_false]
    intro d hd
    obtain ⟨x, hx, rfl⟩ := List.mem_map.mp hd
    simp [pd, D.eqv]
  rw [this]
/-- bent ones that may be kept -/
def GB (ks : Ps) (pss : List Ps) : Prop := Gds ks ∧ 2 ≤ ks.length ∧ ks.length ≤ 6 ∧ Rise ks ∧ GPs pss ∧ pss.length + 1 = ks.length
theorem bin_ok {ks : Ps} {pss : List Ps} (h : GB ks pss) : F_bent_in [.str (btext ks pss)] = .ok (.tup [.lst (frs ks), .lst (pss.map pd)]) [] := by
  obtain ⟨g, l1, l2, hr, gp, l3⟩ := h
  have sp := sp_bt g gp l2 (by omega)
  have kc : ∀ e, callF F_knots_in [.ix (.var 1) (.int 0)] [.str (ktext ks)] e = .ok (.lst (frs ks)) e := fun e => call_plain (by decide) rfl (kin_ok g l1 l2 hr)
  have e4 : cutD (.lst (.str (ktext ks) :: pss.map fun x => .str (ptext x))) (some 1) none = some (.lst (pss.map fun x => .str (ptext x))) := by
    show some (Vi.D.lst (cutL _ (some 1) none)) = _
    rw [cut_tail]; rfl
  have em : (pss.map ptext).map Vi.D.str = pss.map fun x => .str (ptext x) := by rw [List.map_map]; rfl
  rw [List.map_cons, em] at sp
  have lc := ev_lcP (α := Ps) (own := [4]) (tg := .nm 4) (src := .sl (.var 1) (.int 1) .non) (elt := .call "poly_in" F_poly_in [.var 4]) (e := [.fr (.str (btext ks pss)), .fr (.lst (.str (ktext ks) :: pss.map fun x => .str (ptext x))), .un, .un, .un]) (e0 := [.fr (.str (btext ks pss)), .fr (.lst (.str (ktext ks) :: pss.map fun x => .str (ptext x))), .un, .un, .un]) (e1 := [.fr (.str (btext ks pss)), .fr (.lst (.str (ktext ks) :: pss.map fun x => .str (ptext x))), .un, .un, .un])
      (s := .lst (pss.map fun x => .str (ptext x))) (ps := pss) (a := fun x => .str (ptext x)) (b := fun x => pd x) (by simp [e4, partE]) (by simp [itemsD]) rfl (by omega) fun x hx => by
        refine ⟨[.fr (.str (btext ks pss)), .fr (.lst (.str (ktext ks) :: pss.map fun x => .str (ptext x))), .un, .un, .fr (.str (ptext x))], [.fr (.str (btext ks pss)), .fr (.lst (.str (ktext ks) :: pss.map fun x => .str (ptext x))), .un, .un, .fr (.str (ptext x))], by simp, ?_, rfl⟩
        have c := call_plain (F := F_poly_in) (es := [.var 4]) (ds := [.str (ptext x)]) (e := [.fr (.str (btext ks pss)), .fr (.lst (.str (ktext ks) :: pss.map fun x => .str (ptext x))), .un, .un, .fr (.str (ptext x))]) (by decide) rfl (pin_ok (gp x hx).1 (gp x hx).2.1 (gp x hx).2.2)
        simp [c, pd]
  have e5 : ∀ e : Vi.Env, e = [.fr (.str (btext ks pss)), .fr (.lst (.str (ktext ks) :: pss.map fun x => .str (ptext x))), .un, .un, .un] → unwipe e e [4] = e := fun e h => by subst h; rfl
  rw [e5 _ rfl] at lc
  have l4 : (pss.length : Int) = (ks.length : Int) - 1 := by omega
  have n1 := none_inp pss
  have k0 : 0 < ks.length := by omega
  simp [F_bent_in, fn_run, ir_bent_in, sp, kc, lc, getD, ixD, ixN, n1, frs_len, l4, k0]
end M
end
section
set_option maxRecDepth 100000
set_option maxHeartbeats 4000000
namespace M
open PySem Vi L2
theorem set_get : ∀ (e : Vi.Env) (i : Nat), setS e i (getS e i) = e
  | [], _ => rfl
  | _ :: _, 0 => rfl
  | s :: r, i + 1 => by
    show s :: setS r i (getS r i) = _
    rw [set_get r i]
theorem unw_self (e : Vi.Env) : ∀ own : List Nat, unwipe e e own = e
  | [] => rfl
  | i :: own => by
    show unwipe e (setS e i (getS e i)) own = e
    rw [set_get]
    exact unw_self e own
/-- a comprehension in a state that has its own slots unset -/
theorem ev_lcQ {α : Type} {own : List Nat} {tg : Tg} {src elt : E} {e : Vi.Env} {s : Vi.D} {ps : List α} (a b : α → Vi.D) (hs : ev src e = .ok s e) (hi : itemsD s = some (ps.map a)) (hw : wipeE e own = some e) (hl : ps.length ≤ 1000000)
    (h : ∀ x ∈ ps, ∃ e2, asgT tg (a x) e = some e2 ∧ ev elt e2 = .ok (b x) e2 ∧ wipeE e2 own = some e) : ev (.lc own tg src [] elt) e = .ok (.lst (ps.map b)) e := by
  have := ev_lcP (own := own) (tg := tg) (elt := elt) (a := a) (b := b) hs hi hw hl fun x hx => by
    obtain ⟨e2, h1, h2, h3⟩ := h x hx
    exact ⟨e2, e2, h1, h2, h3⟩
  rw [unw_self] at this
  exact this
/-- a list or a tuple -/
def cont (t : Bool) (xs : List Vi.D) : Vi.D := if t then .tup xs else .lst xs
@[simp] theorem it_cont (t : Bool) (xs : List Vi.D) : itemsD (cont t xs) = some xs := by cases t <;> rfl
@[simp] theorem len_cont (t : Bool) (xs : List Vi.D) : biD .len [cont t xs] = some (.int xs.length) := by cases t <;> rfl
@[simp] theorem lst_cont (t : Bool) (xs : List Vi.D) : biD .list [cont t xs] = some (.lst xs) := by cases t <;> rfl
@[simp] theorem isl_cont (t : Bool) (xs : List Vi.D) : isDs (cont t xs) ["list", "tuple"] = some true := by cases t <;> rfl
def pc (t : Bool) (ps : Ps) : Vi.D := cont t (frs ps)
theorem ptext_okc {ps : Ps} (t : Bool) (h : Gds ps) (hl : ps.length ≤ 10) : F_poly_text [pc t ps] = .ok (.str (ptext ps)) [] := by
  by_cases hz : ps = []
  · subst hz
    simp [F_poly_text, fn_run, ir_poly_text, frs, ptext, pc]
  · have hne : ¬ ((frs ps).length : Int) = 0 := by
      rw [frs_map]
      have := List.length_pos_iff.mpr hz
      omega
    have hb : (((frs ps).length : Int) == 0) = false := beq_eq_false_iff_ne.mpr hne
    have l := ev_lcQ (own := [1]) (tg := .nm 1) (src := .var 0) (elt := .call "fraction_text" F_fraction_text [.var 1]) (e := [.fr (pc t ps), .un]) (s := pc t ps) (ps := ps) (fun x => fr x.1 x.2) (fun x => .str (ftext x.1 x.2)) (by simp) (by simp [pc, frs]) rfl (by omega) fun x hx => by
      have c := call_plain (F := F_fraction_text) (es := [.var 1]) (ds := [fr x.1 x.2]) (e := [.fr (pc t ps), .fr (fr x.1 x.2)]) (by decide) rfl (ft_eq (h x hx).1 (h x hx).2.1).1
      exact ⟨[.fr (pc t ps), .fr (fr x.1 x.2)], by simp, by simp [c], rfl⟩
    have e1 : ps.map (fun x => Vi.D.str (ftext x.1 x.2)) = (txs ps).map .str := by simp [txs]
    rw [e1] at l
    have j := mth_join (l := txs ps) (s := Str.ofString ",") (by
      have := sum_le ps h
      have e : (txs ps).length = ps.length := by simp [txs]
      rw [e, one_signs.2.2.1]; omega)
    have lp : biD .len [pc t ps] = some (.int (frs ps).length) := len_cont t _
    simp [F_poly_text, fn_run, ir_poly_text, hb, l, j, ptext, hz, lp]
/-- the law's own -/
theorem lfs_ok {ps : Ps} (t : Bool) (h : Gds ps) (hl : ps.length ≤ 10) : F__law_fractions [pc t ps] = .ok (.str (Txt.join "," (txs ps))) [] := by
  have l := ev_lcQ (own := [1]) (tg := .nm 1) (src := .var 0) (elt := .call "_law_fraction" F__law_fraction [.var 1]) (e := [.fr (pc t ps), .un]) (s := pc t ps) (ps := ps) (fun x => fr x.1 x.2) (fun x => .str (ftext x.1 x.2)) (by simp) (by simp [pc, frs]) rfl (by omega) fun x hx => by
      have c := call_plain (F := F__law_fraction) (es := [.var 1]) (ds := [fr x.1 x.2]) (e := [.fr (pc t ps), .fr (fr x.1 x.2)]) (by decide) rfl (ft_eq (h x hx).1 (h x hx).2.1).2
      exact ⟨[.fr (pc t ps), .fr (fr x.1 x.2)], by simp, by simp [c], rfl⟩
  have e1 : ps.map (fun x => Vi.D.str (ftext x.1 x.2)) = (txs ps).map .str := by simp [txs]
  rw [e1] at l
  have j := mth_join (l := txs ps) (s := Str.ofString ",") (by
      have := sum_le ps h
      have e : (txs ps).length = ps.length := by simp [txs]
      rw [e, one_signs.2.2.1]; omega)
  simp [F__law_fractions, fn_run, ir__law_fractions, l, j]
/-- the things -/
inductive Th where
  | poly (ps : Ps) | stretch (x y : Int × Int) | bent (ks : Ps) (pss : List Ps)
def Th.sort : Th → Str
  | .poly _ => "poly"
  | .stretch _ _ => "stretch"
  | .bent _ _ => "bent"
def Th.d (t : Bool) : Th → Vi.D
  | .poly ps => pc t ps
  | .stretch x y => .tup [fr x.1 x.2, fr y.1 y.2]
  | .bent ks pss => .tup [pc t ks, cont t (pss.map (pc t))]
def Th.text : Th → Str
  | .poly ps => ptext ps
  | .stretch x y => stext [x, y]
  | .bent ks pss => btext ks pss
def Th.ok : Th → Prop
  | .poly ps => GP ps
  | .stretch x y => Gds [x, y] ∧ Rise [x, y]
  | .bent ks pss => GB ks pss
theorem ne_sorts : ((Str.ofString "stretch") == "poly") = false ∧ ((Str.ofString "bent") == "poly") = false ∧ ((Str.ofString "bent") == "stretch") = false := by decide +kernel
theorem str_lst (l : List Str) : (l.map Vi.D.str) = l.map fun x => .str x := rfl
theorem wb_ok {x : Th} (t : Bool) (h : x.ok) : F_written_by [.str x.sort, x.d t] = .ok (.str x.text) [] := by
  obtain ⟨n1, n2, n3⟩ := ne_sorts
  cases x with
  | poly ps =>
    have c : ∀ e, callF F_poly_text [.var 1] [pc t ps] e = .ok (.str (ptext ps)) e := fun e => call_plain (by decide) rfl (ptext_okc t h.1 (by have := h.2.1; omega))
    simp [F_written_by, fn_run, ir_written_by, Th.sort, Th.d, Th.text, c]
  | stretch x y =>
    have l := ev_lcQ (own := [2]) (tg := .nm 2) (src := .var 1) (elt := .call "fraction_text" F_fraction_text [.var 2]) (e := [.fr (.str "stretch"), .fr (.tup [fr x.1 x.2, fr y.1 y.2]), .un, .un]) (s := .tup [fr x.1 x.2, fr y.1 y.2]) (ps := [x, y]) (fun x => fr x.1 x.2) (fun x => .str (ftext x.1 x.2)) (by simp) (by simp [itemsD]) rfl (by simp) fun z hz => by
      have c := call_plain (F := F_fraction_text) (es := [.var 2]) (ds := [fr z.1 z.2]) (e := [.fr (.str "stretch"), .fr (.tup [fr x.1 x.2, fr y.1 y.2]), .fr (fr z.1 z.2), .un]) (by decide) rfl (ft_eq (h.1 z hz).1 (h.1 z hz).2.1).1
      exact ⟨[.fr (.str "stretch"), .fr (.tup [fr x.1 x.2, fr y.1 y.2]), .fr (fr z.1 z.2), .un], by simp, by simp [c], rfl⟩
    have e1 : [x, y].map (fun x => Vi.D.str (ftext x.1 x.2)) = (txs [x, y]).map .str := by simp [txs]
    rw [e1] at l
    have j := mth_join (l := txs [x, y]) (s := Str.ofString ":") (by
      have := sum_le [x, y] h.1
      have e : (txs [x, y]).length = 2 := by simp [txs]
      rw [e, one_signs.2.2.2.2.2.1]; simp at this; omega)
    simp [F_written_by, fn_run, ir_written_by, Th.sort, Th.d, Th.text, n1, l, j, stext]
  | bent ks pss =>
    obtain ⟨g, l1, l2, hr, gp, l3⟩ := h
    have hx : ∀ e : Nat, getD (Th.d t (.bent ks pss)) (.int 0) = some (pc t ks) ∧ getD (Th.d t (.bent ks pss)) (.int 1) = some (cont t (pss.map (pc t))) := fun e => by simp [Th.d, getD, ixD, ixN]
    obtain ⟨x0, x1⟩ := hx 0
    have l := ev_lcQ (own := [2]) (tg := .nm 2) (src := .ix (.var 1) (.int 0)) (elt := .call "fraction_text" F_fraction_text [.var 2]) (e := [.fr (.str "bent"), .fr (Th.d t (.bent ks pss)), .un, .un]) (s := pc t ks) (ps := ks) (fun x => fr x.1 x.2) (fun x => .str (ftext x.1 x.2)) (by simp [x0]) (by simp [pc, frs]) rfl (by omega) fun z hz => by
      have c := call_plain (F := F_fraction_text) (es := [.var 2]) (ds := [fr z.1 z.2]) (e := [.fr (.str "bent"), .fr (Th.d t (.bent ks pss)), .fr (fr z.1 z.2), .un]) (by decide) rfl (ft_eq (g z hz).1 (g z hz).2.1).1
      exact ⟨[.fr (.str "bent"), .fr (Th.d t (.bent ks pss)), .fr (fr z.1 z.2), .un], by simp, by simp [c], rfl⟩
    have e1 : ks.map (fun x => Vi.D.str (ftext x.1 x.2)) = (txs ks).map .str := by simp [txs]
    rw [e1] at l
    have j := mth_join (l := txs ks) (s := Str.ofString ",") (by
      have := sum_le ks g
      rw [txs_len, one_signs.2.2.1]; omega)
    have q := ev_lcQ (own := [3]) (tg := .nm 3) (src := .ix (.var 1) (.int 1)) (elt := .call "poly_text" F_poly_text [.var 3]) (e := [.fr (.str "bent"), .fr (Th.d t (.bent ks pss)), .un, .un]) (s := cont t (pss.map (pc t))) (ps := pss) (pc t) (fun x => .str (ptext x)) (by simp [x1]) (by simp) rfl (by omega) fun z hz => by
      have c := call_plain (F := F_poly_text) (es := [.var 3]) (ds := [pc t z]) (e := [.fr (.str "bent"), .fr (Th.d t (.bent ks pss)), .un, .fr (pc t z)]) (by decide) rfl (ptext_okc t (gp z hz).1 (by have := (gp z hz).2.1; omega))
      exact ⟨[.fr (.str "bent"), .fr (Th.d t (.bent ks pss)), .un, .fr (pc t z)], by simp, by simp [c], rfl⟩
    have j2 := mth_join (l := ktext ks :: pss.map ptext) (s := Str.ofString ";") (by
      have h2 := pts_len pss gp
      have h3 : (ktext ks).length ≤ 14 * ks.length := jl_le g one_signs.2.2.1
      rw [one_signs.2.2.2.2.2.2.2.2]
      simp only [List.map_cons, List.sum_cons, List.length_cons, List.length_map] at h2 ⊢
      omega)
    have e3 : (ktext ks :: pss.map ptext).map Vi.D.str = .str (ktext ks) :: pss.map fun x => .str (ptext x) := by rw [List.map_cons, List.map_map]; rfl
    rw [e3] at j2
    have lk : lenOk (1 + pss.length) = true := lenOk_of (by omega)
    simp [F_written_by, fn_run, ir_written_by, Th.sort, Th.text, n2, n3, l, j, q]
    have e4 : Txt.join (Str.ofString ",") (txs ks) = ktext ks := rfl
    simp [e4, lk, j2, btext]
end M
end
section
set_option maxRecDepth 100000
set_option maxHeartbeats 4000000
namespace M
open PySem Vi L2
theorem lw_poly (R : Fn) {ps : Ps} (t : Bool) (h : GP ps) : mkFn 3 [false, false] (ir__law_written R) [.str "poly", pc t ps] = .ok (.str (ptext ps)) [] := by
  have lp : biD .len [pc t ps] = some (.int ps.length) := by rw [← frs_len ps]; exact len_cont t _
  have c : ∀ e, callF F__law_fractions [.var 1] [pc t ps] e = .ok (.str (Txt.join "," (txs ps))) e := fun e => call_plain (by decide) rfl (lfs_ok t h.1 (by have := h.2.1; omega))
  by_cases hz : ps = []
  · subst hz
    simp [fn_run, ir__law_written, lp, ptext]
  · have : 0 < (ps.length : Int) := by have := List.length_pos_iff.mpr hz; omega
    have k : 0 < ps.length := List.length_pos_iff.mpr hz
    simp [fn_run, ir__law_written, lp, ptext, hz, c, k]
theorem lw_ok {x : Th} (h : x.ok) : F__law_written [.str x.sort, x.d false] = .ok (.str x.text) [] := by
  obtain ⟨n1, n2, n3⟩ := ne_sorts
  cases x with
  | poly ps => exact lw_poly _ false h
  | stretch x y =>
    have gx := h.1 x (by simp)
    have gy := h.1 y (by simp)
    have l1 := ft_len gx.1 gx.2.1
    have l2 := ft_len gy.1 gy.2.1
    have c1 : ∀ e, callF F__law_fraction [.ix (.var 1) (.int 0)] [fr x.1 x.2] e = .ok (.str (ftext x.1 x.2)) e := fun e => call_plain (by decide) rfl (ft_eq gx.1 gx.2.1).2
    have c2 : ∀ e, callF F__law_fraction [.ix (.var 1) (.int 1)] [fr y.1 y.2] e = .ok (.str (ftext y.1 y.2)) e := fun e => call_plain (by decide) rfl (ft_eq gy.1 gy.2.1).2
    have sl : (Str.ofString ":").length = 1 := one_signs.2.2.2.2.2.1
    have k1 : lenOk ((ftext x.1 x.2).length + (Str.ofString ":").length) = true := lenOk_of (by rw [sl]; omega)
    have k2 : lenOk ((ftext x.1 x.2 ++ Str.ofString ":").length + (ftext y.1 y.2).length) = true := lenOk_of (by
      rw [slen, sl]; omega)
    have e : stext [x, y] = ftext x.1 x.2 ++ Str.ofString ":" ++ ftext y.1 y.2 := by
      unfold stext txs
      rw [TL.join_eq]; rfl
    simp [F__law_written, fn_run, ir__law_written, Th.sort, Th.d, Th.text, n1, getD, ixD, ixN, c1, c2, k1, k2, e]
  | bent ks pss =>
    obtain ⟨g, l1, l2, hr, gp, l3⟩ := h
    have x0 : getD (Th.d false (.bent ks pss)) (.int 0) = some (pc false ks) := by simp [Th.d, getD, ixD, ixN]
    have x1 : getD (Th.d false (.bent ks pss)) (.int 1) = some (cont false (pss.map (pc false))) := by simp [Th.d, getD, ixD, ixN]
    have c0 : ∀ e, callF F__law_fractions [.ix (.var 1) (.int 0)] [pc false ks] e = .ok (.str (ktext ks)) e := fun e => call_plain (by decide) rfl (lfs_ok false g (by omega))
    have q := ev_lcQ (own := [2]) (tg := .nm 2) (src := .ix (.var 1) (.int 1)) (elt := .call "_law_written" F__law_written_2 [.str "poly", .var 2]) (e := [.fr (.str "bent"), .fr (Th.d false (.bent ks pss)), .un]) (s := cont false (pss.map (pc false))) (ps := pss) (pc false) (fun x => .str (ptext x)) (by simp [x1]) (by simp) rfl (by omega) fun z hz => by
      have c := call_plain (F := F__law_written_2) (es := [.str "poly", .var 2]) (ds := [.str "poly", pc false z]) (e := [.fr (.str "bent"), .fr (Th.d false (.bent ks pss)), .fr (pc false z)]) (by decide) rfl (lw_poly _ false (gp z hz))
      exact ⟨[.fr (.str "bent"), .fr (Th.d false (.bent ks pss)), .fr (pc false z)], by simp, by simp [c], rfl⟩
    have j2 := mth_join (l := ktext ks :: pss.map ptext) (s := Str.ofString ";") (by
      have h2 := pts_len pss gp
      have h3 : (ktext ks).length ≤ 14 * ks.length := jl_le g one_signs.2.2.1
      rw [one_signs.2.2.2.2.2.2.2.2]
      simp only [List.map_cons, List.sum_cons, List.length_cons, List.length_map] at h2 ⊢
      omega)
    have e3 : (ktext ks :: pss.map ptext).map Vi.D.str = .str (ktext ks) :: pss.map fun x => .str (ptext x) := by rw [List.map_cons, List.map_map]; rfl
    rw [e3] at j2
    have lk : lenOk (1 + pss.length) = true := lenOk_of (by omega)
    simp [F__law_written, fn_run, ir__law_written, Th.sort, Th.text, n2, n3, x0, c0, q, lk, j2, btext]
/-- what is read -/
theorem read_ok {x : Th} (h : x.ok) : F_read [.str x.sort, .str x.text] = .ok (x.d false) [] := by
  obtain ⟨n1, n2, n3⟩ := ne_sorts
  cases x with
  | poly ps =>
    have c : ∀ e, callF F_poly_in [.var 1] [.str (ptext ps)] e = .ok (.lst (frs ps)) e := fun e => call_plain (by decide) rfl (pin_ok h.1 h.2.1 h.2.2)
    simp [F_read, fn_run, ir_read, Th.sort, Th.d, Th.text, c, pc, cont]
  | stretch x y =>
    have c : ∀ e, callF F_stretch_in [.var 1] [.str (stext [x, y])] e = .ok (.tup (frs [x, y])) e := fun e => call_plain (by decide) rfl (sin_ok h.1 rfl h.2)
    simp [F_read, fn_run, ir_read, Th.sort, Th.d, Th.text, c, n1, frs]
  | bent ks pss =>
    have c : ∀ e, callF F_bent_in [.var 1] [.str (btext ks pss)] e = .ok (.tup [.lst (frs ks), .lst (pss.map pd)]) e := fun e => call_plain (by decide) rfl (bin_ok h)
    have e : (pss.map (pc false)) = pss.map pd := rfl
    simp [F_read, fn_run, ir_read, Th.sort, Th.d, Th.text, c, n2, n3, pc, cont, e]
theorem nn_true (x : Th) (t : Bool) : cmpD .notN (x.d t) .non = some true := by cases x <;> cases t <;> rfl
theorem place_ok {x : Th} (h : x.ok) : F_place_in [.str x.sort, .str x.text] = .ok .non [] := by
  have c : ∀ e, callF F_read [.var 0, .var 1] [.str x.sort, .str x.text] e = .ok (x.d false) e := fun e => call_plain (by decide) rfl (read_ok h)
  have n := nn_true x false
  simp [F_place_in, fn_run, ir_place_in, c, n, -c_notN]
theorem rt_ok {x : Th} (h : x.ok) : F_read_thing [.str x.sort, .str x.text] = .ok (x.d false) [] := by
  have c : ∀ e, callF F_read [.var 0, .var 1] [.str x.sort, .str x.text] e = .ok (x.d false) e := fun e => call_plain (by decide) rfl (read_ok h)
  have c2 : ∀ e, callF F_place_in [.var 0, .var 1] [.str x.sort, .str x.text] e = .ok .non e := fun e => call_plain (by decide) rfl (place_ok h)
  simp [F_read_thing, fn_run, ir_read_thing, c, c2]
theorem sort_ok (x : Th) : F_is_sort [.str x.sort] = .ok (.bl true) [] := by
  have h : ∀ s : String, s = "poly" ∨ s = "stretch" ∨ s = "bent" → (match F_is_sort [.str (Str.ofString s)] with | .ok (.bl true) [] => true | _ => false) = true := by
    intro s hs
    rcases hs with rfl | rfl | rfl <;> decide +kernel
  have k : ∀ r : Res, (match r with | .ok (.bl true) [] => true | _ => false) = true → r = .ok (.bl true) [] := by
    intro r hr
    split at hr
    · rfl
    · cases hr
  cases x
  · exact k _ (h "poly" (.inl rfl))
  · exact k _ (h "stretch" (.inr (.inl rfl)))
  · exact k _ (h "bent" (.inr (.inr rfl)))
theorem ct_ok (x : Th) (s : Str) : F_check_text [.str x.sort, .str s] = .ok .non [] := by
  have c : ∀ e, callF F_is_sort [.var 0] [.str x.sort] e = .ok (.bl true) e := fun e => call_plain (by decide) rfl (sort_ok x)
  have i : isDs (.str s) ["str"] = some true := rfl
  simp [F_check_text, fn_run, ir_check_text, c, i]
theorem to_ok {x : Th} (h : x.ok) : F_thing_of [.str x.sort, .str x.text] = .ok (x.d false) [] := by
  have c : ∀ e, callF F_check_text [.var 0, .var 1] [.str x.sort, .str x.text] e = .ok .non e := fun e => call_plain (by decide) rfl (ct_ok x x.text)
  have c2 : ∀ e, callF F_read_thing [.var 0, .var 1] [.str x.sort, .str x.text] e = .ok (x.d false) e := fun e => call_plain (by decide) rfl (rt_ok h)
  simp [F_thing_of, fn_run, ir_thing_of, c, c2]
theorem wp_ok {x : Th} (h : x.ok) : F_wrong_place [.str x.sort, .str x.text] = .ok .non [] := by
  have c : ∀ e, callF F_check_text [.var 0, .var 1] [.str x.sort, .str x.text] e = .ok .non e := fun e => call_plain (by decide) rfl (ct_ok x x.text)
  have c2 : ∀ e, callF F_place_in [.var 0, .var 1] [.str x.sort, .str x.text] e = .ok .non e := fun e => call_plain (by decide) rfl (place_ok h)
  simp [F_wrong_place, fn_run, ir_wrong_place, c, c2]
end M
end
section
set_option maxRecDepth 100000
set_option maxHeartbeats 4000000
namespace M
open PySem Vi L2
theorem isint_ok (i : Int) : F_is_integer [.int i] = .ok (.bl true) [] := by
  have h1 : isDs (.int i) ["int"] = some true := rfl
  have h2 : isDs (.int i) ["bool"] = some false := rfl
  simp [F_is_integer, fn_run, ir_is_integer, h1, h2]
theorem isfr_ok {p q : Int} (h : Gd p q) : F_is_fraction_of [fr p q] = .ok (.bl true) [] := by
  obtain ⟨hp, hq, hg⟩ := h
  have i1 : isDs (fr p q) ["tuple"] = some true := rfl
  have ea : (if p < 0 then -p else p) = (p.natAbs : Int) := by split <;> omega
  have eq : q = (q.natAbs : Int) := by have := hq.1; omega
  have dv := div_ok (a := p.natAbs) (b := q.natAbs) (Nat.lt_of_le_of_lt (show q.natAbs ≤ 99 by have := hq.2; have := hq.1; omega) (by decide))
  rw [← eq] at dv
  have dv : F_divisor [.int (p.natAbs : Int), .int q] = .ok (.int 1) [] := by
    rw [dv]; exact congrArg (fun z : Nat => Res.ok (.int (z : Int)) []) hg
  have c3 : ∀ e, callF F_divisor [.bi .abs [.ix (.var 0) (.int 0)], .ix (.var 0) (.int 1)] [.int (p.natAbs : Int), .int q] e = .ok (.int 1) e := fun e => call_plain (by decide) rfl dv
  have c1 : ∀ e, callF F_is_integer [.ix (.var 0) (.int 0)] [.int p] e = .ok (.bl true) e := fun e => call_plain (by decide) rfl (isint_ok p)
  have c2 : ∀ e, callF F_is_integer [.ix (.var 0) (.int 1)] [.int q] e = .ok (.bl true) e := fun e => call_plain (by decide) rfl (isint_ok q)
  have g0 : getD (fr p q) (.int 0) = some (.int p) := by simp [fr, getD, ixD, ixN]
  have g1 : getD (fr p q) (.int 1) = some (.int q) := by simp [fr, getD, ixD, ixN]
  have l : biD .len [fr p q] = some (.int 2) := rfl
  have h1 := hq.1
  simp [F_is_fraction_of, fn_run, ir_is_fraction_of, i1, g0, g1, c1, c2, ea, c3, l, h1]
theorem issm_ok {p q : Int} (h : Gd p q) : F_is_small [fr p q] = .ok (.bl true) [] := by
  have c : ∀ e, callF F_is_fraction_of [.var 0] [fr p q] e = .ok (.bl true) e := fun e => call_plain (by decide) rfl (isfr_ok h)
  have g0 : getD (fr p q) (.int 0) = some (.int p) := by simp [fr, getD, ixD, ixN]
  have g1 : getD (fr p q) (.int 1) = some (.int q) := by simp [fr, getD, ixD, ixN]
  have h1 : (if p < 0 then -p else p) ≤ 999 := by have := h.1.1; have := h.1.2; split <;> omega
  have h2 := h.2.1.2
  simp [F_is_small, fn_run, ir_is_small, c, g0, g1, h1, h2]
theorem all_true {α : Type} (l : List α) : (l.map fun _ => true).all id = true := by
  rw [List.all_eq_true]; intro b hb
  obtain ⟨_, _, rfl⟩ := List.mem_map.mp hb; rfl
theorem bi_all_true {α : Type} (l : List α) : biD .all [.lst (l.map fun _ => Vi.D.bl true)] = some (.bl true) := by
  rw [bx_all, blsD_map (fun _ => true)]
  show some (Vi.D.bl ((l.map fun _ => true).all id)) = _
  rw [all_true]
theorem islist_ok (t : Bool) (xs : List Vi.D) : F_is_list [cont t xs] = .ok (.bl true) [] := by
  simp [F_is_list, fn_run, ir_is_list]
theorem arefr_ok (t : Bool) {ps : Ps} (h : Gds ps) (hl : ps.length ≤ 10) : F_are_fractions [pc t ps] = .ok (.bl true) [] := by
  have c : ∀ e, callF F_is_list [.var 0] [pc t ps] e = .ok (.bl true) e := fun e => call_plain (by decide) rfl (islist_ok t _)
  have l := ev_lcQ (own := [1]) (tg := .nm 1) (src := .var 0) (elt := .call "is_fraction_of" F_is_fraction_of [.var 1]) (e := [.fr (pc t ps), .un]) (s := pc t ps) (ps := ps) (fun x => fr x.1 x.2) (fun x => .bl true) (by simp) (by simp [pc, frs]) rfl (by omega) fun x hx => by
      have c := call_plain (F := F_is_fraction_of) (es := [.var 1]) (ds := [fr x.1 x.2]) (e := [.fr (pc t ps), .fr (fr x.1 x.2)]) (by decide) rfl (isfr_ok (h x hx))
      exact ⟨[.fr (pc t ps), .fr (fr x.1 x.2)], by simp, by simp [c], rfl⟩
  simp [F_are_fractions, fn_run, ir_are_fractions, c, l, bi_all_true, -bx_all, -List.map_const']
theorem aresm_ok (t : Bool) {ps : Ps} (h : Gds ps) (hl : ps.length ≤ 10) : F_are_small [pc t ps] = .ok (.bl true) [] := by
  have c : ∀ e, callF F_is_list [.var 0] [pc t ps] e = .ok (.bl true) e := fun e => call_plain (by decide) rfl (islist_ok t _)
  have l := ev_lcQ (own := [1]) (tg := .nm 1) (src := .var 0) (elt := .call "is_small" F_is_small [.var 1]) (e := [.fr (pc t ps), .un]) (s := pc t ps) (ps := ps) (fun x => fr x.1 x.2) (fun x => .bl true) (by simp) (by simp [pc, frs]) rfl (by omega) fun x hx => by
      have c := call_plain (F := F_is_small) (es := [.var 1]) (ds := [fr x.1 x.2]) (e := [.fr (pc t ps), .fr (fr x.1 x.2)]) (by decide) rfl (issm_ok (h x hx))
      exact ⟨[.fr (pc t ps), .fr (fr x.1 x.2)], by simp, by simp [c], rfl⟩
  simp [F_are_small, fn_run, ir_are_small, c, l, bi_all_true, -bx_all, -List.map_const']
theorem ispoly_ok (t : Bool) {ps : Ps} (h : GP ps) : F_is_poly_of [pc t ps] = .ok (.bl true) [] := by
  have c : ∀ e, callF F_are_fractions [.var 0] [pc t ps] e = .ok (.bl true) e := fun e => call_plain (by decide) rfl (arefr_ok t h.1 (by have := h.2.1; omega))
  have lp : biD .len [pc t ps] = some (.int ps.length) := by rw [← frs_len ps]; exact len_cont t _
  have : (ps.length : Int) ≤ 5 := by have := h.2.1; omega
  simp [F_is_poly_of, fn_run, ir_is_poly_of, c, lp, this]
end M
end
section
set_option maxRecDepth 100000
set_option maxHeartbeats 4000000
namespace M
open PySem Vi L2
mutual
theorem eqv_refl : ∀ x : Vi.D, x.pure = true → D.eqv x x = true
  | .non, _ => by simp [D.eqv]
  | .bl b, _ => by simp [D.eqv]
  | .int i, _ => by simp [D.eqv]
  | .str s, _ => by simp [D.eqv]
  | .lst xs, h => by rw [D.eqv]; exact eqvs_refl xs (by simpa [D.pure] using h)
  | .tup xs, h => by rw [D.eqv]; exact eqvs_refl xs (by simpa [D.pure] using h)
  | .dic _ _, h => by simp [D.pure] at h
  | .fn _, h => by simp [D.pure] at h
  | .clo _ _, h => by simp [D.pure] at h
  | .ins _ _ _, h => by simp [D.pure] at h
  | .scr _, h => by simp [D.pure] at h
theorem eqvs_refl : ∀ xs : List Vi.D, D.pures xs = true → D.eqvs xs xs = true
  | [], _ => by simp [D.eqvs]
  | x :: xs, h => by
    simp only [D.pures, Bool.and_eq_true] at h
    rw [D.eqvs, eqv_refl x h.1, eqvs_refl xs h.2]; rfl
end
theorem eq_refl {x : Vi.D} (h : x.flat = true) (h1 : ∀ s, x ≠ .str s) (h2 : ∀ i, x ≠ .int i) : eqD x x = some true := by
  have p : x.pure = true := by simp only [D.flat, Bool.and_eq_true] at h; exact h.1
  have e : eqD x x = if x.flat && x.flat then some (D.eqv x x) else none := by
    cases x <;> first
      | rfl
      | exact absurd rfl (h1 _)
      | exact absurd rfl (h2 _)
  rw [e, h, eqv_refl x p]; rfl
theorem last_frs {ps : Ps} (hz : ps ≠ []) {x : Int × Int} (hx : ps.getLast? = some x) : getD (.lst (frs ps)) (.int (-1)) = some (fr x.1 x.2) := by
  have hp := List.length_pos_iff.mpr hz
  show ((ixN (frs ps).length (-1)).bind fun j => (frs ps)[j]?) = _
  have : ixN (frs ps).length (-1) = some (ps.length - 1) := by
    unfold ixN
    rw [frs_map, if_neg (by omega), if_pos (by omega)]
    congr 1; omega
  rw [this]
  show (frs ps)[ps.length - 1]? = _
  unfold frs
  rw [List.getElem?_map, ← List.getLast?_eq_getElem?, hx]; rfl
theorem nought_eq (x : Int × Int) : cmpD .eq (fr x.1 x.2) (.tup [.int 0, .int 1]) = some (decide (x = (0, 1))) := by
  have f := fr_flat x.1 x.2
  have f2 : (fr x.1 x.2).flat = true := by
    simp only [D.flat, f.1, f.2, Bool.true_and]; rfl
  show (if ((fr x.1 x.2).flat && (Vi.D.tup [.int 0, .int 1]).flat) = true then some (D.eqv (fr x.1 x.2) (.tup [.int 0, .int 1])) else none) = _
  rw [f2, if_pos (by decide)]
  congr 1
  simp only [fr, D.eqv, D.eqvs, Bool.and_true]
  rw [Bool.eq_iff_iff]
  simp only [Bool.and_eq_true, beq_iff_eq, decide_eq_true_eq, Prod.ext_iff]
theorem ne_empty (ps : Ps) : cmpD .ne (.lst (frs ps)) (.lst []) = some (!ps.isEmpty) := by
  show (eqD (.lst (frs ps)) (.lst [])).map (fun b => !b) = _
  have e : eqD (.lst (frs ps)) (.lst []) = if (Vi.D.lst (frs ps)).flat && (Vi.D.lst []).flat then some (D.eqv (.lst (frs ps)) (.lst [])) else none := rfl
  rw [e, frs_flat, if_pos (by decide)]
  cases ps with
  | nil => simp [frs, D.eqv, D.eqvs]
  | cons x r => simp [frs, D.eqv, D.eqvs]
theorem told_ok (t : Bool) {ps : Ps} (h : NoTail ps) (hl : ps.length ≤ 1000) : F_told_of [pc t ps] = .ok (.lst (frs ps)) [] := by
  have l1 : biD .list [pc t ps] = some (.lst (frs ps)) := lst_cont t _
  have w : ex1 (.wh (.and (.pcmp .ne 1 (.lst [])) (.cmp .eq (.pix 1 (.neg (.int 1))) (.gl "NOUGHT" (.tup [.int 0, .int 1])))) [.ex (.pop 1)]) [.fr (pc t ps), .ow (.lst (frs ps))] = .nx [.fr (pc t ps), .ow (.lst (frs ps))] := by
    refine wh_fuel (n := 1) ?_ (by simp) (fuel_le (k := 1) (by decide) (by decide))
    unfold whN
    by_cases hz : ps = []
    · subst hz
      simp [ne_empty, -c_nei]
    · obtain ⟨x, hx⟩ : ∃ x, ps.getLast? = some x := ⟨ps.getLast hz, List.getLast?_eq_some_getLast hz⟩
      have ee : ps.isEmpty = false := by cases ps <;> first | rfl | exact absurd rfl hz
      have g := last_frs hz hx
      have cn : cmpD .eq (fr x.1 x.2) (.tup [.int 0, .int 1]) = some false := by rw [nought_eq]; simp [h x hx]
      simp [ne_empty, ee, g, cn]
  have fd : freshD (.lst (frs ps)) = true := rfl
  simp [F_told_of, fn_run, ir_told_of, l1, w, fd]
end M
namespace M
open PySem Vi L2
theorem istold_ok (t : Bool) {ps : Ps} (h : GP ps) : F_is_told_poly [pc t ps] = .ok (.bl true) [] := by
  have hl := h.2.1
  have c1 : ∀ e, callF F_are_small [.var 0] [pc t ps] e = .ok (.bl true) e := fun e => call_plain (by decide) rfl (aresm_ok t h.1 (by omega))
  have c2 : ∀ e, callF F_told_of [.var 0] [pc t ps] e = .ok (.lst (frs ps)) e := fun e => call_plain (by decide) rfl (told_ok t h.2.2 (by omega))
  have lp : biD .len [pc t ps] = some (.int ps.length) := by rw [← frs_len ps]; exact len_cont t _
  have l1 : biD .list [pc t ps] = some (.lst (frs ps)) := lst_cont t _
  have h5 : (ps.length : Int) ≤ 5 := by omega
  have e : cmpD .eq (.lst (frs ps)) (.lst (frs ps)) = some true := eq_refl (frs_flat ps) (fun s z => by cases z) (fun i z => by cases z)
  simp [F_is_told_poly, fn_run, ir_is_told_poly, c1, c2, lp, l1, h5, e]
theorem isst_ok {x y : Int × Int} (h : Gds [x, y]) (hr : Rise [x, y]) : F_is_stretch_of [.tup [fr x.1 x.2, fr y.1 y.2]] = .ok (.bl true) [] := by
  have gx := h x (by simp)
  have gy := h y (by simp)
  have i1 : isDs (.tup [fr x.1 x.2, fr y.1 y.2]) ["tuple"] = some true := rfl
  have l := ev_lcQ (own := [1]) (tg := .nm 1) (src := .var 0) (elt := .call "is_small" F_is_small [.var 1]) (e := [.fr (.tup [fr x.1 x.2, fr y.1 y.2]), .un]) (s := .tup [fr x.1 x.2, fr y.1 y.2]) (ps := [x, y]) (fun x => fr x.1 x.2) (fun x => .bl true) (by simp) (by simp [itemsD]) rfl (by simp) fun z hz => by
      have c := call_plain (F := F_is_small) (es := [.var 1]) (ds := [fr z.1 z.2]) (e := [.fr (.tup [fr x.1 x.2, fr y.1 y.2]), .fr (fr z.1 z.2)]) (by decide) rfl (issm_ok (h z hz))
      exact ⟨[.fr (.tup [fr x.1 x.2, fr y.1 y.2]), .fr (fr z.1 z.2)], by simp, by simp [c], rfl⟩
  have b : bel x y = true := by
    have : (prs [x, y]).all (fun z => bel z.1 z.2) = true := hr
    simpa [prs] using this
  have bo := bel_ok gx gy
  rw [b] at bo
  have c : ∀ e, callF F_is_below [.ix (.var 0) (.int 0), .ix (.var 0) (.int 1)] [fr x.1 x.2, fr y.1 y.2] e = .ok (.bl true) e := fun e => call_plain (by decide) rfl bo
  have a := bi_all_true [x, y]
  simp only [List.map_cons, List.map_nil] at l a
  simp [F_is_stretch_of, fn_run, ir_is_stretch_of, i1, l, a, c, getD, ixD, ixN, -bx_all]
theorem cut_cont (t : Bool) (xs : List Vi.D) : cutD (cont t xs) (some 1) none = some (cont t xs.tail) := by
  cases t
  · show some (Vi.D.lst (cutL xs (some 1) none)) = _
    rw [cut_tail]; rfl
  · show some (Vi.D.tup (cutL xs (some 1) none)) = _
    rw [cut_tail]; rfl
theorem zip_cont (t : Bool) (xs ys : List Vi.D) : zipD [cont t xs, cont t ys] = some (zip2D xs ys) := by cases t <;> rfl
theorem isknots_ok (t : Bool) {ks : Ps} (h : Gds ks) (l1 : 2 ≤ ks.length) (l2 : ks.length ≤ 6) (hr : Rise ks) : F_are_knots_of [pc t ks] = .ok (.bl true) [] := by
  have c1 : ∀ e, callF F_are_small [.var 0] [pc t ks] e = .ok (.bl true) e := fun e => call_plain (by decide) rfl (aresm_ok t h (by omega))
  have lp : biD .len [pc t ks] = some (.int ks.length) := by rw [← frs_len ks]; exact len_cont t _
  have e4 : cutD (pc t ks) (some 1) none = some (pc t ks.tail) := by
    show cutD (cont t (frs ks)) (some 1) none = some (cont t (frs ks.tail))
    rw [cut_cont]
    unfold frs
    rw [List.map_tail]
  have e5 : zipD [pc t ks, pc t ks.tail] = some ((prs ks).map fun z => .tup [fr z.1.1 z.1.2, fr z.2.1 z.2.2]) := by
    show zipD [cont t (frs ks), cont t (frs ks.tail)] = _
    rw [zip_cont, zip2_map]; rfl
  have lc2 := ev_lcQ (α := (Int × Int) × (Int × Int)) (own := [1, 2]) (tg := .tp [.nm 1, .nm 2]) (src := .zip [.var 0, .sl (.var 0) (.int 1) .non]) (elt := .call "is_below" F_is_below [.var 1, .var 2]) (e := [.fr (pc t ks), .un, .un])
      (s := .lst ((prs ks).map fun z => .tup [fr z.1.1 z.1.2, fr z.2.1 z.2.2])) (ps := prs ks) (fun z => .tup [fr z.1.1 z.1.2, fr z.2.1 z.2.2]) (fun z => .bl (bel z.1 z.2)) (by simp [e4, partE, e5]) (by simp [itemsD]) rfl (by have := prs_len ks; omega) fun z hz => by
        obtain ⟨g1, g2⟩ := prs_mem h z hz
        have c := call_plain (F := F_is_below) (es := [.var 1, .var 2]) (ds := [fr z.1.1 z.1.2, fr z.2.1 z.2.2]) (e := [.fr (pc t ks), .fr (fr z.1.1 z.1.2), .fr (fr z.2.1 z.2.2)]) (by decide) rfl (bel_ok g1 g2)
        exact ⟨[.fr (pc t ks), .fr (fr z.1.1 z.1.2), .fr (fr z.2.1 z.2.2)], by simp, by simp [c], rfl⟩
  have al : biD .all [.lst ((prs ks).map fun z => Vi.D.bl (bel z.1 z.2))] = some (.bl true) := by
    rw [bx_all, blsD_map]
    show some (Vi.D.bl (((prs ks).map fun z => bel z.1 z.2).all id)) = _
    rw [List.all_map]
    have : (prs ks).all (id ∘ fun z => bel z.1 z.2) = true := hr
    rw [this]
  have h1 : (2 : Int) ≤ ks.length := by omega
  have h2 : (ks.length : Int) ≤ 6 := by omega
  simp [F_are_knots_of, fn_run, ir_are_knots_of, c1, lp, h1, h2, lc2, al, -bx_all]
theorem isbent_ok (t : Bool) {ks : Ps} {pss : List Ps} (h : GB ks pss) : F_is_bent_of [Th.d t (.bent ks pss)] = .ok (.bl true) [] := by
  obtain ⟨g, l1, l2, hr, gp, l3⟩ := h
  have i1 : isDs (Th.d t (.bent ks pss)) ["tuple"] = some true := rfl
  have ll : biD .len [Th.d t (.bent ks pss)] = some (.int 2) := rfl
  have x0 : getD (Th.d t (.bent ks pss)) (.int 0) = some (pc t ks) := by simp [Th.d, getD, ixD, ixN]
  have x1 : getD (Th.d t (.bent ks pss)) (.int 1) = some (cont t (pss.map (pc t))) := by simp [Th.d, getD, ixD, ixN]
  have c1 : ∀ e, callF F_are_knots_of [.ix (.var 0) (.int 0)] [pc t ks] e = .ok (.bl true) e := fun e => call_plain (by decide) rfl (isknots_ok t g l1 l2 hr)
  have c2 : ∀ e, callF F_is_list [.ix (.var 0) (.int 1)] [cont t (pss.map (pc t))] e = .ok (.bl true) e := fun e => call_plain (by decide) rfl (islist_ok t _)
  have lp : biD .len [pc t ks] = some (.int ks.length) := by rw [← frs_len ks]; exact len_cont t _
  have q := ev_lcQ (own := [1]) (tg := .nm 1) (src := .ix (.var 0) (.int 1)) (elt := .call "is_poly_of" F_is_poly_of [.var 1]) (e := [.fr (Th.d t (.bent ks pss)), .un]) (s := cont t (pss.map (pc t))) (ps := pss) (pc t) (fun x => .bl true) (by simp [x1]) (by simp) rfl (by omega) fun z hz => by
      have c := call_plain (F := F_is_poly_of) (es := [.var 1]) (ds := [pc t z]) (e := [.fr (Th.d t (.bent ks pss)), .fr (pc t z)]) (by decide) rfl (ispoly_ok t (gp z hz))
      exact ⟨[.fr (Th.d t (.bent ks pss)), .fr (pc t z)], by simp, by simp [c], rfl⟩
  have l4 : (pss.length : Int) = (ks.length : Int) - 1 := by omega
  simp [F_is_bent_of, fn_run, ir_is_bent_of, i1, ll, x0, x1, c1, c2, lp, q, l4, bi_all_true, -bx_all]
theorem isthing_ok (t : Bool) {x : Th} (h : x.ok) : F_is_thing_of [.str x.sort, x.d t] = .ok (.bl true) [] := by
  obtain ⟨n1, n2, n3⟩ := ne_sorts
  cases x with
  | poly ps =>
    have c : ∀ e, callF F_is_told_poly [.var 1] [pc t ps] e = .ok (.bl true) e := fun e => call_plain (by decide) rfl (istold_ok t h)
    simp [F_is_thing_of, fn_run, ir_is_thing_of, Th.sort, Th.d, c]
  | stretch x y =>
    have c : ∀ e, callF F_is_stretch_of [.var 1] [.tup [fr x.1 x.2, fr y.1 y.2]] e = .ok (.bl true) e := fun e => call_plain (by decide) rfl (isst_ok h.1 h.2)
    simp [F_is_thing_of, fn_run, ir_is_thing_of, Th.sort, Th.d, c, n1]
  | bent ks pss =>
    have c : ∀ e, callF F_is_bent_of [.var 1] [Th.d t (.bent ks pss)] e = .ok (.bl true) e := fun e => call_plain (by decide) rfl (isbent_ok t h)
    obtain ⟨g, l1, l2, hr, gp, l3⟩ := h
    have x1 : getD (Th.d t (.bent ks pss)) (.int 1) = some (cont t (pss.map (pc t))) := by simp [Th.d, getD, ixD, ixN]
    have q := ev_lcQ (own := [2]) (tg := .nm 2) (src := .ix (.var 1) (.int 1)) (elt := .call "is_told_poly" F_is_told_poly [.var 2]) (e := [.fr (.str "bent"), .fr (Th.d t (.bent ks pss)), .un]) (s := cont t (pss.map (pc t))) (ps := pss) (pc t) (fun x => .bl true) (by simp [x1]) (by simp) rfl (by omega) fun z hz => by
      have c := call_plain (F := F_is_told_poly) (es := [.var 2]) (ds := [pc t z]) (e := [.fr (.str "bent"), .fr (Th.d t (.bent ks pss)), .fr (pc t z)]) (by decide) rfl (istold_ok t (gp z hz))
      exact ⟨[.fr (.str "bent"), .fr (Th.d t (.bent ks pss)), .fr (pc t z)], by simp, by simp [c], rfl⟩
    simp [F_is_thing_of, fn_run, ir_is_thing_of, Th.sort, c, n2, n3, q, bi_all_true, -bx_all]
theorem textof_ok (t : Bool) {x : Th} (h : x.ok) : F_text_of [.str x.sort, x.d t] = .ok (.str x.text) [] := by
  have c1 : ∀ e, callF F_is_sort [.var 0] [.str x.sort] e = .ok (.bl true) e := fun e => call_plain (by decide) rfl (sort_ok x)
  have c2 : ∀ e, callF F_is_thing_of [.var 0, .var 1] [.str x.sort, x.d t] e = .ok (.bl true) e := fun e => call_plain (by decide) rfl (isthing_ok t h)
  have c3 : ∀ e, callF F_written_by [.var 0, .var 1] [.str x.sort, x.d t] e = .ok (.str x.text) e := fun e => call_plain (by decide) rfl (wb_ok t h)
  simp [F_text_of, fn_run, ir_text_of, c1, c2, c3]
end M
end
section
set_option maxRecDepth 100000
set_option maxHeartbeats 4000000
namespace M
open PySem Vi L2
/-- a fraction in lowest terms is a small one -/
theorem frac_gd {p q : Int} (hp : Num p) (hq : Den q) : ∃ p' q', F__law_frac [.int p, .int q] = .ok (fr p' q') [] ∧ Gd p' q' := by
  obtain ⟨q1, q2⟩ := hq
  have eq : q = (q.natAbs : Int) := by omega
  have h := frac_nat (p := p) (q := q.natAbs) (by omega) (Nat.lt_of_le_of_lt (show q.natAbs ≤ 99 by omega) (by decide))
  rw [← eq] at h
  have hg : 0 < Int.gcd p q := Nat.gcd_pos_of_pos_right _ (by omega)
  have eg : Nat.gcd p.natAbs q.natAbs = Int.gcd p q := rfl
  rw [eg] at h
  refine ⟨_, _, h, ?_, ?_, Int.gcd_ediv_gcd_ediv_gcd hg⟩
  · have := Int.natAbs_ediv_le_natAbs p (Int.gcd p q)
    have h1 := hp.1; have h2 := hp.2
    constructor <;> omega
  · have h2 := Int.natAbs_ediv_le_natAbs q (Int.gcd p q)
    have hd : (Int.gcd p q : Int) ∣ q := Int.gcd_dvd_right ..
    have h3 : 1 ≤ q / (Int.gcd p q : Int) := by
      apply Int.le_ediv_of_mul_le (by omega)
      have := Int.le_of_dvd (by omega) hd
      omega
    constructor <;> omega
/-- what is drawn of a pot that a slot keeps -/
theorem small_ok {p : Vi.D} {m : Int} (hp : Pot p) (hm : m = 2 ∨ m = 9 ∨ m = 999) : ∃ a b p', F__law_small [p, .int m] = .ok (fr a b) [p'] ∧ Gd a b ∧ Pot p' := by
  obtain ⟨r, p1, e1, r0, r1, hp1⟩ := draw_ok (m := 2 * m + 1) hp (by omega) (by omega)
  obtain ⟨x, p2, e2, hx, hp2⟩ := pick_ok (xs := [.int 1, .int 1, .int 2, .int 3, .int 98]) hp1 (by simp) (by simp)
  obtain ⟨q, rfl, hq⟩ : ∃ q, x = .int q ∧ Den q := by
    simp only [List.mem_cons, List.not_mem_nil, or_false] at hx
    rcases hx with rfl | rfl | rfl | rfl | rfl <;> exact ⟨_, rfl, by decide, by decide⟩
  obtain ⟨a, b, e3, g⟩ := frac_gd (p := r - m) (q := q) ⟨by omega, by omega⟩ hq
  refine ⟨a, b, p2, ?_, g, hp2⟩
  have b1 : bitsOk 2 m = true := bits_small (by decide) (Nat.lt_of_le_of_lt (show _ ≤ 999 by omega) (by decide))
  have c1 := call_io1 (F := F__law_draw) (i := 0) (es := [.bin .add (.bin .mul (.int 2) (.var 1)) (.int 1)]) (x := .non) (ds := [.int (2 * m + 1)]) (e := [.ow p, .fr (.int m)]) (by decide) rfl rfl e1
  have c2 := call_io1 (F := F__law_pick) (i := 0) (es := [.lst [.int 1, .int 1, .int 2, .int 3, .int 98]]) (x := .non) (ds := [.lst [.int 1, .int 1, .int 2, .int 3, .int 98]]) (e := [.ow p1, .fr (.int m)]) (by decide) rfl rfl e2
  have c3 : ∀ e, callF F__law_frac [.bin .sub (.call "_law_draw" F__law_draw [.iov 0, .bin .add (.bin .mul (.int 2) (.var 1)) (.int 1)]) (.var 1), .call "_law_pick" F__law_pick [.iov 0, .lst [.int 1, .int 1, .int 2, .int 3, .int 98]]] [.int (r - m), .int q] e = .ok (fr a b) e := fun e => call_plain (by decide) rfl e3
  simp [F__law_small, fn_run, ir__law_small, b1, c1, c2, c3]
/-- a row of fractions, each of a pot -/
theorem exists_ps : ∀ {xs : List Vi.D}, (∀ x ∈ xs, ∃ a b, x = fr a b ∧ Gd a b) → ∃ ps, xs = frs ps ∧ Gds ps
  | [], _ => ⟨[], rfl, fun x hx => by cases hx⟩
  | x :: xs, h => by
    obtain ⟨a, b, rfl, g⟩ := h x List.mem_cons_self
    obtain ⟨ps, rfl, gs⟩ := exists_ps fun y hy => h y (List.mem_cons_of_mem _ hy)
    refine ⟨(a, b) :: ps, rfl, fun y hy => ?_⟩
    rcases List.mem_cons.mp hy with z | z
    · rw [z]; exact g
    · exact gs y z
/-- the last noughts go -/
theorem pops {p : Vi.D} {d s3 : Vi.Slot} : ∀ (n : Nat) {ps : Ps}, ps.length ≤ n → Gds ps → ∃ qs, whN (ev (.and (.pcmp .ne 2 (.lst [])) (.cmp .eq (.pix 2 (.neg (.int 1))) (.tup [.int 0, .int 1])))) (exs [.ex (.pop 2)]) (n + 1) [.ow p, d, .ow (.lst (frs ps)), s3] = .nx [.ow p, d, .ow (.lst (frs qs)), s3] ∧ Gds qs ∧ NoTail qs ∧ qs.length ≤ ps.length := by
  intro n
  induction n with
  | zero =>
    intro ps hl g
    have : ps = [] := List.length_eq_zero_iff.mp (Nat.le_zero.mp hl)
    subst this
    refine ⟨[], ?_, g, (fun x hx => by cases hx), Nat.le_refl _⟩
    unfold whN
    simp [ne_empty, -c_nei]
  | succ n ih =>
    intro ps hl g
    by_cases hz : ps = []
    · subst hz
      refine ⟨[], ?_, g, (fun x hx => by cases hx), Nat.le_refl _⟩
      unfold whN
      simp [ne_empty, -c_nei]
    · obtain ⟨x, hx⟩ : ∃ x, ps.getLast? = some x := ⟨ps.getLast hz, List.getLast?_eq_some_getLast hz⟩
      have ee : ps.isEmpty = false := by cases ps <;> first | rfl | exact absurd rfl hz
      have gl := last_frs hz hx
      by_cases h0 : x = (0, 1)
      · have cn : cmpD .eq (fr x.1 x.2) (.tup [.int 0, .int 1]) = some true := by rw [nought_eq]; simp [h0]
        have dl : (frs ps).dropLast = frs ps.dropLast := by unfold frs; rw [List.map_dropLast]
        obtain ⟨qs, k1, k2, k3, k4⟩ := ih (ps := ps.dropLast) (by rw [List.length_dropLast]; omega) fun y hy => g y ((List.dropLast_subset ps) hy)
        refine ⟨qs, ?_, k2, k3, by rw [List.length_dropLast] at k4; omega⟩
        have pp : popD 2 none [.ow p, d, .ow (.lst (frs ps)), s3] = .ok (fr x.1 x.2) [.ow p, d, .ow (.lst (frs ps.dropLast)), s3] := by
          have gl2 : (frs ps).getLast? = some (fr x.1 x.2) := by unfold frs; rw [List.getLast?_map, hx]; rfl
          simp [popD, gl2, dl]
        unfold whN
        simp [ne_empty, ee, gl, cn, pp]
        exact k1
      · have cn : cmpD .eq (fr x.1 x.2) (.tup [.int 0, .int 1]) = some false := by rw [nought_eq]; simp [h0]
        refine ⟨ps, ?_, g, (fun y hy => by rw [hx] at hy; cases hy; exact h0), Nat.le_refl _⟩
        unfold whN
        simp [ne_empty, ee, gl, cn]
end M
end
section
set_option maxRecDepth 100000
set_option maxHeartbeats 4000000
namespace M
open PySem Vi L2
theorem rangeL_len : ∀ (n : Nat) (lo : Int), (rangeL lo n).length = n
  | 0, _ => rfl
  | n + 1, lo => congrArg Nat.succ (rangeL_len n (lo + 1))
theorem rng1 {j : Int} (h : j.natAbs ≤ 1000000) : rngD [.int j] = some (rangeL 0 j.toNat) := by
  show (if lenOk j.natAbs then some (rangeL 0 j.toNat) else none) = _
  rw [lenOk_of h, if_pos rfl]
/-- a poly, drawn -/
theorem poly_ok {p : Vi.D} {m : Int} (hp : Pot p) (h0 : 0 ≤ m) (h1 : m ≤ 5) : ∃ ps p', F__law_poly [p, .int m] = .ok (.lst (frs ps)) [p'] ∧ GP ps ∧ Pot p' := by
  obtain ⟨r, p1, e1, r0, r1, hp1⟩ := draw_ok (m := m + 1) hp (by omega) (by omega)
  have c1 := call_io1 (F := F__law_draw) (i := 0) (es := [.bin .add (.var 1) (.int 1)]) (x := .non) (ds := [.int (m + 1)]) (e := [.ow p, .fr (.int m), .un, .un]) (by decide) rfl rfl e1
  have hr := rng1 (j := r) (by omega)
  have hs : ev (.lst []) [.ow p, .fr (.int m), .un, .un] = .ok (.lst []) [.ow p, .fr (.int m), .un, .un] := by simp
  have hs : ev (.rng [(.call "_law_draw" F__law_draw [(.iov 0), (.bin .add (.var 1) (.int 1))])]) [.ow p, .fr (.int m), .un, .un] = .ok (.lst (rangeL 0 r.toNat)) [.ow p1, .fr (.int m), .un, .un] := by
    simp [c1, hr]
  obtain ⟨xs, e', k1, ⟨p2, rfl, hp2⟩, k3, k4⟩ := ev_lcI (own := [3]) (tg := .nm 3) (elt := .call "_law_small" F__law_small [(.iov 0), (.call "_law_pick" F__law_pick [(.iov 0), (.lst [(.int 2), (.int 9), (.int 999)])])])
    (fun e => ∃ p, e = [.ow p, .fr (.int m), .un, .un] ∧ Pot p) (fun x => ∃ a b, x = fr a b ∧ Gd a b) hs (ds := rangeL 0 r.toNat) rfl (e1 := [.ow p1, .fr (.int m), .un, .un]) rfl (by rw [rangeL_len]; omega) ⟨p1, rfl, hp1⟩ (by
      rintro d hd e ⟨p, rfl, hp⟩
      obtain ⟨x, p2, e2, hx, hp2⟩ := pick_ok (xs := [.int 2, .int 9, .int 999]) hp (by simp) (by simp)
      obtain ⟨q, rfl, hq⟩ : ∃ q, x = .int q ∧ (q = 2 ∨ q = 9 ∨ q = 999) := by
        simp only [List.mem_cons, List.not_mem_nil, or_false] at hx
        rcases hx with rfl | rfl | rfl <;> simp
      obtain ⟨a, b, p3, e3, g, hp3⟩ := small_ok hp2 hq
      have c2 := call_io1 (F := F__law_pick) (i := 0) (es := [.lst [.int 2, .int 9, .int 999]]) (x := .non) (ds := [.lst [.int 2, .int 9, .int 999]]) (e := [.ow p, .fr (.int m), .un, .fr d]) (by decide) rfl rfl e2
      have c3 := call_io1 (F := F__law_small) (i := 0) (es := [.call "_law_pick" F__law_pick [(.iov 0), (.lst [(.int 2), (.int 9), (.int 999)])]]) (x := .non) (ds := [.int q]) (e := [.ow p2, .fr (.int m), .un, .fr d]) (by decide) rfl rfl e3
      exact ⟨[.ow p, .fr (.int m), .un, .fr d], fr a b, [.ow p3, .fr (.int m), .un, .fr d], [.ow p3, .fr (.int m), .un, .un], by simp, by simp [c2, c3], rfl, ⟨p3, rfl, hp3⟩, a, b, rfl, g⟩)
  obtain ⟨ps, rfl, gs⟩ := exists_ps k4
  rw [frs_len, rangeL_len] at k3
  obtain ⟨qs, w, g, nt, ql⟩ := pops (p := p2) (d := .fr (.int m)) (s3 := .un) ps.length (Nat.le_refl _) gs
  have w := wh_fuel w (by simp) (fuel_le (k := 10) (by omega) (by decide))
  refine ⟨qs, p2, ?_, ⟨g, by omega, nt⟩, hp2⟩
  have u : unwipe [.ow p1, .fr (.int m), .un, .un] [.ow p2, .fr (.int m), .un, .un] [3] = [.ow p2, .fr (.int m), .un, .un] := rfl
  rw [u] at k1
  have fd : freshD (.lst (frs ps)) = true := rfl
  simp [F__law_poly, fn_run, ir__law_poly, k1, w, fd]
end M
end
section
set_option maxRecDepth 100000
set_option maxHeartbeats 4000000
namespace M
open PySem Vi L2
/-- the law's own fraction, exactly -/
theorem frac_full {p q : Int} (hq : 0 < q) (hq2 : q < 1000000) : ∃ a b g : Int, F__law_frac [.int p, .int q] = .ok (fr a b) [] ∧ p = a * g ∧ q = b * g ∧ 0 < g ∧ 0 < b ∧ Int.gcd a b = 1 := by
  have eq : q = (q.natAbs : Int) := by omega
  have h := frac_nat (p := p) (q := q.natAbs) (by omega) (Nat.lt_trans (show q.natAbs < 1000000 by omega) (by decide))
  rw [← eq] at h
  have hg : 0 < Int.gcd p q := Nat.gcd_pos_of_pos_right _ (by omega)
  have eg : Nat.gcd p.natAbs q.natAbs = Int.gcd p q := rfl
  rw [eg] at h
  have d1 : (Int.gcd p q : Int) ∣ p := Int.gcd_dvd_left ..
  have d2 : (Int.gcd p q : Int) ∣ q := Int.gcd_dvd_right ..
  refine ⟨_, _, (Int.gcd p q : Int), h, (Int.ediv_mul_cancel d1).symm, (Int.ediv_mul_cancel d2).symm, by omega, ?_, Int.gcd_ediv_gcd_ediv_gcd hg⟩
  exact Int.ediv_pos_of_pos_of_dvd hq (by omega) d2
/-- halves within a bound -/
def Hf (B : Int) (x : Int × Int) : Prop := Int.gcd x.1 x.2 = 1 ∧ (x.2 = 1 ∨ x.2 = 2) ∧ x.1 ≤ B * x.2 ∧ -(B * x.2) ≤ x.1
theorem Hf.gd {B : Int} {x : Int × Int} (h : Hf B x) (hB : B ≤ 400) (h0 : 0 ≤ B) : Gd x.1 x.2 := by
  obtain ⟨a, b⟩ := x
  obtain ⟨h1, h2, h3, h4⟩ := h
  simp only at h1 h2 h3 h4
  refine ⟨⟨?_, ?_⟩, ⟨?_, ?_⟩, h1⟩ <;> show _ ≤ _ <;> rcases h2 with rfl | rfl <;> omega
theorem frac_hf {p q B : Int} (hq : q = 1 ∨ q = 2) (h1 : p ≤ B * q) (h2 : -(B * q) ≤ p) : ∃ x : Int × Int, F__law_frac [.int p, .int q] = .ok (fr x.1 x.2) [] ∧ Hf B x ∧ p * x.2 = x.1 * q := by
  obtain ⟨a, b, g, e, rfl, hqg, g0, b0, gc⟩ := frac_full (p := p) (q := q) (by omega) (by omega)
  refine ⟨(a, b), e, ⟨gc, ?_, ?_, ?_⟩, ?_⟩
  · have hb : b ≤ q := by
      rw [hqg]
      have := Int.mul_le_mul_of_nonneg_left (show (1 : Int) ≤ g by omega) (show 0 ≤ b by omega)
      omega
    show b = 1 ∨ b = 2
    omega
  · show a ≤ B * b
    rw [hqg, ← Int.mul_assoc] at h1
    exact Int.le_of_mul_le_mul_right h1 g0
  · show -(B * b) ≤ a
    rw [hqg, ← Int.mul_assoc, ← Int.neg_mul] at h2
    exact Int.le_of_mul_le_mul_right h2 g0
  · show a * g * b = a * q
    rw [hqg, Int.mul_assoc, Int.mul_comm g b]
theorem odd_of {a : Int} (h : Int.gcd a 2 = 1) : a % 2 = 1 := by
  have h2 : a % 2 = 0 ∨ a % 2 = 1 := by omega
  rcases h2 with h2 | h2
  · exfalso
    have d : (2 : Int) ∣ a := Int.dvd_of_emod_eq_zero h2
    have : Int.gcd a 2 = 2 := by
      rw [Int.gcd_comm]
      have := Int.gcd_eq_left (by decide) d
      omega
    omega
  · exact h2
/-- halves put together -/
theorem plus_hf {x y : Int × Int} {B C : Int} (hB : 0 ≤ B) (hC : 0 ≤ C) (hBC : B + C ≤ 400) (hx : Hf B x) (hy : Hf C y) : ∃ z : Int × Int, F__law_plus [fr x.1 x.2, fr y.1 y.2] = .ok (fr z.1 z.2) [] ∧ Hf (B + C) z ∧ z.1 * (x.2 * y.2) = (x.1 * y.2 + y.1 * x.2) * z.2 := by
  obtain ⟨a, b⟩ := x
  obtain ⟨c, d⟩ := y
  obtain ⟨x1, x2, x3, x4⟩ := hx
  obtain ⟨y1, y2, y3, y4⟩ := hy
  simp only at x1 x2 x3 x4 y1 y2 y3 y4
  have hbd : 0 < b * d := by rcases x2 with rfl | rfl <;> rcases y2 with rfl | rfl <;> decide
  have hbd4 : b * d ≤ 4 := by rcases x2 with rfl | rfl <;> rcases y2 with rfl | rfl <;> decide
  obtain ⟨p, q, g, e, hp, hq, g0, q0, gc⟩ := frac_full (p := a * d + c * b) (q := b * d) hbd (by omega)
  have b1 : bitsOk a d = true := bits_small (Nat.lt_of_le_of_lt (show _ ≤ 1000 by rcases x2 with rfl | rfl <;> omega) (by decide)) (Nat.lt_of_le_of_lt (show _ ≤ 1000 by omega) (by decide))
  have b2 : bitsOk c b = true := bits_small (Nat.lt_of_le_of_lt (show _ ≤ 1000 by rcases y2 with rfl | rfl <;> omega) (by decide)) (Nat.lt_of_le_of_lt (show _ ≤ 1000 by omega) (by decide))
  have b3 : bitsOk b d = true := bits_small (Nat.lt_of_le_of_lt (show _ ≤ 1000 by omega) (by decide)) (Nat.lt_of_le_of_lt (show _ ≤ 1000 by omega) (by decide))
  have c3 : ∀ e, callF F__law_frac [(.bin .add (.bin .mul (.ix (.var 0) (.int 0)) (.ix (.var 1) (.int 1))) (.bin .mul (.ix (.var 1) (.int 0)) (.ix (.var 0) (.int 1)))), (.bin .mul (.ix (.var 0) (.int 1)) (.ix (.var 1) (.int 1)))] [.int (a * d + c * b), .int (b * d)] e = .ok (fr p q) e := fun e0 => call_plain (by decide) rfl e
  have q2 : q = 1 ∨ q = 2 := by
    have hle : q ≤ b * d := by
      rw [hq]
      have := Int.mul_le_mul_of_nonneg_left (show (1 : Int) ≤ g by omega) (show 0 ≤ q by omega)
      omega
    rcases x2 with rfl | rfl <;> rcases y2 with rfl | rfl
    · omega
    · omega
    · omega
    · have ha := odd_of x1
      have hc := odd_of y1
      have hq : (4 : Int) = q * g := hq
      have hp : a * 2 + c * 2 = p * g := hp
      have : q = 1 ∨ q = 2 ∨ q = 3 ∨ q = 4 := by omega
      rcases this with rfl | rfl | rfl | rfl
      · exact .inl rfl
      · exact .inr rfl
      · omega
      · have hg : g = 1 := by omega
        subst hg
        exfalso
        have e2 : p = 2 * (a + c) := by omega
        have d1 : (2 : Int) ∣ p := ⟨a + c, e2⟩
        have d2 : (2 : Int) ∣ 4 := by decide
        have := Int.dvd_coe_gcd d1 d2
        rw [gc] at this
        exact absurd this (by decide)
  have ex : p * (b * d) = (a * d + c * b) * q := by rw [hp, hq, Int.mul_assoc, Int.mul_comm g q]
  refine ⟨(p, q), ?_, ⟨gc, q2, ?_, ?_⟩, ex⟩
  · simp [F__law_plus, fn_run, ir__law_plus, fr, getD, ixD, ixN, b1, b2, b3, c3]
  · show p ≤ (B + C) * q
    rcases x2 with rfl | rfl <;> rcases y2 with rfl | rfl <;> rcases q2 with rfl | rfl <;> omega
  · show -((B + C) * q) ≤ p
    rcases x2 with rfl | rfl <;> rcases y2 with rfl | rfl <;> rcases q2 with rfl | rfl <;> omega
theorem rise_cons {a b : Int × Int} {r : Ps} : Rise (a :: b :: r) ↔ bel a b = true ∧ Rise (b :: r) := by
  simp [Rise, prs]
theorem rise_snoc : ∀ {ks : Ps} {x y : Int × Int}, Rise ks → ks.getLast? = some y → bel y x = true → Rise (ks ++ [x])
  | [], _, _, _, h, _ => by cases h
  | [a], x, y, _, h, hb => by
    simp at h; subst h
    simp [Rise, prs, hb]
  | a :: b :: r, x, y, h, hl, hb => by
    obtain ⟨h1, h2⟩ := rise_cons.mp h
    have := rise_snoc (ks := b :: r) h2 (by simpa using hl) hb
    exact rise_cons.mpr ⟨h1, this⟩
/-- what a for keeps -/
theorem for_inv {tg : Tg} {f : Vi.Env → RS} (N : Nat) (I : Nat → Vi.Env → Prop) : ∀ {ds : List Vi.D} {i : Nat} {e : Vi.Env}, i + ds.length ≤ N → I i e → (∀ d ∈ ds, ∀ j e, j < N → I j e → ∃ e1 e2, asgT tg d e = some e1 ∧ f e1 = .nx e2 ∧ I (j + 1) e2) → ∃ e', forL tg f ds e = .nx e' ∧ I (i + ds.length) e'
  | [], i, e, _, h, _ => ⟨e, rfl, h⟩
  | d :: ds, i, e, hn, h, hs => by
    rw [List.length_cons] at hn
    obtain ⟨e1, e2, h1, h2, h3⟩ := hs d List.mem_cons_self i e (by omega) h
    obtain ⟨e', k1, k2⟩ := for_inv N I (by omega) h3 fun d hd => hs d (List.mem_cons_of_mem _ hd)
    refine ⟨e', ?_, ?_⟩
    · unfold forL
      simp only [h1, h2, k1]
    · rw [List.length_cons]
      have : i + (ds.length + 1) = i + 1 + ds.length := by omega
      rw [this]; exact k2
/-- rising fractions, drawn -/
theorem rising_ok {p : Vi.D} {m : Int} (hp : Pot p) (h0 : 2 ≤ m) (h1 : m ≤ 6) : ∃ ks p', F__law_rising [p, .int m] = .ok (.lst (frs ks)) [p'] ∧ Gds ks ∧ (ks.length : Int) = m ∧ Rise ks ∧ Pot p' := by
  -- the first
  obtain ⟨r, p1, e1, r0, r1, hp1⟩ := draw_ok (m := 41) hp (by omega) (by omega)
  obtain ⟨q, p2, e2, q0, q1, hp2⟩ := draw_ok (m := 2) hp1 (by omega) (by omega)
  obtain ⟨x, e3, hx, _⟩ := frac_hf (p := r - 20) (q := 1 + q) (B := 20) (by omega) (by omega) (by omega)
  have c1 := call_io1 (F := F__law_draw) (i := 0) (es := [.int 41]) (x := .non) (ds := [.int 41]) (e := [.ow p, .fr (.int m), .un, .un]) (by decide) rfl rfl e1
  have c2 := call_io1 (F := F__law_draw) (i := 0) (es := [.int 2]) (x := .non) (ds := [.int 2]) (e := [.ow p1, .fr (.int m), .un, .un]) (by decide) rfl rfl e2
  have c3 : ∀ e, callF F__law_frac [(.bin .sub (.call "_law_draw" F__law_draw [(.iov 0), (.int 41)]) (.int 20)), (.bin .add (.int 1) (.call "_law_draw" F__law_draw [(.iov 0), (.int 2)]))] [.int (r - 20), .int (1 + q)] e = .ok (fr x.1 x.2) e := fun e0 => call_plain (by decide) rfl e3
  have hr := rng1 (j := m - 1) (by omega)
  have nr : (rangeL 0 (m - 1).toNat).length = (m - 1).toNat := rangeL_len _ _
  obtain ⟨e', k1, ks, y, p', s, rfl, _, kl, kr, _, _, ka, kp⟩ := for_inv 5 (tg := .nm 3) (f := exs [.app 2 (.call "_law_plus" F__law_plus [(.pix 2 (.neg (.int 1))), (.call "_law_frac" F__law_frac [(.bin .add (.int 1) (.call "_law_draw" F__law_draw [(.iov 0), (.int 4)])), (.bin .add (.int 1) (.call "_law_draw" F__law_draw [(.iov 0), (.int 2)]))])])])
    (fun j e => ∃ ks y p s, e = [.ow p, .fr (.int m), .ow (.lst (frs ks)), s] ∧ (∀ d, s ≠ .ow d) ∧ ks.length = j + 1 ∧ Rise ks ∧ ks.getLast? = some y ∧ Hf (20 + 4 * j) y ∧ (∀ z ∈ ks, Hf 100 z) ∧ Pot p)
    (ds := rangeL 0 (m - 1).toNat) (i := 0) (e := [.ow p2, .fr (.int m), .ow (.lst (frs [x])), .un]) (by omega) ⟨[x], x, p2, .un, rfl, (fun d z => by cases z), rfl, by simp [Rise, prs], rfl, by simpa using hx, (fun z hz => by
      rw [List.mem_singleton.mp hz]
      exact ⟨hx.1, hx.2.1, by have := hx.2.2.1; rcases hx.2.1 with h | h <;> rw [h] at this ⊢ <;> omega, by have := hx.2.2.2; rcases hx.2.1 with h | h <;> rw [h] at this ⊢ <;> omega⟩), hp2⟩ (by
      rintro d hd j e hj ⟨ks, y, p, s, rfl, hs, hl, hr, hy, hh, ha, hp⟩
      have hz : ks ≠ [] := fun z => by subst z; cases hy
      obtain ⟨r, p1, e1, r0, r1, hp1⟩ := draw_ok (m := 4) hp (by omega) (by omega)
      obtain ⟨q, p2, e2, q0, q1, hp2⟩ := draw_ok (m := 2) hp1 (by omega) (by omega)
      obtain ⟨x, e3, hx, hx2⟩ := frac_hf (p := 1 + r) (q := 1 + q) (B := 4) (by omega) (by omega) (by omega)
      obtain ⟨z, e4, hz1, hz2⟩ := plus_hf (B := 20 + 4 * j) (C := 4) (by omega) (by omega) (by omega) hh hx
      have c1 := call_io1 (F := F__law_draw) (i := 0) (es := [.int 4]) (x := .non) (ds := [.int 4]) (e := [.ow p, .fr (.int m), .ow (.lst (frs ks)), .fr d]) (by decide) rfl rfl e1
      have c2 := call_io1 (F := F__law_draw) (i := 0) (es := [.int 2]) (x := .non) (ds := [.int 2]) (e := [.ow p1, .fr (.int m), .ow (.lst (frs ks)), .fr d]) (by decide) rfl rfl e2
      have c3 : ∀ e, callF F__law_frac [(.bin .add (.int 1) (.call "_law_draw" F__law_draw [(.iov 0), (.int 4)])), (.bin .add (.int 1) (.call "_law_draw" F__law_draw [(.iov 0), (.int 2)]))] [.int (1 + r), .int (1 + q)] e = .ok (fr x.1 x.2) e := fun e0 => call_plain (by decide) rfl e3
      have c4 : ∀ e, callF F__law_plus [(.pix 2 (.neg (.int 1))), (.call "_law_frac" F__law_frac [(.bin .add (.int 1) (.call "_law_draw" F__law_draw [(.iov 0), (.int 4)])), (.bin .add (.int 1) (.call "_law_draw" F__law_draw [(.iov 0), (.int 2)]))])] [fr y.1 y.2, fr x.1 x.2] e = .ok (fr z.1 z.2) e := fun e0 => call_plain (by decide) rfl e4
      have gl := last_frs hz hy
      have lk : lenOk (frs ks).length = true := lenOk_of (by rw [frs_len]; omega)
      have ap : frs ks ++ [fr z.1 z.2] = frs (ks ++ [z]) := by simp [frs]
      refine ⟨[.ow p, .fr (.int m), .ow (.lst (frs ks)), .fr d], [.ow p2, .fr (.int m), .ow (.lst (frs (ks ++ [z]))), .fr d], by simp, by simp [c1, c2, c3, c4, gl, lk, ap], ks ++ [z], z, p2, .fr d, rfl, (fun d z => by cases z), by rw [List.length_append, hl]; rfl, ?_, by simp, ?_, ?_, hp2⟩
      · refine rise_snoc hr hy (decide_eq_true ?_)
        obtain ⟨_, y2, _⟩ := hh
        obtain ⟨_, x2, _⟩ := hx
        obtain ⟨_, z2, _⟩ := hz1
        have hq : 1 + q = 1 ∨ 1 + q = 2 := by omega
        rcases y2 with y2 | y2 <;> rcases x2 with x2 | x2 <;> rcases z2 with z2 | z2 <;> rcases hq with hq | hq <;> rw [y2, x2, z2] at hz2 <;> rw [x2, hq] at hx2 <;> rw [y2, z2] <;> omega
      · have : (20 + 4 * ((j + 1 : Nat) : Int)) = 20 + 4 * (j : Int) + 4 := by omega
        rw [this]; exact hz1
      · intro w hw
        rcases List.mem_append.mp hw with h | h
        · exact ha w h
        · rw [List.mem_singleton.mp h]
          exact ⟨hz1.1, hz1.2.1, by have := hz1.2.2.1; rcases hz1.2.1 with h | h <;> rw [h] at this ⊢ <;> omega, by have := hz1.2.2.2; rcases hz1.2.1 with h | h <;> rw [h] at this ⊢ <;> omega⟩)
  have fd : ∀ l, freshD (.lst l) = true := fun _ => rfl
  refine ⟨ks, p', ?_, fun z hz => (ka z hz).gd (by omega) (by omega), by omega, kr, kp⟩
  have ex : frs [x] = [fr x.1 x.2] := rfl
  rw [ex] at k1
  generalize rangeL 0 (m - 1).toNat = L at hr k1
  simp [F__law_rising, fn_run, ir__law_rising, c1, c2, c3, fd, hr, itemsD, k1]
end M
end
section
set_option maxRecDepth 100000
set_option maxHeartbeats 4000000
namespace M
open PySem Vi L2
theorem exists_pss : ∀ {xs : List Vi.D}, (∀ x ∈ xs, ∃ ps, x = pd ps ∧ GP ps) → ∃ pss, xs = pss.map pd ∧ GPs pss
  | [], _ => ⟨[], rfl, fun x hx => by cases hx⟩
  | x :: xs, h => by
    obtain ⟨ps, rfl, g⟩ := h x List.mem_cons_self
    obtain ⟨pss, rfl, gs⟩ := exists_pss fun y hy => h y (List.mem_cons_of_mem _ hy)
    refine ⟨ps :: pss, rfl, fun y hy => ?_⟩
    rcases List.mem_cons.mp hy with z | z
    · rw [z]; exact g
    · exact gs y z
theorem some_poly {p : Vi.D} {m : Int} (hp : Pot p) : ∃ x p', F__law_some [p, .str "poly", .int m] = .ok (Th.d false x) [p'] ∧ x.ok ∧ x.sort = "poly" ∧ Pot p' := by
  obtain ⟨ps, p', e, g, hp'⟩ := poly_ok (m := 5) hp (by omega) (by omega)
  have c := call_io1 (F := F__law_poly) (i := 0) (es := [.int 5]) (x := .non) (ds := [.int 5]) (e := [.ow p, .fr (.str "poly"), .fr (.int m), .un, .un]) (by decide) rfl rfl e
  refine ⟨.poly ps, p', ?_, g, rfl, hp'⟩
  simp [F__law_some, fn_run, ir__law_some, c, Th.d, pc, cont]
theorem some_stretch {p : Vi.D} {m : Int} (hp : Pot p) : ∃ x p', F__law_some [p, .str "stretch", .int m] = .ok (Th.d false x) [p'] ∧ x.ok ∧ x.sort = "stretch" ∧ Pot p' := by
  obtain ⟨n1, n2, n3⟩ := ne_sorts
  obtain ⟨ks, p', e, g, l, hr, hp'⟩ := rising_ok (m := 2) hp (by omega) (by omega)
  have c := call_io1 (F := F__law_rising) (i := 0) (es := [.int 2]) (x := .non) (ds := [.int 2]) (e := [.ow p, .fr (.str "stretch"), .fr (.int m), .un, .un]) (by decide) rfl rfl e
  match ks, l with
  | [a, b], _ =>
    refine ⟨.stretch a b, p', ?_, ⟨g, hr⟩, rfl, hp'⟩
    simp [F__law_some, fn_run, ir__law_some, n1, c, Th.d, frs]
  | [], l => simp at l
  | [_], l => simp at l
  | _ :: _ :: _ :: _, l => simp at l; omega
theorem some_bent {p : Vi.D} {m : Int} (hp : Pot p) (hm : m = 6 ∨ m = 3) : ∃ x p', F__law_some [p, .str "bent", .int m] = .ok (Th.d false x) [p'] ∧ x.ok ∧ x.sort = "bent" ∧ Pot p' := by
  obtain ⟨n1, n2, n3⟩ := ne_sorts
  obtain ⟨r, p1, e1, r0, r1, hp1⟩ := draw_ok (m := m - 1) hp (by omega) (by omega)
  obtain ⟨ks, p2, e2, g, l, hr, hp2⟩ := rising_ok (m := 2 + r) hp1 (by omega) (by omega)
  have c1 := call_io1 (F := F__law_draw) (i := 0) (es := [.bin .sub (.var 2) (.int 1)]) (x := .non) (ds := [.int (m - 1)]) (e := [.ow p, .fr (.str "bent"), .fr (.int m), .un, .un]) (by decide) rfl rfl e1
  have c2 := call_io1 (F := F__law_rising) (i := 0) (es := [(.bin .add (.int 2) (.call "_law_draw" F__law_draw [(.iov 0), (.bin .sub (.var 2) (.int 1))]))]) (x := .non) (ds := [.int (2 + r)]) (e := [.ow p1, .fr (.str "bent"), .fr (.int m), .un, .un]) (by decide) rfl rfl e2
  have ct : cutD (.lst (frs ks)) (some 1) none = some (.lst (frs ks).tail) := by
    show some (Vi.D.lst (cutL _ (some 1) none)) = _
    rw [cut_tail]
  have hs : ev (.sl (.var 3) (.int 1) .non) [.ow p2, .fr (.str "bent"), .fr (.int m), .fr (.lst (frs ks)), .un] = .ok (.lst (frs ks).tail) [.ow p2, .fr (.str "bent"), .fr (.int m), .fr (.lst (frs ks)), .un] := by
    simp [ct, partE]
  have tl : (frs ks).tail.length = ks.length - 1 := by rw [List.length_tail, frs_len]
  obtain ⟨xs, e', k1, ⟨p3, rfl, hp3⟩, k3, k4⟩ := ev_lcI (own := [4]) (tg := .nm 4) (elt := .call "_law_poly" F__law_poly [(.iov 0), (.int 3)])
    (fun e => ∃ p, e = [.ow p, .fr (.str "bent"), .fr (.int m), .fr (.lst (frs ks)), .un] ∧ Pot p) (fun x => ∃ ps, x = pd ps ∧ GP ps) hs (ds := (frs ks).tail) rfl (e1 := [.ow p2, .fr (.str "bent"), .fr (.int m), .fr (.lst (frs ks)), .un]) rfl (by omega) ⟨p2, rfl, hp2⟩ (by
      rintro d hd e ⟨p, rfl, hp⟩
      obtain ⟨ps, p', e, g, hp'⟩ := poly_ok (m := 3) hp (by omega) (by omega)
      have c := call_io1 (F := F__law_poly) (i := 0) (es := [.int 3]) (x := .non) (ds := [.int 3]) (e := [.ow p, .fr (.str "bent"), .fr (.int m), .fr (.lst (frs ks)), .fr d]) (by decide) rfl rfl e
      exact ⟨[.ow p, .fr (.str "bent"), .fr (.int m), .fr (.lst (frs ks)), .fr d], pd ps, [.ow p', .fr (.str "bent"), .fr (.int m), .fr (.lst (frs ks)), .fr d], [.ow p', .fr (.str "bent"), .fr (.int m), .fr (.lst (frs ks)), .un], by simp, by simp [c, pd], rfl, ⟨p', rfl, hp'⟩, ps, rfl, g⟩)
  obtain ⟨pss, rfl, gs⟩ := exists_pss k4
  rw [List.length_map] at k3
  have u : unwipe [.ow p2, .fr (.str "bent"), .fr (.int m), .fr (.lst (frs ks)), .un] [.ow p3, .fr (.str "bent"), .fr (.int m), .fr (.lst (frs ks)), .un] [4] = [.ow p3, .fr (.str "bent"), .fr (.int m), .fr (.lst (frs ks)), .un] := rfl
  rw [u] at k1
  refine ⟨.bent ks pss, p3, ?_, ⟨g, by omega, by omega, hr, gs, by omega⟩, rfl, hp3⟩
  have ed : Th.d false (.bent ks pss) = .tup [.lst (frs ks), .lst (pss.map pd)] := rfl
  rw [ed]
  simp [F__law_some, fn_run, ir__law_some, n2, n3, c1, c2, k1]
theorem some_ok {p : Vi.D} {m : Int} (hp : Pot p) (hm : m = 6 ∨ m = 3) {s : String} (hs : s = "poly" ∨ s = "stretch" ∨ s = "bent") : ∃ x p', F__law_some [p, .str s, .int m] = .ok (Th.d false x) [p'] ∧ x.ok ∧ x.sort = s ∧ Pot p' := by
  rcases hs with rfl | rfl | rfl
  · exact some_poly hp
  · exact some_stretch hp
  · exact some_bent hp hm
theorem spoil_ok {x : Th} (h : x.ok) : F__law_spoilt [.str x.sort, .str x.text] = .ok .non [] := by
  obtain ⟨n1, n2, n3⟩ := ne_sorts
  have t := to_ok h
  have th : D.thins [.str x.sort, .str x.text] = true := by simp [D.thins, D.thin]
  cases x with
  | poly ps =>
    have lk : lenOk (frs ps).length = true := lenOk_of (by rw [frs_len]; have := h.2.1; omega)
    have th : D.thins [.str (Str.ofString "poly"), .str (Th.text (.poly ps))] = true := th
    have t : F_thing_of [.str (Str.ofString "poly"), .str (Th.text (.poly ps))] = .ok (.lst (frs ps)) [] := t
    have n4 : (Str.ofString "poly" == Str.ofString "bent") = false := by decide +kernel
    have s1 : ∀ e, splR F_thing_of none [.str (Str.ofString "poly"), .str (Th.text (.poly ps))] e = .nx e := fun e => by
      unfold splR; rw [th, if_pos rfl, t]; simp only [lk, if_true]
    simp [F__law_spoilt, fn_run, ir__law_spoilt, Th.sort, s1, n4]
  | stretch a b =>
    have n4 : (Str.ofString "stretch" == Str.ofString "bent") = false := by decide +kernel
    simp [F__law_spoilt, fn_run, ir__law_spoilt, Th.sort, n1, n4]
  | bent ks pss =>
    have th : D.thins [.str (Str.ofString "bent"), .str (Th.text (.bent ks pss))] = true := th
    have t : F_thing_of [.str (Str.ofString "bent"), .str (Th.text (.bent ks pss))] = .ok (.tup [.lst (frs ks), .lst (pss.map pd)]) [] := t
    have lk : lenOk (frs ks).length = true := lenOk_of (by rw [frs_len]; have := h.2.2.1; omega)
    have lk2 : lenOk (pss.map pd).length = true := lenOk_of (by rw [List.length_map]; have := h.2.2.1; have := h.2.2.2.2.2; omega)
    have g0 : getD (.tup [.lst (frs ks), .lst (pss.map pd)]) (.int 0) = some (.lst (frs ks)) := by simp [getD, ixD, ixN]
    have g1 : getD (.tup [.lst (frs ks), .lst (pss.map pd)]) (.int 1) = some (.lst (pss.map pd)) := by simp [getD, ixD, ixN]
    have s1 : ∀ e, splR F_thing_of (some 0) [.str (Str.ofString "bent"), .str (Th.text (.bent ks pss))] e = .nx e := fun e => by
      unfold splR; rw [th, if_pos rfl, t]; simp only [g0, lk, if_true]
    have s2 : ∀ e, splR F_thing_of (some 1) [.str (Str.ofString "bent"), .str (Th.text (.bent ks pss))] e = .nx e := fun e => by
      unfold splR; rw [th, if_pos rfl, t]; simp only [g1, lk2, if_true]
    simp [F__law_spoilt, fn_run, ir__law_spoilt, Th.sort, n2, s1, s2]
end M
end
section
set_option maxRecDepth 100000
set_option maxHeartbeats 4000000
namespace M
open PySem Vi L2
def okc (s : Str) : Prop := ∀ c ∈ s.cps.toList, c < 0x110000
theorem okc_app {a b : Str} (ha : okc a) (hb : okc b) : okc (a ++ b) := fun c hc => by
  have e : (a ++ b).cps.toList = a.cps.toList ++ b.cps.toList := TL.tl_append a b
  rw [e] at hc
  rcases List.mem_append.mp hc with h | h
  · exact ha c h
  · exact hb c h
theorem okc_join0 {s : Str} (hs : okc s) : ∀ {l : List Str}, (∀ t ∈ l, okc t) → okc (Str.join s l)
  | [], _ => fun c hc => by
    have e : (Str.join s []).cps.toList = [] := rfl
    rw [e] at hc; cases hc
  | [x], h => h x List.mem_cons_self
  | x :: y :: r, h => by
    have e : Str.join s (x :: y :: r) = x ++ s ++ Str.join s (y :: r) := rfl
    rw [e]
    exact okc_app (okc_app (h x List.mem_cons_self) hs) (okc_join0 hs fun t ht => h t (List.mem_cons_of_mem _ ht))
theorem okc_join {s : Str} (hs : okc s) {l : List Str} (h : ∀ t ∈ l, okc t) : okc (Txt.join s l) := by
  rw [TL.join_eq]; exact okc_join0 hs h
theorem okc_nt {x : Str} (h : okSigns x = true) : okc x := fun c hc => by
  have := (signs_len h).2.2 c hc
  omega
theorem okc_lit (n : Nat) (s : Str) (h : s.cps.toList = [n]) (hn : n < 0x110000) : okc s := fun c hc => by
  rw [h] at hc; rw [List.mem_singleton.mp hc]; exact hn
theorem okc_ft {p q : Int} (hp : Num p) (hq : Den q) : okc (ftext p q) := by
  have o1 := okc_nt (nt_ok hp)
  have o2 := okc_nt (nt_ok (den_num hq))
  unfold ftext
  split
  · exact o1
  · exact okc_app (okc_app o1 (okc_lit 47 _ sl_sep.1 (by decide))) o2
theorem okc_txs {ps : Ps} (h : Gds ps) : ∀ t ∈ txs ps, okc t := fun t ht => by
  obtain ⟨x, hx, rfl⟩ := List.mem_map.mp ht
  exact okc_ft (h x hx).1 (h x hx).2.1
theorem okc_pt {ps : Ps} (h : Gds ps) : okc (ptext ps) := by
  unfold ptext
  split
  · exact okc_lit 45 _ (by decide +kernel) (by decide)
  · exact okc_join (okc_lit 44 _ one_signs.1 (by decide)) (okc_txs h)
theorem okc_th {x : Th} (h : x.ok) : okc x.text := by
  cases x with
  | poly ps => exact okc_pt h.1
  | stretch a b => exact okc_join (okc_lit 58 _ one_signs.2.2.2.1 (by decide)) (okc_txs h.1)
  | bent ks pss =>
    refine okc_join (okc_lit 59 _ one_signs.2.2.2.2.2.2.1 (by decide)) fun t ht => ?_
    rcases List.mem_cons.mp ht with z | z
    · rw [z]; exact okc_join (okc_lit 44 _ one_signs.1 (by decide)) (okc_txs h.1)
    · obtain ⟨ps, hp, rfl⟩ := List.mem_map.mp z
      exact okc_pt (h.2.2.2.2.1 ps hp).1
theorem str_pure {s : Str} (h : okc s) : (Vi.D.str s).pure = true := by
  rw [D.pure]
  rw [Array.all_eq_true_iff_forall_mem]
  intro c hc
  exact decide_eq_true (h c (Array.mem_toList_iff.mpr hc))
theorem th_len {x : Th} (h : x.ok) : x.text.length ≤ 600 := by
  cases x with
  | poly ps =>
    have h1 := pt_len h.1
    have h2 := h.2.1
    show (ptext ps).length ≤ 600
    omega
  | stretch a b =>
    have h1 := jl_le h.1 (s := ":") one_signs.2.2.2.2.2.1
    show (Txt.join (Str.ofString ":") (txs [a, b])).length ≤ 600
    simp only [List.length_cons, List.length_nil] at h1
    omega
  | bent ks pss =>
    have h1 := bt_len h.1 h.2.2.2.2.1
    have h2 := h.2.2.1
    have h3 := h.2.2.2.2.2
    show (btext ks pss).length ≤ 600
    omega
theorem rep_texts {x : Th} (h : x.ok) : ∃ s, biD .repr [.lst [.str x.text, .str x.text]] = some (.str s) := by
  have p := str_pure (okc_th h)
  have l := th_len h
  have fl : (Vi.D.lst [.str x.text, .str x.text]).flat = true := by
    simp only [D.flat, D.pure, D.pures] at p ⊢
    rw [p]; rfl
  exact ⟨_, repl_ok fl (by simp [D.shws, D.shw]) (by simp only [sizs, siz, strL]; omega)⟩
theorem int_siz {i : Int} (h : i.natAbs ≤ 999) : Nat.blt i.natAbs.log2 1920 = true ∧ i.natAbs.log2 ≤ 10 := by
  have := log_le (i := i) (k := 10) (Nat.lt_of_le_of_lt h (by decide))
  exact ⟨Nat.ble_eq_true_of_le (by omega), this⟩
theorem fr_siz {p q : Int} (hp : Num p) (hq : Den q) : D.shw (fr p q) = true ∧ siz (fr p q) ≤ 31 := by
  obtain ⟨a1, a2⟩ := int_siz (i := p) (by have := hp.1; have := hp.2; omega)
  obtain ⟨b1, b2⟩ := int_siz (i := q) (by have := hq.1; have := hq.2; omega)
  refine ⟨by simp [fr, D.shw, D.shws, a1, b1], by simp only [fr, siz, sizs]; omega⟩
theorem frs_siz : ∀ {ps : Ps}, Gds ps → D.shws (frs ps) = true ∧ sizs (frs ps) ≤ 33 * ps.length
  | [], _ => ⟨by simp [frs, D.shws], by simp [frs, sizs]⟩
  | x :: r, h => by
    obtain ⟨a1, a2⟩ := fr_siz (h x List.mem_cons_self).1 (h x List.mem_cons_self).2.1
    obtain ⟨b1, b2⟩ := frs_siz fun y hy => h y (List.mem_cons_of_mem _ hy)
    refine ⟨?_, ?_⟩
    · show D.shws (fr x.1 x.2 :: frs r) = true
      rw [D.shws, a1, b1]; rfl
    · show sizs (fr x.1 x.2 :: frs r) ≤ _
      rw [sizs, List.length_cons]; omega
theorem pds_siz : ∀ {pss : List Ps}, GPs pss → D.shws (pss.map pd) = true ∧ sizs (pss.map pd) ≤ 180 * pss.length
  | [], _ => ⟨by simp [D.shws], by simp [sizs]⟩
  | x :: r, h => by
    have g := h x List.mem_cons_self
    obtain ⟨a1, a2⟩ := frs_siz g.1
    have := g.2.1
    obtain ⟨b1, b2⟩ := pds_siz fun y hy => h y (List.mem_cons_of_mem _ hy)
    refine ⟨?_, ?_⟩
    · show D.shws (pd x :: r.map pd) = true
      rw [D.shws, pd, D.shw, a1, b1]; rfl
    · show sizs (pd x :: r.map pd) ≤ _
      rw [sizs, pd, siz, List.length_cons]; omega
theorem th_siz {x : Th} (h : x.ok) : D.shw (x.d false) = true ∧ siz (x.d false) ≤ 2000 := by
  cases x with
  | poly ps =>
    obtain ⟨a, b⟩ := frs_siz h.1
    have := h.2.1
    show D.shw (.lst (frs ps)) = true ∧ siz (.lst (frs ps)) ≤ 2000
    rw [D.shw, siz]; exact ⟨a, by omega⟩
  | stretch u v =>
    obtain ⟨a, b⟩ := frs_siz h.1
    show D.shw (.tup (frs [u, v])) = true ∧ siz (.tup (frs [u, v])) ≤ 2000
    rw [D.shw, siz]; exact ⟨a, by simp only [List.length_cons, List.length_nil] at b; omega⟩
  | bent ks pss =>
    obtain ⟨a, b⟩ := frs_siz h.1
    obtain ⟨c, d⟩ := pds_siz h.2.2.2.2.1
    have := h.2.2.1
    have := h.2.2.2.2.2
    show D.shw (.tup [.lst (frs ks), .lst (pss.map pd)]) = true ∧ siz (.tup [.lst (frs ks), .lst (pss.map pd)]) ≤ 2000
    simp only [D.shw, D.shws, siz, sizs, a, c]
    exact ⟨rfl, by omega⟩
theorem th_pure (x : Th) : (x.d false).pure = true ∧ (x.d false).depth ≤ 4 := by
  cases x with
  | poly ps =>
    have := frs_pure ps
    show (Vi.D.lst (frs ps)).pure = true ∧ (Vi.D.lst (frs ps)).depth ≤ 4
    rw [D.pure, D.depth]; exact ⟨this.1, by omega⟩
  | stretch u v =>
    have := frs_pure [u, v]
    show (Vi.D.tup (frs [u, v])).pure = true ∧ (Vi.D.tup (frs [u, v])).depth ≤ 4
    rw [D.pure, D.depth]; exact ⟨this.1, by omega⟩
  | bent ks pss =>
    have a := frs_pure ks
    have b := pds_pure pss
    show (Vi.D.tup [.lst (frs ks), .lst (pss.map pd)]).pure = true ∧ (Vi.D.tup [.lst (frs ks), .lst (pss.map pd)]).depth ≤ 4
    simp only [D.pure, D.pures, D.depth, D.depths, a.1, b.1]
    exact ⟨rfl, by omega⟩
theorem th_flat (x : Th) : (x.d false).flat = true := by
  have := th_pure x
  simp only [D.flat, this.1, Bool.true_and]
  exact Nat.ble_eq_true_of_le (by omega)
theorem th_lt (x : Th) : (∃ xs, x.d false = .lst xs) ∨ ∃ xs, x.d false = .tup xs := by
  cases x with
  | poly ps => exact .inl ⟨_, rfl⟩
  | stretch u v => exact .inr ⟨_, rfl⟩
  | bent ks pss => exact .inr ⟨_, rfl⟩
theorem rep_th {x : Th} (h : x.ok) : ∃ s, biD .repr [x.d false] = some (.str s) := by
  have f := th_flat x
  obtain ⟨a, b⟩ := th_siz h
  rcases th_lt x with ⟨xs, e⟩ | ⟨xs, e⟩ <;> rw [e] at f a b ⊢ <;> rw [D.shw] at a <;> rw [siz] at b
  · exact ⟨_, repl_ok f a (by omega)⟩
  · exact ⟨_, rept_ok f a (by omega)⟩
theorem rep_ths {x : Th} (h : x.ok) : ∃ s, biD .repr [.lst [x.d false, x.d false]] = some (.str s) := by
  have p := th_pure x
  obtain ⟨a, b⟩ := th_siz h
  have f : (Vi.D.lst [x.d false, x.d false]).flat = true := by
    simp only [D.flat, D.pure, D.pures, D.depth, D.depths, p.1, Bool.true_and, Bool.and_true]
    exact Nat.ble_eq_true_of_le (by omega)
  exact ⟨_, repl_ok f (by simp [D.shws, a]) (by simp only [sizs]; omega)⟩
mutual
def iiD : Vi.D → Bool
  | .int _ => true
  | .lst xs => iiDs xs
  | .tup xs => iiDs xs
  | _ => false
def iiDs : List Vi.D → Bool
  | [] => true
  | x :: xs => iiD x && iiDs xs
end
mutual
theorem eqv_eq : ∀ x y : Vi.D, iiD x = true → iiD y = true → D.eqv x y = true → x = y
  | .int i, y, _, hy, h => by
    cases y <;> simp [iiD] at hy <;> simp [D.eqv] at h
    rw [h]
  | .lst xs, y, hx, hy, h => by
    cases y <;> simp [iiD] at hy hx <;> simp [D.eqv] at h
    rw [eqvs_eq xs _ hx hy h]
  | .tup xs, y, hx, hy, h => by
    cases y <;> simp [iiD] at hy hx <;> simp [D.eqv] at h
    rw [eqvs_eq xs _ hx hy h]
  | .non, _, hx, _, _ => by simp [iiD] at hx
  | .bl _, _, hx, _, _ => by simp [iiD] at hx
  | .str _, _, hx, _, _ => by simp [iiD] at hx
  | .dic _ _, _, hx, _, _ => by simp [iiD] at hx
  | .fn _, _, hx, _, _ => by simp [iiD] at hx
  | .clo _ _, _, hx, _, _ => by simp [iiD] at hx
  | .ins _ _ _, _, hx, _, _ => by simp [iiD] at hx
  | .scr _, _, hx, _, _ => by simp [iiD] at hx
theorem eqvs_eq : ∀ xs ys : List Vi.D, iiDs xs = true → iiDs ys = true → D.eqvs xs ys = true → xs = ys
  | [], ys, _, _, h => by
    cases ys
    · rfl
    · simp [D.eqvs] at h
  | x :: xs, ys, hx, hy, h => by
    cases ys with
    | nil => simp [D.eqvs] at h
    | cons y ys =>
      simp only [D.eqvs, Bool.and_eq_true] at h
      simp only [iiDs, Bool.and_eq_true] at hx hy
      rw [eqv_eq x y hx.1 hy.1 h.1, eqvs_eq xs ys hx.2 hy.2 h.2]
end
theorem frs_ii : ∀ ps : Ps, iiDs (frs ps) = true
  | [] => by simp [frs, iiDs]
  | x :: r => by
    show iiDs (fr x.1 x.2 :: frs r) = true
    rw [iiDs, frs_ii r]; simp [fr, iiD, iiDs]
theorem pds_ii : ∀ pss : List Ps, iiDs (pss.map pd) = true
  | [] => by simp [iiDs]
  | x :: r => by
    show iiDs (pd x :: r.map pd) = true
    rw [iiDs, pds_ii r, pd, iiD, frs_ii]; rfl
theorem th_ii (x : Th) : iiD (x.d false) = true := by
  cases x with
  | poly ps => show iiD (.lst (frs ps)) = true; rw [iiD]; exact frs_ii ps
  | stretch u v => show iiD (.tup (frs [u, v])) = true; rw [iiD]; exact frs_ii _
  | bent ks pss =>
    show iiD (.tup [.lst (frs ks), .lst (pss.map pd)]) = true
    simp only [iiD, iiDs, frs_ii, pds_ii]; rfl
/-- two things have two texts -/
theorem text_iff {x y : Th} (hx : x.ok) (hy : y.ok) (hs : y.sort = x.sort) : y.text = x.text ↔ y.d false = x.d false := by
  refine ⟨fun h => ?_, fun h => ?_⟩
  · have a := to_ok hx
    have b := to_ok hy
    rw [h, hs, a] at b
    injection b with b
    exact b.symm
  · have a := textof_ok false hx
    have b := textof_ok false hy
    rw [h, hs, a] at b
    injection b with b
    injection b with b
    exact b.symm
theorem th_eqD {x y : Th} (hx : x.ok) (hy : y.ok) (hs : y.sort = x.sort) : cmpD .eq (y.d false) (x.d false) = some (y.text == x.text) := by
  have e : eqD (y.d false) (x.d false) = if (y.d false).flat && (x.d false).flat then some (D.eqv (y.d false) (x.d false)) else none := by
    rcases th_lt y with ⟨ys, e⟩ | ⟨ys, e⟩ <;> rw [e] <;> rfl
  show eqD (y.d false) (x.d false) = _
  rw [e, th_flat, th_flat]
  show some (D.eqv (y.d false) (x.d false)) = _
  congr 1
  rw [Bool.eq_iff_iff, beq_iff_eq, text_iff hx hy hs]
  refine ⟨eqv_eq _ _ (th_ii y) (th_ii x), fun h => ?_⟩
  rw [h]; exact eqv_refl _ (th_pure x).1
end M
end
section
set_option maxRecDepth 100000
set_option maxHeartbeats 4000000
namespace M
open PySem Vi L2
theorem tup_cont (t : Bool) (xs : List Vi.D) : biD .tuple [cont t xs] = some (.tup xs) := by cases t <;> rfl
/-- the thing with tuples -/
theorem other_ok {x : Th} (h : x.ok) (p y f r : Vi.Slot) : ev (.ite (.cmp .eq (.var 1) (.str "bent")) (.tup [(.bi .tuple [(.ix (.var 2) (.int 0))]), (.bi .tuple [(.lc [7] (.nm 7) (.ix (.var 2) (.int 1)) [] (.bi .tuple [(.var 7)]))])]) (.bi .tuple [(.var 2)])) [p, .fr (.str x.sort), .fr (x.d false), y, f, r, .un, .un] = .ok (x.d true) [p, .fr (.str x.sort), .fr (x.d false), y, f, r, .un, .un] := by
  obtain ⟨n1, n2, n3⟩ := ne_sorts
  cases x with
  | poly ps =>
    have n4 : (Str.ofString "poly" == Str.ofString "bent") = false := by decide +kernel
    have t := tup_cont false (frs ps)
    have t : biD .tuple [Th.d false (.poly ps)] = some (Th.d true (.poly ps)) := t
    simp [Th.sort, n4, t]
  | stretch u v =>
    have n4 : (Str.ofString "stretch" == Str.ofString "bent") = false := by decide +kernel
    have t : biD .tuple [Th.d false (.stretch u v)] = some (Th.d true (.stretch u v)) := rfl
    simp [Th.sort, n4, t]
  | bent ks pss =>
    obtain ⟨g, l1, l2, hr, gp, l3⟩ := h
    have x0 : getD (Th.d false (.bent ks pss)) (.int 0) = some (pc false ks) := by simp [Th.d, getD, ixD, ixN]
    have x1 : getD (Th.d false (.bent ks pss)) (.int 1) = some (cont false (pss.map (pc false))) := by simp [Th.d, getD, ixD, ixN]
    have t0 : biD .tuple [pc false ks] = some (pc true ks) := tup_cont false _
    have q := ev_lcQ (own := [7]) (tg := .nm 7) (src := .ix (.var 2) (.int 1)) (elt := .bi .tuple [(.var 7)]) (e := [p, .fr (.str "bent"), .fr (Th.d false (.bent ks pss)), y, f, r, .un, .un]) (s := cont false (pss.map (pc false))) (ps := pss) (pc false) (pc true) (by simp [x1]) (by simp) rfl (by omega) fun z hz => by
      have t : biD .tuple [pc false z] = some (pc true z) := tup_cont false _
      exact ⟨[p, .fr (.str "bent"), .fr (Th.d false (.bent ks pss)), y, f, r, .un, .fr (pc false z)], by simp, by simp [t], rfl⟩
    have e : Th.d true (.bent ks pss) = .tup [pc true ks, .tup (pss.map (pc true))] := rfl
    simp [Th.sort, x0, t0, q, e]
theorem bl_eq (a b : Bool) : cmpD .eq (.bl a) (.bl b) = some (a == b) := by
  show eqD (.bl a) (.bl b) = _
  have e : eqD (.bl a) (.bl b) = if (Vi.D.bl a).flat && (Vi.D.bl b).flat then some (D.eqv (.bl a) (.bl b)) else none := rfl
  rw [e]
  have : ∀ c : Bool, (Vi.D.bl c).flat = true := fun c => by cases c <;> rfl
  rw [this, this]
  simp [D.eqv]
theorem one_ok {p : Vi.D} (hp : Pot p) {s : String} (hs : s = "poly" ∨ s = "stretch" ∨ s = "bent") : ∃ p', F__law_one_right [p, .str s] = .ok (.bl true) [p'] ∧ Pot p' := by
  obtain ⟨x, p1, e1, hx, sx, hp1⟩ := some_ok (m := 6) hp (.inl rfl) hs
  obtain ⟨y, p2, e2, hy, sy, hp2⟩ := some_ok (m := 3) hp1 (.inr rfl) hs
  refine ⟨p2, ?_, hp2⟩
  rw [← sx] at e1 e2 ⊢
  rw [← sx] at sy
  clear hs sx
  have c1 := call_io1 (F := F__law_some) (i := 0) (es := [.var 1, .int 6]) (x := .non) (ds := [.str x.sort, .int 6]) (e := [.ow p, .fr (.str x.sort), .un, .un, .un, .un, .un, .un]) (by decide) rfl rfl e1
  have c2 := call_io1 (F := F__law_some) (i := 0) (es := [.var 1, .int 3]) (x := .non) (ds := [.str x.sort, .int 3]) (e := [.ow p1, .fr (.str x.sort), .un, .un, .un, .un, .un, .un]) (by decide) rfl rfl e2
  have c3 : ∀ e, callF F__law_written [.var 1, .var 2] [.str x.sort, x.d false] e = .ok (.str x.text) e := fun e => call_plain (by decide) rfl (lw_ok hx)
  obtain ⟨R, hR⟩ := rep_th hx
  obtain ⟨R2, hR2⟩ := rep_texts hx
  obtain ⟨R3, hR3⟩ := rep_ths hx
  have oth := other_ok hx (.ow p2) (.fr (y.d false)) (.fr (.str x.text)) (.fr (.str R))
  have tf := textof_ok false hx
  have tt := textof_ok true hx
  have to := to_ok hx
  have wp := wp_ok hx
  have sp := spoil_ok hx
  have ty := textof_ok false hy
  rw [sy] at ty
  have c4 : ∀ e, callF F_text_of [.var 1, .var 2] [.str x.sort, x.d false] e = .ok (.str x.text) e := fun e => call_plain (by decide) rfl tf
  have c5 : ∀ e, callK F_text_of [1, 0] [x.d true, .str x.sort] e = .ok (.str x.text) e := fun e => by simp [callK, permL, tt]
  have c6 : ∀ e, callF F_thing_of [.var 1, .var 4] [.str x.sort, .str x.text] e = .ok (x.d false) e := fun e => call_plain (by decide) rfl to
  have c7 : ∀ e, callK F_thing_of [1, 0] [.str x.text, .str x.sort] e = .ok (x.d false) e := fun e => by simp [callK, permL, to]
  have c8 : ∀ e, callF F_wrong_place [.var 1, .var 4] [.str x.sort, .str x.text] e = .ok .non e := fun e => call_plain (by decide) rfl wp
  have c9 : ∀ e, callK F_wrong_place [1, 0] [.str x.text, .str x.sort] e = .ok .non e := fun e => by simp [callK, permL, wp]
  have c10 : ∀ e, callF F__law_spoilt [.var 1, .var 4] [.str x.sort, .str x.text] e = .ok .non e := fun e => call_plain (by decide) rfl sp
  have c11 : ∀ e, callF F_text_of [.var 1, .var 3] [.str x.sort, y.d false] e = .ok (.str y.text) e := fun e => call_plain (by decide) rfl ty
  have q1 := th_eqD hx hx rfl
  have q2 := th_eqD hx hy sy
  generalize hdx : x.d false = dx at *
  generalize hdy : y.d false = dy at *
  generalize hdo : x.d true = dz at *
  generalize hS : x.sort = S at *
  generalize hT : x.text = T at *
  generalize hU : y.text = U at *
  simp [F__law_one_right, fn_run, ir__law_one_right, c1, c2, c3, hR, oth, c4, c5, hR2, c6, c7, hR3, c8, c9, c10, c11, q1, q2, bl_eq, -ev_ite]
end M
end
section
set_option maxRecDepth 100000
set_option maxHeartbeats 4000000
namespace M
open PySem Vi L2
def greatL : Ps := [(999, 1), (-999, 98), (0, 1), (1, 99), (-1, 99), (998, 99), (999, 97)]
def gknots : Ps := [(-999, 1), (-998, 99), (-1, 99), (0, 1), (1, 99), (999, 1)]
instance (p : Int) : Decidable (Num p) := inferInstanceAs (Decidable (_ ∧ _))
instance (p : Int) : Decidable (Den p) := inferInstanceAs (Decidable (_ ∧ _))
instance (p q : Int) : Decidable (Gd p q) := inferInstanceAs (Decidable (_ ∧ _ ∧ _))
theorem gds_of {ps : Ps} (h : (ps.all fun x => decide (Gd x.1 x.2)) = true) : Gds ps := fun x hx => of_decide_eq_true (List.all_eq_true.mp h x hx)
theorem great_ok : Gds greatL := gds_of (by decide +kernel)
theorem gknots_ok : Gds gknots := gds_of (by decide +kernel)
theorem tail_of {ps : Ps} (x : Int × Int) (h : x ≠ (0, 1)) : NoTail (ps ++ [x]) := fun y hy => by
  rw [List.getLast?_append] at hy
  simp at hy
  rw [← hy]; exact h
theorem full_loop {p' : Vi.D} {s1 s2 s3 s4 s5 : Vi.Slot} : ∀ {xs : List Th} {s6 s7 s8 : Vi.Slot}, (∀ x ∈ xs, x.ok) → ∃ t6 t7 t8, forL (.tp [(.nm 6), (.nm 7)]) (exs [.asg (.nm 8) (.call "_law_written" F__law_written [(.var 6), (.var 7)]), .ife (.or (.cmp .ne (.call "text_of" F_text_of [(.var 6), (.var 7)]) (.var 8)) (.cmp .ne (.bi .repr [(.call "thing_of" F_thing_of [(.var 6), (.var 8)])]) (.bi .repr [(.var 7)]))) [.ret (.bl false)] []])
    (xs.map fun x => .tup [.str x.sort, x.d false]) [.ow p', s1, s2, s3, s4, s5, s6, s7, s8] = .nx [.ow p', s1, s2, s3, s4, s5, t6, t7, t8]
  | [], s6, s7, s8, _ => ⟨s6, s7, s8, rfl⟩
  | x :: xs, s6, s7, s8, h => by
    have hx := h x List.mem_cons_self
    obtain ⟨t6, t7, t8, ih⟩ := full_loop (xs := xs) (s6 := .fr (.str x.sort)) (s7 := .fr (x.d false)) (s8 := .fr (.str x.text)) fun y hy => h y (List.mem_cons_of_mem _ hy)
    refine ⟨t6, t7, t8, ?_⟩
    obtain ⟨R, hR⟩ := rep_th hx
    have c1 : ∀ e, callF F__law_written [.var 6, .var 7] [.str x.sort, x.d false] e = .ok (.str x.text) e := fun e => call_plain (by decide) rfl (lw_ok hx)
    have c2 : ∀ e, callF F_text_of [.var 6, .var 7] [.str x.sort, x.d false] e = .ok (.str x.text) e := fun e => call_plain (by decide) rfl (textof_ok false hx)
    have c3 : ∀ e, callF F_thing_of [.var 6, .var 8] [.str x.sort, .str x.text] e = .ok (x.d false) e := fun e => call_plain (by decide) rfl (to_ok hx)
    rw [List.map_cons]
    unfold forL
    simp [c1, c2, c3, hR]
    exact ih
theorem full_ok {p : Vi.D} (hp : Pot p) : ∃ p', F__law_full_right [p] = .ok (.bl true) [p'] ∧ Pot p' := by
  have hr := rng1 (j := 4) (by decide)
  obtain ⟨xs, e', k1, ⟨p2, rfl, hp2⟩, k3, k4⟩ := ev_lcI (own := [3]) (tg := .nm 3) (src := .rng [.int 4]) (elt := .call "_law_pick" F__law_pick [(.iov 0), (.var 1)]) (e := [.ow p, .fr (.lst (frs greatL)), .un, .un, .un, .un, .un, .un, .un]) (e0 := [.ow p, .fr (.lst (frs greatL)), .un, .un, .un, .un, .un, .un, .un])
    (fun e => ∃ p, e = [.ow p, .fr (.lst (frs greatL)), .un, .un, .un, .un, .un, .un, .un] ∧ Pot p) (fun x => ∃ a b, x = fr a b ∧ Gd a b) (s := .lst (rangeL 0 4)) (by simp [hr]) (ds := rangeL 0 4) rfl (e1 := [.ow p, .fr (.lst (frs greatL)), .un, .un, .un, .un, .un, .un, .un]) rfl (by decide) ⟨p, rfl, hp⟩ (by
      rintro d hd e ⟨p, rfl, hp⟩
      obtain ⟨x, p2, e2, hx, hp2⟩ := pick_ok (xs := frs greatL) hp (by decide) (by decide)
      obtain ⟨q, hq, rfl⟩ := List.mem_map.mp hx
      have c2 := call_io1 (F := F__law_pick) (i := 0) (es := [.var 1]) (x := .non) (ds := [.lst (frs greatL)]) (e := [.ow p, .fr (.lst (frs greatL)), .un, .fr d, .un, .un, .un, .un, .un]) (by decide) rfl rfl e2
      exact ⟨[.ow p, .fr (.lst (frs greatL)), .un, .fr d, .un, .un, .un, .un, .un], fr q.1 q.2, [.ow p2, .fr (.lst (frs greatL)), .un, .fr d, .un, .un, .un, .un, .un], [.ow p2, .fr (.lst (frs greatL)), .un, .un, .un, .un, .un, .un, .un], by simp, by simp [c2], rfl, ⟨p2, rfl, hp2⟩, _, _, rfl, great_ok q hq⟩)
  obtain ⟨ps, rfl, gs⟩ := exists_ps k4
  have u : unwipe [.ow p, .fr (.lst (frs greatL)), .un, .un, .un, .un, .un, .un, .un] [.ow p2, .fr (.lst (frs greatL)), .un, .un, .un, .un, .un, .un, .un] [3] = [.ow p2, .fr (.lst (frs greatL)), .un, .un, .un, .un, .un, .un, .un] := rfl
  rw [u] at k1
  rw [frs_len] at k3
  have k3 : ps.length = 4 := k3
  have lk : lenOk ((frs ps).length + 1) = true := lenOk_of (by rw [frs_len]; omega)
  have gp : GP (ps ++ [(-999, 1)]) := ⟨fun y hy => by
    rcases List.mem_append.mp hy with h | h
    · exact gs y h
    · rw [List.mem_singleton.mp h]; decide +kernel, by rw [List.length_append]; simp; omega, tail_of _ (by decide)⟩
  have g0 : GP [] := ⟨(fun y hy => by cases hy), by decide, (fun y hy => by cases hy)⟩
  have g4 : GP [(0, 1), (0, 1), (0, 1), (0, 1), (1, 99)] := ⟨gds_of (by decide +kernel), by decide, tail_of (ps := [(0, 1), (0, 1), (0, 1), (0, 1)]) _ (by decide)⟩
  have g5 : GP [(1, 1)] := ⟨gds_of (by decide +kernel), by decide, tail_of (ps := []) _ (by decide)⟩
  let P : Ps := ps ++ [(-999, 1)]
  have all : ∀ x ∈ [Th.poly P, .poly [], .poly [(0, 1), (0, 1), (0, 1), (0, 1), (1, 99)], .stretch (-999, 1) (999, 1), .stretch (1, 99) (1, 98), .bent gknots [P, [], P, [], [(1, 1)]], .bent [(-1, 99), (0, 1)] [P]], x.ok := by
    intro x hx
    simp only [List.mem_cons, List.not_mem_nil, or_false] at hx
    rcases hx with rfl | rfl | rfl | rfl | rfl | rfl | rfl
    · exact gp
    · exact g0
    · exact g4
    · exact ⟨gds_of (by decide +kernel), by unfold Rise; decide +kernel⟩
    · exact ⟨gds_of (by decide +kernel), by unfold Rise; decide +kernel⟩
    · refine ⟨gknots_ok, by decide, by decide, by unfold Rise; decide +kernel, fun q hq => ?_, by rfl⟩
      simp only [List.mem_cons, List.not_mem_nil, or_false] at hq
      rcases hq with rfl | rfl | rfl | rfl | rfl
      · exact gp
      · exact g0
      · exact gp
      · exact g0
      · exact g5
    · refine ⟨gds_of (by decide +kernel), by decide, by decide, by unfold Rise; decide +kernel, fun q hq => ?_, by rfl⟩
      rw [List.mem_singleton.mp hq]; exact gp
  obtain ⟨t6, t7, t8, fl⟩ := full_loop (p' := p2) (s1 := .fr (.lst (frs greatL))) (s2 := .fr (.lst (frs P))) (s3 := .un) (s4 := .fr (.lst (frs gknots)))
    (s5 := .fr (.lst [.tup [.str "poly", .lst (frs P)], .tup [.str "poly", .lst []], .tup [.str "poly", .lst (frs [(0, 1), (0, 1), (0, 1), (0, 1), (1, 99)])], .tup [.str "stretch", .tup [fr (-999) 1, fr 999 1]], .tup [.str "stretch", .tup [fr 1 99, fr 1 98]]])) (s6 := .un) (s7 := .un) (s8 := .un) all
  have m4 : binD .mul (.lst [fr 0 1]) (.int 4) = some (.lst [fr 0 1, fr 0 1, fr 0 1, fr 0 1]) := by rfl
  have ct : cutD (.lst (frs gknots)) (some 2) (some 4) = some (.lst [fr (-1) 99, fr 0 1]) := by rfl
  have eP : frs ps ++ [fr (-999) 1] = frs P := by simp [P, frs]
  refine ⟨p2, ?_, hp2⟩
  have eg : frs greatL = [fr 999 1, fr (-999) 98, fr 0 1, fr 1 99, fr (-1) 99, fr 998 99, fr 999 97] := rfl
  have ek : frs gknots = [fr (-999) 1, fr (-998) 99, fr (-1) 99, fr 0 1, fr 1 99, fr 999 1] := rfl
  have e3 : [Th.poly P, .poly [], .poly [(0, 1), (0, 1), (0, 1), (0, 1), (1, 99)], .stretch (-999, 1) (999, 1), .stretch (1, 99) (1, 98), .bent gknots [P, [], P, [], [(1, 1)]], .bent [(-1, 99), (0, 1)] [P]].map (fun x => Vi.D.tup [.str x.sort, x.d false]) =
    [.tup [.str "poly", .lst (frs P)], .tup [.str "poly", .lst []], .tup [.str "poly", .lst (frs [(0, 1), (0, 1), (0, 1), (0, 1), (1, 99)])], .tup [.str "stretch", .tup [fr (-999) 1, fr 999 1]], .tup [.str "stretch", .tup [fr 1 99, fr 1 98]], .tup [.str "bent", .tup [.lst (frs gknots), .lst [.lst (frs P), .lst [], .lst (frs P), .lst [], .lst [fr 1 1]]]], .tup [.str "bent", .tup [.lst [fr (-1) 99, fr 0 1], .lst [.lst (frs P)]]]] := rfl
  rw [e3] at fl
  have lk2 : lenOk 5 = true := rfl
  have lk7 : lenOk 7 = true := rfl
  rw [eg] at k1
  rw [eg] at fl
  simp only [fr] at k1 fl m4 ct eP ek lk
  rw [ek] at ct fl
  have frx : frs [(0, 1), (0, 1), (0, 1), (0, 1), (1, 99)] = [.tup [.int 0, .int 1], .tup [.int 0, .int 1], .tup [.int 0, .int 1], .tup [.int 0, .int 1], .tup [.int 1, .int 99]] := rfl
  rw [frx] at fl
  simp [F__law_full_right, fn_run, ir__law_full_right, k1, lk, eP, m4, ct, lk2, lk7, itemsD, partE, fl]
end M
end
section
set_option maxRecDepth 100000
set_option maxHeartbeats 4000000
namespace M
open PySem Vi L2
theorem pot_tail {c k : Int} (hk : 0 ≤ k) (hk2 : k ≤ 3) {s0 : Vi.Slot} : ∃ a b : Int, exs [.ret (.lst [(.bi .max [(.int 0), (.bin .sub (.var 2) (.bin .pow (.int 10) (.int 18)))]), (.bin .add (.bin .mod (.bi .int [(.bin .add (.bin .add (.bin .mul (.bin .mod (.bi .int [(.var 2)]) (.int 2147483549)) (.int 45439)) (.bin .mul (.int 3041) (.var 1))) (.int 4441))]) (.int 2147483563)) (.int 1))])] [s0, .fr (.int k), .fr (.int c)] = .rt (.lst [.int a, .int b]) [s0, .fr (.int k), .fr (.int c)] ∧ 0 ≤ a ∧ 0 ≤ b ∧ b < 2147483564 := by
  have h1 := Int.emod_nonneg c (show (2147483549 : Int) ≠ 0 by decide)
  have h2 := Int.emod_lt_of_pos c (show (0 : Int) < 2147483549 by decide)
  have b1 : bitsOk (c % 2147483549) 45439 = true := bits_small (Nat.lt_of_le_of_lt (show _ ≤ 2147483549 by omega) (by decide)) (by decide)
  have b2 : bitsOk 3041 k = true := bits_small (by decide) (Nat.lt_of_le_of_lt (show _ ≤ 3 by omega) (by decide))
  have pw : binD .pow (.int 10) (.int 18) = some (.int 1000000000000000000) := by rfl
  have n1 := Int.emod_nonneg (c % 2147483549 * 45439 + 3041 * k + 4441) (show (2147483563 : Int) ≠ 0 by decide)
  have n2 := Int.emod_lt_of_pos (c % 2147483549 * 45439 + 3041 * k + 4441) (show (0 : Int) < 2147483563 by decide)
  refine ⟨_, _, by simp [b1, b2, pw]; exact ⟨rfl, rfl⟩, ?_, ?_, ?_⟩
  · split <;> omega
  · omega
  · omega
theorem pot_ok {ns : List Int} {k : Int} (hk : 0 ≤ k) (hk2 : k ≤ 3) : ∃ a b : Int, F__law_pot [.scr ns, .int k] = .ok (.lst [.int a, .int b]) [] ∧ Pot (.lst [.int a, .int b]) := by
  by_cases h : k < ns.length
  · have g : getD (.scr ns) (.int k) = some (.int (ns[k.toNat]'(by omega))) := by
      have : k.toNat < ns.length := by omega
      have hk' : ¬ k < 0 := by omega
      simp [getD, ixD, ixN, hk, h, this]
    obtain ⟨a, b, e, h1, h2, h3⟩ := pot_tail (c := if (ns[k.toNat]'(by omega)) < 0 then -(ns[k.toNat]'(by omega)) else (ns[k.toNat]'(by omega))) hk hk2 (s0 := .fr (.scr ns))
    refine ⟨a, b, ?_, a, b, rfl, h1, h2, h3⟩
    generalize ns[k.toNat]'(by omega) = z at *
    rw [F__law_pot, fn_run rfl]
    unfold ir__law_pot
    rw [exs_cons]
    have e1 : ex1 (.asg (.nm 2) (.ite (.cmp .lt (.var 1) (.bi .len [(.var 0)])) (.bi .abs [(.ix (.var 0) (.var 1))]) (.bin .add (.bin .mul (.int 4441) (.var 1)) (.int 3041)))) [.fr (.scr ns), .fr (.int k), .un] = .nx [.fr (.scr ns), .fr (.int k), .fr (.int (if z < 0 then -z else z))] := by
      simp [h, g]
    show (match (ex1 _ [.fr (.scr ns), .fr (.int k), .un]).seq _ with | .nx e => _ | .rt d e => _ | .ex x e => _ | _ => _) = _
    rw [e1, sq_nx, e]
    rfl
  · have b1 : bitsOk 4441 k = true := bits_small (by decide) (Nat.lt_of_le_of_lt (show _ ≤ 3 by omega) (by decide))
    obtain ⟨a, b, e, h1, h2, h3⟩ := pot_tail (c := 4441 * k + 3041) hk hk2 (s0 := .fr (.scr ns))
    refine ⟨a, b, ?_, a, b, rfl, h1, h2, h3⟩
    rw [F__law_pot, fn_run rfl]
    unfold ir__law_pot
    rw [exs_cons]
    have e1 : ex1 (.asg (.nm 2) (.ite (.cmp .lt (.var 1) (.bi .len [(.var 0)])) (.bi .abs [(.ix (.var 0) (.var 1))]) (.bin .add (.bin .mul (.int 4441) (.var 1)) (.int 3041)))) [.fr (.scr ns), .fr (.int k), .un] = .nx [.fr (.scr ns), .fr (.int k), .fr (.int (4441 * k + 3041))] := by
      simp [h, b1]
    show (match (ex1 _ [.fr (.scr ns), .fr (.int k), .un]).seq _ with | .nx e => _ | .rt d e => _ | .ex x e => _ | _ => _) = _
    rw [e1, sq_nx, e]
    rfl
theorem all_bl : ∀ {xs : List Vi.D}, (∀ x ∈ xs, x = .bl true) → xs = xs.map fun _ => Vi.D.bl true
  | [], _ => rfl
  | x :: r, h => by
    rw [List.map_cons, ← all_bl (xs := r) fun y hy => h y (List.mem_cons_of_mem _ hy), h x List.mem_cons_self]
theorem all_true_of {xs : List Vi.D} (h : ∀ x ∈ xs, x = .bl true) : biD .all [.lst xs] = some (.bl true) := by
  rw [all_bl h]; exact bi_all_true _
theorem mem_rangeL : ∀ {n : Nat} {lo : Int} {d : Vi.D}, d ∈ rangeL lo n → ∃ k, d = .int k ∧ lo ≤ k ∧ k < lo + n
  | 0, _, _, h => by cases h
  | n + 1, lo, d, h => by
    rcases List.mem_cons.mp h with h | h
    · exact ⟨lo, h, Int.le_refl _, by omega⟩
    · obtain ⟨k, e, h1, h2⟩ := mem_rangeL h
      exact ⟨k, e, by omega, by omega⟩
theorem law_true : LawTrue F_law 63 := by
  intro ns hl hb
  refine ⟨[], ?_⟩
  obtain ⟨n, hn⟩ : ∃ n : Int, n = if (if (ns.length : Int) < 3 then (ns.length : Int) else 3) > 1 then (if (ns.length : Int) < 3 then (ns.length : Int) else 3) else 1 := ⟨_, rfl⟩
  have n3 : n ≤ 3 := by rw [hn]; split <;> split <;> omega
  have n0 : 0 ≤ n := by rw [hn]; split <;> split <;> omega
  have hr := rng1 (j := n) (by omega)
  obtain ⟨e', k1, s1, s2, rfl⟩ := for_inv (rangeL 0 n.toNat).length (tg := .nm 1) (f := exs [.ownc 2 "_law_pot" F__law_pot [(.var 0), (.var 1)], .ife (.or (.not (.bi .all [(.lc [3] (.nm 3) (.tup [(.str "poly"), (.str "stretch"), (.str "bent")]) [] (.call "_law_one_right" F__law_one_right [(.iov 2), (.var 3)]))])) (.not (.call "_law_full_right" F__law_full_right [(.iov 2)]))) [.ret (.bl false)] []])
    (fun j e => ∃ s1 s2, e = [.fr (.scr ns), s1, s2, .un]) (ds := rangeL 0 n.toNat) (i := 0) (e := [.fr (.scr ns), .un, .un, .un]) (by omega) ⟨.un, .un, rfl⟩ (by
      rintro d hd j e hj ⟨s1, s2, rfl⟩
      obtain ⟨k, rfl, k0, k3⟩ := mem_rangeL hd
      obtain ⟨a, b, ep, hp⟩ := pot_ok (ns := ns) (k := k) k0 (by omega)
      have ow : ∀ e, owncR 2 F__law_pot [.scr ns, .int k] e = .nx (setS e 2 (.ow (.lst [.int a, .int b]))) := fun e => by
        unfold owncR
        rw [if_pos (by rfl), ep]; rfl
      obtain ⟨xs, e', l1, ⟨p2, rfl, hp2⟩, l3, l4⟩ := ev_lcI (own := [3]) (tg := .nm 3) (src := .tup [(.str "poly"), (.str "stretch"), (.str "bent")]) (elt := .call "_law_one_right" F__law_one_right [(.iov 2), (.var 3)]) (e := [.fr (.scr ns), .fr (.int k), .ow (.lst [.int a, .int b]), .un]) (e0 := [.fr (.scr ns), .fr (.int k), .ow (.lst [.int a, .int b]), .un])
        (fun e => ∃ p, e = [.fr (.scr ns), .fr (.int k), .ow p, .un] ∧ Pot p) (fun x => x = .bl true) (s := .tup [.str "poly", .str "stretch", .str "bent"]) (by simp) (ds := [.str "poly", .str "stretch", .str "bent"]) rfl (e1 := [.fr (.scr ns), .fr (.int k), .ow (.lst [.int a, .int b]), .un]) rfl (by decide) ⟨_, rfl, hp⟩ (by
          rintro d hd e ⟨p, rfl, hp⟩
          obtain ⟨s, rfl, hs⟩ : ∃ s : String, d = .str s ∧ (s = "poly" ∨ s = "stretch" ∨ s = "bent") := by
            simp only [List.mem_cons, List.not_mem_nil, or_false] at hd
            rcases hd with rfl | rfl | rfl
            · exact ⟨"poly", rfl, .inl rfl⟩
            · exact ⟨"stretch", rfl, .inr (.inl rfl)⟩
            · exact ⟨"bent", rfl, .inr (.inr rfl)⟩
          obtain ⟨p', e1, hp'⟩ := one_ok hp hs
          have c := call_io1 (F := F__law_one_right) (i := 2) (es := [.var 3]) (x := .non) (ds := [.str s]) (e := [.fr (.scr ns), .fr (.int k), .ow p, .fr (.str s)]) (by decide) rfl rfl e1
          exact ⟨[.fr (.scr ns), .fr (.int k), .ow p, .fr (.str s)], .bl true, [.fr (.scr ns), .fr (.int k), .ow p', .fr (.str s)], [.fr (.scr ns), .fr (.int k), .ow p', .un], by simp, by simp [c], rfl, ⟨p', rfl, hp'⟩, rfl⟩)
      have al := all_true_of l4
      obtain ⟨p3, e3, hp3⟩ := full_ok hp2
      have c3 := call_io1 (F := F__law_full_right) (i := 2) (es := []) (x := .non) (ds := []) (e := [.fr (.scr ns), .fr (.int k), .ow p2, .un]) (by decide) rfl rfl e3
      have u : unwipe [.fr (.scr ns), .fr (.int k), .ow (.lst [.int a, .int b]), .un] [.fr (.scr ns), .fr (.int k), .ow p2, .un] [3] = [.fr (.scr ns), .fr (.int k), .ow p2, .un] := rfl
      rw [u] at l1
      exact ⟨[.fr (.scr ns), .fr (.int k), s2, .un], [.fr (.scr ns), .fr (.int k), .ow p3, .un], by simp, by simp [ow, l1, al, c3, -bx_all], .fr (.int k), .ow p3, rfl⟩)
  generalize hL : rangeL 0 n.toNat = L at hr k1
  have hr : rngD [.int (if (if (ns.length : Int) < 3 then (ns.length : Int) else 3) > 1 then (if (ns.length : Int) < 3 then (ns.length : Int) else 3) else 1)] = some L := by rw [← hn]; exact hr
  rw [F_law, fn_run rfl]
  unfold ir_law
  have e1 : ex1 (.fo (.nm 1) (.rng [(.bi .max [(.int 1), (.bi .min [(.int 3), (.bi .len [(.var 0)])])])]) [.ownc 2 "_law_pot" F__law_pot [(.var 0), (.var 1)], .ife (.or (.not (.bi .all [(.lc [3] (.nm 3) (.tup [(.str "poly"), (.str "stretch"), (.str "bent")]) [] (.call "_law_one_right" F__law_one_right [(.iov 2), (.var 3)]))])) (.not (.call "_law_full_right" F__law_full_right [(.iov 2)]))) [.ret (.bl false)] []]) [.fr (.scr ns), .un, .un, .un] = .nx [.fr (.scr ns), s1, s2, .un] := by
    rw [x_fo]
    have s : ev (.rng [(.bi .max [(.int 1), (.bi .min [(.int 3), (.bi .len [(.var 0)])])])]) [.fr (.scr ns), .un, .un, .un] = .ok (.lst L) [.fr (.scr ns), .un, .un, .un] := by
      simp only [ev_rng, evs_cons, evs_nil, ev_bi, ev_int, ev_var, rb_ok, rd_eq, g0, bi_lenc, ro_some, bx_min, bx_max, hr, Option.map_some]
    rw [s, rs_ok]
    exact k1
  show (match (ex1 _ [.fr (.scr ns), .un, .un, .un]).seq _ with | .nx e => _ | .rt d e => _ | .ex x e => _ | _ => _) = _
  rw [e1, sq_nx]
  simp
end M
end
section
set_option maxRecDepth 100000
set_option maxHeartbeats 0
namespace M
open PySem PySem.Spec PyProof.Rows L2 Vi
def top (i : Nat) : Stmt := PySem.Challenge.pw_bentpieces_k92_whole_things_written_and.main.body.getD i (.Pass ⟨0, 0, 0, 0⟩)
theorem ok_is_integer : DefOk "is_integer" (defBody (top 9)) (defScope (top 9)) ["value"] ["value"] [false] ir_is_integer 20 20 := ⟨⟨rfl, rfl, rfl, by decide +kernel, by decide +kernel, by decide +kernel, by decide +kernel⟩, rfl, by decide, by kernel_rfl⟩
theorem ok_is_list : DefOk "is_list" (defBody (top 10)) (defScope (top 10)) ["value"] ["value"] [false] ir_is_list 19 19 := ⟨⟨rfl, rfl, rfl, by decide +kernel, by decide +kernel, by decide +kernel, by decide +kernel⟩, rfl, by decide, by kernel_rfl⟩
theorem ok_divisor : DefOk "divisor" (defBody (top 11)) (defScope (top 11)) ["one", "late"] ["one", "late"] [false, false] ir_divisor 22 22 := ⟨⟨rfl, rfl, rfl, by decide +kernel, by decide +kernel, by decide +kernel, by decide +kernel⟩, rfl, by decide, by kernel_rfl⟩
theorem ok_is_fraction_of : DefOk "is_fraction_of" (defBody (top 12)) (defScope (top 12)) ["value"] ["value"] [false] ir_is_fraction_of 23 23 := ⟨⟨rfl, rfl, rfl, by decide +kernel, by decide +kernel, by decide +kernel, by decide +kernel⟩, rfl, by decide, by kernel_rfl⟩
theorem ok_is_small : DefOk "is_small" (defBody (top 13)) (defScope (top 13)) ["value"] ["value"] [false] ir_is_small 21 21 := ⟨⟨rfl, rfl, rfl, by decide +kernel, by decide +kernel, by decide +kernel, by decide +kernel⟩, rfl, by decide, by kernel_rfl⟩
theorem ok_are_fractions : DefOk "are_fractions" (defBody (top 14)) (defScope (top 14)) ["value", "one"] ["value"] [false] ir_are_fractions 21 21 := ⟨⟨rfl, rfl, rfl, by decide +kernel, by decide +kernel, by decide +kernel, by decide +kernel⟩, rfl, by decide, by kernel_rfl⟩
theorem ok_are_small : DefOk "are_small" (defBody (top 15)) (defScope (top 15)) ["value", "one"] ["value"] [false] ir_are_small 21 21 := ⟨⟨rfl, rfl, rfl, by decide +kernel, by decide +kernel, by decide +kernel, by decide +kernel⟩, rfl, by decide, by kernel_rfl⟩
theorem ok_is_below : DefOk "is_below" (defBody (top 18)) (defScope (top 18)) ["one", "late"] ["one", "late"] [false, false] ir_is_below 20 20 := ⟨⟨rfl, rfl, rfl, by decide +kernel, by decide +kernel, by decide +kernel, by decide +kernel⟩, rfl, by decide, by kernel_rfl⟩
theorem ok_is_poly_of : DefOk "is_poly_of" (defBody (top 22)) (defScope (top 22)) ["value"] ["value"] [false] ir_is_poly_of 20 20 := ⟨⟨rfl, rfl, rfl, by decide +kernel, by decide +kernel, by decide +kernel, by decide +kernel⟩, rfl, by decide, by kernel_rfl⟩
theorem ok_is_stretch_of : DefOk "is_stretch_of" (defBody (top 23)) (defScope (top 23)) ["value", "one"] ["value"] [false] ir_is_stretch_of 23 23 := ⟨⟨rfl, rfl, rfl, by decide +kernel, by decide +kernel, by decide +kernel, by decide +kernel⟩, rfl, by decide, by kernel_rfl⟩
theorem ok_are_knots_of : DefOk "are_knots_of" (defBody (top 24)) (defScope (top 24)) ["value", "one", "late"] ["value"] [false] ir_are_knots_of 23 23 := ⟨⟨rfl, rfl, rfl, by decide +kernel, by decide +kernel, by decide +kernel, by decide +kernel⟩, rfl, by decide, by kernel_rfl⟩
theorem ok_is_bent_of : DefOk "is_bent_of" (defBody (top 25)) (defScope (top 25)) ["value", "poly"] ["value"] [false] ir_is_bent_of 23 23 := ⟨⟨rfl, rfl, rfl, by decide +kernel, by decide +kernel, by decide +kernel, by decide +kernel⟩, rfl, by decide, by kernel_rfl⟩
theorem ok_told_of : DefOk "told_of" (defBody (top 26)) (defScope (top 26)) ["poly", "found"] ["poly"] [false] ir_told_of 22 22 := ⟨⟨rfl, rfl, rfl, by decide +kernel, by decide +kernel, by decide +kernel, by decide +kernel⟩, rfl, by decide, by kernel_rfl⟩
theorem ok_are_figures : DefOk "are_figures" (defBody (top 34)) (defScope (top 34)) ["text", "sign"] ["text"] [false] ir_are_figures 21 21 := ⟨⟨rfl, rfl, rfl, by decide +kernel, by decide +kernel, by decide +kernel, by decide +kernel⟩, rfl, by decide, by kernel_rfl⟩
theorem ok_number_in : DefOk "number_in" (defBody (top 35)) (defScope (top 35)) ["text", "least", "most", "bare"] ["text", "least", "most"] [false, false, false] ir_number_in 23 23 := ⟨⟨rfl, rfl, rfl, by decide +kernel, by decide +kernel, by decide +kernel, by decide +kernel⟩, rfl, by decide, by kernel_rfl⟩
theorem ok_fraction_in : DefOk "fraction_in" (defBody (top 36)) (defScope (top 36)) ["text", "parts", "top", "bottom"] ["text"] [false] ir_fraction_in 25 25 := ⟨⟨rfl, rfl, rfl, by decide +kernel, by decide +kernel, by decide +kernel, by decide +kernel⟩, rfl, by decide, by kernel_rfl⟩
theorem ok_bottoms_of : DefOk "bottoms_of" (defBody (top 37)) (defScope (top 37)) ["top", "one"] ["top"] [false] ir_bottoms_of 22 22 := ⟨⟨rfl, rfl, rfl, by decide +kernel, by decide +kernel, by decide +kernel, by decide +kernel⟩, rfl, by decide, by kernel_rfl⟩
theorem ok_greatest_from : DefOk "greatest_from" (defBody (top 38)) (defScope (top 38)) ["text", "parts", "top", "some", "one"] ["text"] [false] ir_greatest_from 30 30 := ⟨⟨rfl, rfl, rfl, by decide +kernel, by decide +kernel, by decide +kernel, by decide +kernel⟩, rfl, by decide, by kernel_rfl⟩
theorem ok_is_begun_above : DefOk "is_begun_above" (defBody (top 39)) (defScope (top 39)) ["text", "low", "most"] ["text", "low"] [false, false] ir_is_begun_above 21 21 := ⟨⟨rfl, rfl, rfl, by decide +kernel, by decide +kernel, by decide +kernel, by decide +kernel⟩, rfl, by decide, by kernel_rfl⟩
theorem ok_fraction_text : DefOk "fraction_text" (defBody (top 40)) (defScope (top 40)) ["one"] ["one"] [false] ir_fraction_text 22 22 := ⟨⟨rfl, rfl, rfl, by decide +kernel, by decide +kernel, by decide +kernel, by decide +kernel⟩, rfl, by decide, by kernel_rfl⟩
theorem ok_poly_in : DefOk "poly_in" (defBody (top 41)) (defScope (top 41)) ["text", "found", "part"] ["text"] [false] ir_poly_in 23 23 := ⟨⟨rfl, rfl, rfl, by decide +kernel, by decide +kernel, by decide +kernel, by decide +kernel⟩, rfl, by decide, by kernel_rfl⟩
theorem ok_is_poly_begun : DefOk "is_poly_begun" (defBody (top 42)) (defScope (top 42)) ["text", "parts", "part"] ["text"] [false] ir_is_poly_begun 25 25 := ⟨⟨rfl, rfl, rfl, by decide +kernel, by decide +kernel, by decide +kernel, by decide +kernel⟩, rfl, by decide, by kernel_rfl⟩
theorem ok_poly_text : DefOk "poly_text" (defBody (top 43)) (defScope (top 43)) ["poly", "one"] ["poly"] [false] ir_poly_text 21 21 := ⟨⟨rfl, rfl, rfl, by decide +kernel, by decide +kernel, by decide +kernel, by decide +kernel⟩, rfl, by decide, by kernel_rfl⟩
theorem ok_rising_in : DefOk "rising_in" (defBody (top 44)) (defScope (top 44)) ["text", "sign", "found", "part", "one", "late"] ["text", "sign"] [false, false] ir_rising_in 26 26 := ⟨⟨rfl, rfl, rfl, by decide +kernel, by decide +kernel, by decide +kernel, by decide +kernel⟩, rfl, by decide, by kernel_rfl⟩
theorem ok_are_rising_begun : DefOk "are_rising_begun" (defBody (top 45)) (defScope (top 45)) ["text", "sign", "most", "parts", "ahead"] ["text", "sign", "most"] [false, false, false] ir_are_rising_begun 25 25 := ⟨⟨rfl, rfl, rfl, by decide +kernel, by decide +kernel, by decide +kernel, by decide +kernel⟩, rfl, by decide, by kernel_rfl⟩
theorem ok_stretch_in : DefOk "stretch_in" (defBody (top 46)) (defScope (top 46)) ["text", "found"] ["text"] [false] ir_stretch_in 22 22 := ⟨⟨rfl, rfl, rfl, by decide +kernel, by decide +kernel, by decide +kernel, by decide +kernel⟩, rfl, by decide, by kernel_rfl⟩
theorem ok_knots_in : DefOk "knots_in" (defBody (top 47)) (defScope (top 47)) ["text", "found"] ["text"] [false] ir_knots_in 22 22 := ⟨⟨rfl, rfl, rfl, by decide +kernel, by decide +kernel, by decide +kernel, by decide +kernel⟩, rfl, by decide, by kernel_rfl⟩
theorem ok_bent_in : DefOk "bent_in" (defBody (top 48)) (defScope (top 48)) ["text", "parts", "knots", "polys", "part"] ["text"] [false] ir_bent_in 24 24 := ⟨⟨rfl, rfl, rfl, by decide +kernel, by decide +kernel, by decide +kernel, by decide +kernel⟩, rfl, by decide, by kernel_rfl⟩
theorem ok_is_bent_begun : DefOk "is_bent_begun" (defBody (top 49)) (defScope (top 49)) ["text", "parts", "knots", "part"] ["text"] [false] ir_is_bent_begun 27 27 := ⟨⟨rfl, rfl, rfl, by decide +kernel, by decide +kernel, by decide +kernel, by decide +kernel⟩, rfl, by decide, by kernel_rfl⟩
theorem ok_is_sort : DefOk "is_sort" (defBody (top 50)) (defScope (top 50)) ["value"] ["value"] [false] ir_is_sort 19 19 := ⟨⟨rfl, rfl, rfl, by decide +kernel, by decide +kernel, by decide +kernel, by decide +kernel⟩, rfl, by decide, by kernel_rfl⟩
theorem ok_is_told_poly : DefOk "is_told_poly" (defBody (top 51)) (defScope (top 51)) ["value"] ["value"] [false] ir_is_told_poly 20 20 := ⟨⟨rfl, rfl, rfl, by decide +kernel, by decide +kernel, by decide +kernel, by decide +kernel⟩, rfl, by decide, by kernel_rfl⟩
theorem ok_is_thing_of : DefOk "is_thing_of" (defBody (top 52)) (defScope (top 52)) ["sort", "value", "poly"] ["sort", "value"] [false, false] ir_is_thing_of 24 24 := ⟨⟨rfl, rfl, rfl, by decide +kernel, by decide +kernel, by decide +kernel, by decide +kernel⟩, rfl, by decide, by kernel_rfl⟩
theorem ok_read : DefOk "read" (defBody (top 53)) (defScope (top 53)) ["sort", "text"] ["sort", "text"] [false, false] ir_read 20 20 := ⟨⟨rfl, rfl, rfl, by decide +kernel, by decide +kernel, by decide +kernel, by decide +kernel⟩, rfl, by decide, by kernel_rfl⟩
theorem ok_is_begun : DefOk "is_begun" (defBody (top 54)) (defScope (top 54)) ["sort", "text"] ["sort", "text"] [false, false] ir_is_begun 20 20 := ⟨⟨rfl, rfl, rfl, by decide +kernel, by decide +kernel, by decide +kernel, by decide +kernel⟩, rfl, by decide, by kernel_rfl⟩
theorem ok_written_by : DefOk "written_by" (defBody (top 55)) (defScope (top 55)) ["sort", "thing", "one", "poly"] ["sort", "thing"] [false, false] ir_written_by 26 26 := ⟨⟨rfl, rfl, rfl, by decide +kernel, by decide +kernel, by decide +kernel, by decide +kernel⟩, rfl, by decide, by kernel_rfl⟩
theorem ok_place_in : DefOk "place_in" (defBody (top 56)) (defScope (top 56)) ["sort", "text", "place"] ["sort", "text"] [false, false] ir_place_in 25 25 := ⟨⟨rfl, rfl, rfl, by decide +kernel, by decide +kernel, by decide +kernel, by decide +kernel⟩, rfl, by decide, by kernel_rfl⟩
theorem ok_read_thing : DefOk "read_thing" (defBody (top 57)) (defScope (top 57)) ["sort", "text", "place"] ["sort", "text"] [false, false] ir_read_thing 21 21 := ⟨⟨rfl, rfl, rfl, by decide +kernel, by decide +kernel, by decide +kernel, by decide +kernel⟩, rfl, by decide, by kernel_rfl⟩
theorem ok_check_text : DefOk "check_text" (defBody (top 58)) (defScope (top 58)) ["sort", "written"] ["sort", "written"] [false, false] ir_check_text 20 20 := ⟨⟨rfl, rfl, rfl, by decide +kernel, by decide +kernel, by decide +kernel, by decide +kernel⟩, rfl, by decide, by kernel_rfl⟩
theorem ok_text_of : DefOk "text_of" (defBody (top 59)) (defScope (top 59)) ["sort", "kept_thing"] ["sort", "kept_thing"] [false, false] ir_text_of 21 21 := ⟨⟨rfl, rfl, rfl, by decide +kernel, by decide +kernel, by decide +kernel, by decide +kernel⟩, rfl, by decide, by kernel_rfl⟩
theorem ok_wrong_place : DefOk "wrong_place" (defBody (top 60)) (defScope (top 60)) ["sort", "written"] ["sort", "written"] [false, false] ir_wrong_place 19 19 := ⟨⟨rfl, rfl, rfl, by decide +kernel, by decide +kernel, by decide +kernel, by decide +kernel⟩, rfl, by decide, by kernel_rfl⟩
theorem ok_thing_of : DefOk "thing_of" (defBody (top 61)) (defScope (top 61)) ["sort", "written"] ["sort", "written"] [false, false] ir_thing_of 19 19 := ⟨⟨rfl, rfl, rfl, by decide +kernel, by decide +kernel, by decide +kernel, by decide +kernel⟩, rfl, by decide, by kernel_rfl⟩
theorem ok__law_pot : DefOk "_law_pot" (defBody (top 63)) (defScope (top 63)) ["script", "k", "cell"] ["script", "k"] [false, false] ir__law_pot 27 27 := ⟨⟨rfl, rfl, rfl, by decide +kernel, by decide +kernel, by decide +kernel, by decide +kernel⟩, rfl, by decide, by kernel_rfl⟩
theorem ok__law_draw : DefOk "_law_draw" (defBody (top 64)) (defScope (top 64)) ["pot", "many", "digit"] ["pot", "many"] [true, false] ir__law_draw 26 26 := ⟨⟨rfl, rfl, rfl, by decide +kernel, by decide +kernel, by decide +kernel, by decide +kernel⟩, rfl, by decide, by kernel_rfl⟩
theorem ok__law_pick : DefOk "_law_pick" (defBody (top 65)) (defScope (top 65)) ["pot", "some"] ["pot", "some"] [true, false] ir__law_pick 20 20 := ⟨⟨rfl, rfl, rfl, by decide +kernel, by decide +kernel, by decide +kernel, by decide +kernel⟩, rfl, by decide, by kernel_rfl⟩
theorem ok__law_frac : DefOk "_law_frac" (defBody (top 66)) (defScope (top 66)) ["top", "bottom", "one", "late"] ["top", "bottom"] [false, false] ir__law_frac 24 24 := ⟨⟨rfl, rfl, rfl, by decide +kernel, by decide +kernel, by decide +kernel, by decide +kernel⟩, rfl, by decide, by kernel_rfl⟩
theorem ok__law_plus : DefOk "_law_plus" (defBody (top 67)) (defScope (top 67)) ["one", "late"] ["one", "late"] [false, false] ir__law_plus 21 21 := ⟨⟨rfl, rfl, rfl, by decide +kernel, by decide +kernel, by decide +kernel, by decide +kernel⟩, rfl, by decide, by kernel_rfl⟩
theorem ok__law_minus : DefOk "_law_minus" (defBody (top 68)) (defScope (top 68)) ["one", "late"] ["one", "late"] [false, false] ir__law_minus 21 21 := ⟨⟨rfl, rfl, rfl, by decide +kernel, by decide +kernel, by decide +kernel, by decide +kernel⟩, rfl, by decide, by kernel_rfl⟩
theorem ok__law_times : DefOk "_law_times" (defBody (top 69)) (defScope (top 69)) ["one", "late"] ["one", "late"] [false, false] ir__law_times 20 20 := ⟨⟨rfl, rfl, rfl, by decide +kernel, by decide +kernel, by decide +kernel, by decide +kernel⟩, rfl, by decide, by kernel_rfl⟩
theorem ok__law_sum : DefOk "_law_sum" (defBody (top 70)) (defScope (top 70)) ["some", "found", "one"] ["some"] [false] ir__law_sum 21 21 := ⟨⟨rfl, rfl, rfl, by decide +kernel, by decide +kernel, by decide +kernel, by decide +kernel⟩, rfl, by decide, by kernel_rfl⟩
theorem ok__law_below : DefOk "_law_below" (defBody (top 71)) (defScope (top 71)) ["one", "late"] ["one", "late"] [false, false] ir__law_below 20 20 := ⟨⟨rfl, rfl, rfl, by decide +kernel, by decide +kernel, by decide +kernel, by decide +kernel⟩, rfl, by decide, by kernel_rfl⟩
theorem ok__law_small : DefOk "_law_small" (defBody (top 72)) (defScope (top 72)) ["pot", "most"] ["pot", "most"] [true, false] ir__law_small 22 22 := ⟨⟨rfl, rfl, rfl, by decide +kernel, by decide +kernel, by decide +kernel, by decide +kernel⟩, rfl, by decide, by kernel_rfl⟩
theorem ok__law_poly : DefOk "_law_poly" (defBody (top 73)) (defScope (top 73)) ["pot", "most", "found", "turn"] ["pot", "most"] [true, false] ir__law_poly 24 24 := ⟨⟨rfl, rfl, rfl, by decide +kernel, by decide +kernel, by decide +kernel, by decide +kernel⟩, rfl, by decide, by kernel_rfl⟩
theorem ok__law_rising : DefOk "_law_rising" (defBody (top 74)) (defScope (top 74)) ["pot", "many", "found", "turn"] ["pot", "many"] [true, false] ir__law_rising 25 25 := ⟨⟨rfl, rfl, rfl, by decide +kernel, by decide +kernel, by decide +kernel, by decide +kernel⟩, rfl, by decide, by kernel_rfl⟩
theorem ok__law_some : DefOk "_law_some" (defBody (top 75)) (defScope (top 75)) ["pot", "sort", "most", "knots", "piece"] ["pot", "sort", "most"] [true, false, false] ir__law_some 24 24 := ⟨⟨rfl, rfl, rfl, by decide +kernel, by decide +kernel, by decide +kernel, by decide +kernel⟩, rfl, by decide, by kernel_rfl⟩
theorem ok__law_fraction : DefOk "_law_fraction" (defBody (top 76)) (defScope (top 76)) ["one"] ["one"] [false] ir__law_fraction 22 22 := ⟨⟨rfl, rfl, rfl, by decide +kernel, by decide +kernel, by decide +kernel, by decide +kernel⟩, rfl, by decide, by kernel_rfl⟩
theorem ok__law_fractions : DefOk "_law_fractions" (defBody (top 77)) (defScope (top 77)) ["some", "one"] ["some"] [false] ir__law_fractions 20 20 := ⟨⟨rfl, rfl, rfl, by decide +kernel, by decide +kernel, by decide +kernel, by decide +kernel⟩, rfl, by decide, by kernel_rfl⟩
theorem ok__law_written (F_rec : Fn) : DefOk "_law_written" (defBody (top 78)) (defScope (top 78)) ["sort", "thing", "poly"] ["sort", "thing"] [false, false] (ir__law_written F_rec) 24 24 := ⟨⟨rfl, rfl, rfl, by decide +kernel, by decide +kernel, by decide +kernel, by decide +kernel⟩, rfl, by decide, by kernel_rfl⟩
theorem ok__law_spoilt : DefOk "_law_spoilt" (defBody (top 79)) (defScope (top 79)) ["sort", "form"] ["sort", "form"] [false, false] ir__law_spoilt 23 23 := ⟨⟨rfl, rfl, rfl, by decide +kernel, by decide +kernel, by decide +kernel, by decide +kernel⟩, rfl, by decide, by kernel_rfl⟩
theorem ok__law_one_right : DefOk "_law_one_right" (defBody (top 80)) (defScope (top 80)) ["pot", "sort", "thing", "late", "form", "shown", "other", "poly"] ["pot", "sort"] [true, false] ir__law_one_right 30 30 := ⟨⟨rfl, rfl, rfl, by decide +kernel, by decide +kernel, by decide +kernel, by decide +kernel⟩, rfl, by decide, by kernel_rfl⟩
theorem ok__law_full_right : DefOk "_law_full_right" (defBody (top 81)) (defScope (top 81)) ["pot", "great", "poly", "turn", "knots", "some", "sort", "thing", "form"] ["pot"] [true] ir__law_full_right 28 28 := ⟨⟨rfl, rfl, rfl, by decide +kernel, by decide +kernel, by decide +kernel, by decide +kernel⟩, rfl, by decide, by kernel_rfl⟩
theorem ok_law : DefOk "law" (defBody (top 82)) (defScope (top 82)) ["script", "k", "pot", "sort"] ["script"] [false] ir_law 24 24 := ⟨⟨rfl, rfl, rfl, by decide +kernel, by decide +kernel, by decide +kernel, by decide +kernel⟩, rfl, by decide, by kernel_rfl⟩
end M
end
section
set_option maxRecDepth 100000
set_option maxHeartbeats 0
namespace M
open PySem PySem.Spec PyProof.Rows L2 Vi
def d_is_integer : He.DefD := ⟨("is_integer", none), "is_integer", "is_integer", defArgs (top 9), defBody (top 9), defScope (top 9), [], []⟩
def d_is_list : He.DefD := ⟨("is_list", none), "is_list", "is_list", defArgs (top 10), defBody (top 10), defScope (top 10), [], []⟩
def d_divisor : He.DefD := ⟨("divisor", none), "divisor", "divisor", defArgs (top 11), defBody (top 11), defScope (top 11), [], []⟩
def d_is_fraction_of : He.DefD := ⟨("is_fraction_of", none), "is_fraction_of", "is_fraction_of", defArgs (top 12), defBody (top 12), defScope (top 12), [], []⟩
def d_is_small : He.DefD := ⟨("is_small", none), "is_small", "is_small", defArgs (top 13), defBody (top 13), defScope (top 13), [], []⟩
def d_are_fractions : He.DefD := ⟨("are_fractions", none), "are_fractions", "are_fractions", defArgs (top 14), defBody (top 14), defScope (top 14), [], []⟩
def d_are_small : He.DefD := ⟨("are_small", none), "are_small", "are_small", defArgs (top 15), defBody (top 15), defScope (top 15), [], []⟩
def d_is_below : He.DefD := ⟨("is_below", none), "is_below", "is_below", defArgs (top 18), defBody (top 18), defScope (top 18), [], []⟩
def d_is_poly_of : He.DefD := ⟨("is_poly_of", none), "is_poly_of", "is_poly_of", defArgs (top 22), defBody (top 22), defScope (top 22), [], []⟩
def d_is_stretch_of : He.DefD := ⟨("is_stretch_of", none), "is_stretch_of", "is_stretch_of", defArgs (top 23), defBody (top 23), defScope (top 23), [], []⟩
def d_are_knots_of : He.DefD := ⟨("are_knots_of", none), "are_knots_of", "are_knots_of", defArgs (top 24), defBody (top 24), defScope (top 24), [], []⟩
def d_is_bent_of : He.DefD := ⟨("is_bent_of", none), "is_bent_of", "is_bent_of", defArgs (top 25), defBody (top 25), defScope (top 25), [], []⟩
def d_told_of : He.DefD := ⟨("told_of", none), "told_of", "told_of", defArgs (top 26), defBody (top 26), defScope (top 26), [], []⟩
def d_are_figures : He.DefD := ⟨("are_figures", none), "are_figures", "are_figures", defArgs (top 34), defBody (top 34), defScope (top 34), [], []⟩
def d_number_in : He.DefD := ⟨("number_in", none), "number_in", "number_in", defArgs (top 35), defBody (top 35), defScope (top 35), [], []⟩
def d_fraction_in : He.DefD := ⟨("fraction_in", none), "fraction_in", "fraction_in", defArgs (top 36), defBody (top 36), defScope (top 36), [], []⟩
def d_bottoms_of : He.DefD := ⟨("bottoms_of", none), "bottoms_of", "bottoms_of", defArgs (top 37), defBody (top 37), defScope (top 37), [], []⟩
def d_greatest_from : He.DefD := ⟨("greatest_from", none), "greatest_from", "greatest_from", defArgs (top 38), defBody (top 38), defScope (top 38), [], []⟩
def d_is_begun_above : He.DefD := ⟨("is_begun_above", none), "is_begun_above", "is_begun_above", defArgs (top 39), defBody (top 39), defScope (top 39), [], []⟩
def d_fraction_text : He.DefD := ⟨("fraction_text", none), "fraction_text", "fraction_text", defArgs (top 40), defBody (top 40), defScope (top 40), [], []⟩
def d_poly_in : He.DefD := ⟨("poly_in", none), "poly_in", "poly_in", defArgs (top 41), defBody (top 41), defScope (top 41), [], []⟩
def d_is_poly_begun : He.DefD := ⟨("is_poly_begun", none), "is_poly_begun", "is_poly_begun", defArgs (top 42), defBody (top 42), defScope (top 42), [], []⟩
def d_poly_text : He.DefD := ⟨("poly_text", none), "poly_text", "poly_text", defArgs (top 43), defBody (top 43), defScope (top 43), [], []⟩
def d_rising_in : He.DefD := ⟨("rising_in", none), "rising_in", "rising_in", defArgs (top 44), defBody (top 44), defScope (top 44), [], []⟩
def d_are_rising_begun : He.DefD := ⟨("are_rising_begun", none), "are_rising_begun", "are_rising_begun", defArgs (top 45), defBody (top 45), defScope (top 45), [], []⟩
def d_stretch_in : He.DefD := ⟨("stretch_in", none), "stretch_in", "stretch_in", defArgs (top 46), defBody (top 46), defScope (top 46), [], []⟩
def d_knots_in : He.DefD := ⟨("knots_in", none), "knots_in", "knots_in", defArgs (top 47), defBody (top 47), defScope (top 47), [], []⟩
def d_bent_in : He.DefD := ⟨("bent_in", none), "bent_in", "bent_in", defArgs (top 48), defBody (top 48), defScope (top 48), [], []⟩
def d_is_bent_begun : He.DefD := ⟨("is_bent_begun", none), "is_bent_begun", "is_bent_begun", defArgs (top 49), defBody (top 49), defScope (top 49), [], []⟩
def d_is_sort : He.DefD := ⟨("is_sort", none), "is_sort", "is_sort", defArgs (top 50), defBody (top 50), defScope (top 50), [], []⟩
def d_is_told_poly : He.DefD := ⟨("is_told_poly", none), "is_told_poly", "is_told_poly", defArgs (top 51), defBody (top 51), defScope (top 51), [], []⟩
def d_is_thing_of : He.DefD := ⟨("is_thing_of", none), "is_thing_of", "is_thing_of", defArgs (top 52), defBody (top 52), defScope (top 52), [], []⟩
def d_read : He.DefD := ⟨("read", none), "read", "read", defArgs (top 53), defBody (top 53), defScope (top 53), [], []⟩
def d_is_begun : He.DefD := ⟨("is_begun", none), "is_begun", "is_begun", defArgs (top 54), defBody (top 54), defScope (top 54), [], []⟩
def d_written_by : He.DefD := ⟨("written_by", none), "written_by", "written_by", defArgs (top 55), defBody (top 55), defScope (top 55), [], []⟩
def d_place_in : He.DefD := ⟨("place_in", none), "place_in", "place_in", defArgs (top 56), defBody (top 56), defScope (top 56), [], []⟩
def d_read_thing : He.DefD := ⟨("read_thing", none), "read_thing", "read_thing", defArgs (top 57), defBody (top 57), defScope (top 57), [], []⟩
def d_check_text : He.DefD := ⟨("check_text", none), "check_text", "check_text", defArgs (top 58), defBody (top 58), defScope (top 58), [], []⟩
def d_text_of : He.DefD := ⟨("text_of", none), "text_of", "text_of", defArgs (top 59), defBody (top 59), defScope (top 59), [], []⟩
def d_wrong_place : He.DefD := ⟨("wrong_place", none), "wrong_place", "wrong_place", defArgs (top 60), defBody (top 60), defScope (top 60), [], []⟩
def d_thing_of : He.DefD := ⟨("thing_of", none), "thing_of", "thing_of", defArgs (top 61), defBody (top 61), defScope (top 61), [], []⟩
def d__law_pot : He.DefD := ⟨("_law_pot", none), "_law_pot", "_law_pot", defArgs (top 63), defBody (top 63), defScope (top 63), [], []⟩
def d__law_draw : He.DefD := ⟨("_law_draw", none), "_law_draw", "_law_draw", defArgs (top 64), defBody (top 64), defScope (top 64), [], []⟩
def d__law_pick : He.DefD := ⟨("_law_pick", none), "_law_pick", "_law_pick", defArgs (top 65), defBody (top 65), defScope (top 65), [], []⟩
def d__law_frac : He.DefD := ⟨("_law_frac", none), "_law_frac", "_law_frac", defArgs (top 66), defBody (top 66), defScope (top 66), [], []⟩
def d__law_plus : He.DefD := ⟨("_law_plus", none), "_law_plus", "_law_plus", defArgs (top 67), defBody (top 67), defScope (top 67), [], []⟩
def d__law_minus : He.DefD := ⟨("_law_minus", none), "_law_minus", "_law_minus", defArgs (top 68), defBody (top 68), defScope (top 68), [], []⟩
def d__law_times : He.DefD := ⟨("_law_times", none), "_law_times", "_law_times", defArgs (top 69), defBody (top 69), defScope (top 69), [], []⟩
def d__law_sum : He.DefD := ⟨("_law_sum", none), "_law_sum", "_law_sum", defArgs (top 70), defBody (top 70), defScope (top 70), [], []⟩
def d__law_below : He.DefD := ⟨("_law_below", none), "_law_below", "_law_below", defArgs (top 71), defBody (top 71), defScope (top 71), [], []⟩
def d__law_small : He.DefD := ⟨("_law_small", none), "_law_small", "_law_small", defArgs (top 72), defBody (top 72), defScope (top 72), [], []⟩
def d__law_poly : He.DefD := ⟨("_law_poly", none), "_law_poly", "_law_poly", defArgs (top 73), defBody (top 73), defScope (top 73), [], []⟩
def d__law_rising : He.DefD := ⟨("_law_rising", none), "_law_rising", "_law_rising", defArgs (top 74), defBody (top 74), defScope (top 74), [], []⟩
def d__law_some : He.DefD := ⟨("_law_some", none), "_law_some", "_law_some", defArgs (top 75), defBody (top 75), defScope (top 75), [], []⟩
def d__law_fraction : He.DefD := ⟨("_law_fraction", none), "_law_fraction", "_law_fraction", defArgs (top 76), defBody (top 76), defScope (top 76), [], []⟩
def d__law_fractions : He.DefD := ⟨("_law_fractions", none), "_law_fractions", "_law_fractions", defArgs (top 77), defBody (top 77), defScope (top 77), [], []⟩
def d__law_written : He.DefD := ⟨("_law_written", none), "_law_written", "_law_written", defArgs (top 78), defBody (top 78), defScope (top 78), [], []⟩
def d__law_spoilt : He.DefD := ⟨("_law_spoilt", none), "_law_spoilt", "_law_spoilt", defArgs (top 79), defBody (top 79), defScope (top 79), [], []⟩
def d__law_one_right : He.DefD := ⟨("_law_one_right", none), "_law_one_right", "_law_one_right", defArgs (top 80), defBody (top 80), defScope (top 80), [], []⟩
def d__law_full_right : He.DefD := ⟨("_law_full_right", none), "_law_full_right", "_law_full_right", defArgs (top 81), defBody (top 81), defScope (top 81), [], []⟩
def d_law : He.DefD := ⟨("law", none), "law", "law", defArgs (top 82), defBody (top 82), defScope (top 82), [], []⟩
def fn : List He.DefD := [d_is_integer, d_is_list, d_divisor, d_is_fraction_of, d_is_small, d_are_fractions, d_are_small, d_is_below, d_is_poly_of, d_is_stretch_of, d_are_knots_of, d_is_bent_of, d_told_of, d_are_figures, d_number_in, d_fraction_in, d_bottoms_of, d_greatest_from, d_is_begun_above, d_fraction_text, d_poly_in, d_is_poly_begun, d_poly_text, d_rising_in, d_are_rising_begun, d_stretch_in, d_knots_in, d_bent_in, d_is_bent_begun, d_is_sort, d_is_told_poly, d_is_thing_of, d_read, d_is_begun, d_written_by, d_place_in, d_read_thing, d_check_text, d_text_of, d_wrong_place, d_thing_of, d__law_pot, d__law_draw, d__law_pick, d__law_frac, d__law_plus, d__law_minus, d__law_times, d__law_sum, d__law_below, d__law_small, d__law_poly, d__law_rising, d__law_some, d__law_fraction, d__law_fractions, d__law_written, d__law_spoilt, d__law_one_right, d__law_full_right, d_law]
def fa0 : List He.Fa := [.glo "is_integer", .glo "is_list", .glo "divisor", .glo "is_fraction_of", .glo "is_small", .glo "are_fractions", .glo "are_small", .glo "is_below", .glo "is_poly_of", .glo "is_stretch_of", .glo "are_knots_of", .glo "is_bent_of", .glo "told_of", .glo "are_figures", .glo "number_in", .glo "fraction_in", .glo "bottoms_of", .glo "greatest_from", .glo "is_begun_above", .glo "fraction_text", .glo "poly_in", .glo "is_poly_begun", .glo "poly_text", .glo "rising_in", .glo "are_rising_begun", .glo "stretch_in", .glo "knots_in", .glo "bent_in", .glo "is_bent_begun", .glo "is_sort", .glo "is_told_poly", .glo "is_thing_of", .glo "read", .glo "is_begun", .glo "written_by", .glo "place_in", .glo "read_thing", .glo "check_text", .glo "text_of", .glo "wrong_place", .glo "thing_of", .glo "_law_pot", .glo "_law_draw", .glo "_law_pick", .glo "_law_frac", .glo "_law_plus", .glo "_law_minus", .glo "_law_times", .glo "_law_sum", .glo "_law_below", .glo "_law_small", .glo "_law_poly", .glo "_law_rising", .glo "_law_some", .glo "_law_fraction", .glo "_law_fractions", .glo "_law_written", .glo "_law_spoilt", .glo "_law_one_right", .glo "_law_full_right", .glo "law"]
def fa : List He.Fa := fa0 ++ bnames.map He.Fa.free
def cons : List (Str × Vi.D) := [("MOST_TOP", (.int 999)), ("MOST_BOTTOM", (.int 99)), ("NOUGHT", (.tup [(.int 0), (.int 1)])), ("MOST_NUMBERS", (.int 5)), ("MOST_KNOTS", (.int 6)), ("POLY", (.str "poly")), ("STRETCH", (.str "stretch")), ("BENT", (.str "bent")), ("SORTS", (.tup [(.str "poly"), (.str "stretch"), (.str "bent")])), ("FIGURES", (.str "0123456789")), ("NO_NUMBERS", (.str "-"))]
abbrev R : PySem.W.OpenRow := PySem.W.OpenLaw.row PySem.Challenge.rw_bentpieces_k92_whole_things_written_and
abbrev hk : PySem.W.Hook := He.hookX 4 fa fn [] [] (gvsB cons)
def ob (s : PySem.W.SharedT) : He.AlX := He.obsX 4 fa fn [] [] (gvsB cons) (HandSHeadRun.getT s)
theorem ob_eq (s : PySem.W.SharedT) : ob s = hk.obs s.abs := He.obsX_eq (HandSHeadRun.getT_eq s)
def nm0 : List PySem.Str := ["BentError", "BadText", "InvalidKept", "InvalidSort", "InvalidWritten", "MOST_TOP", "MOST_BOTTOM", "is_integer", "is_list", "divisor", "is_fraction_of", "is_small", "are_fractions", "are_small", "NOUGHT", "is_below", "MOST_NUMBERS", "MOST_KNOTS", "is_poly_of", "is_stretch_of", "are_knots_of", "is_bent_of", "told_of", "POLY", "STRETCH", "BENT", "SORTS", "FIGURES", "NO_NUMBERS", "are_figures"]
def nm1 : List PySem.Str := ["number_in", "fraction_in", "bottoms_of", "greatest_from", "is_begun_above", "fraction_text", "poly_in", "is_poly_begun", "poly_text", "rising_in", "are_rising_begun", "stretch_in", "knots_in", "bent_in", "is_bent_begun", "is_sort", "is_told_poly", "is_thing_of", "read", "is_begun", "written_by", "place_in", "read_thing", "check_text", "text_of", "wrong_place", "thing_of", "_law_pot", "_law_draw", "_law_pick"]
def nm2 : List PySem.Str := ["_law_frac", "_law_plus", "_law_minus", "_law_times", "_law_sum", "_law_below", "_law_small", "_law_poly", "_law_rising", "_law_some", "_law_fraction", "_law_fractions", "_law_written", "_law_spoilt", "_law_one_right", "_law_full_right"]
def names : List PySem.Str := nm0 ++ nm1 ++ nm2
theorem run_false (w : World) : HandSHeadRun.RunEq R (PySem.W.view R.prog [82]) hk ob 20000 names (w.withFollow "special-get-raises" false) := by
  intro os
  kernel_rfl
theorem run_true (w : World) : HandSHeadRun.RunEq R (PySem.W.view R.prog [82]) hk ob 20000 names (w.withFollow "special-get-raises" true) := by
  intro os
  kernel_rfl
theorem run (w : World) : HandSHeadRun.RunEq R (PySem.W.view R.prog [82]) hk ob 20000 names w := PySem.W.byRow2 "special-get-raises" (P := fun w => HandSHeadRun.RunEq R (PySem.W.view R.prog [82]) hk ob 20000 names w) run_false run_true w
end M
end
section
set_option maxRecDepth 100000
set_option maxHeartbeats 0
namespace M
open PySem PySem.Spec PyProof.Rows L2 Vi
section
variable {P : Program} {w : World} {K : PySem.W.Frag} {h base : Heap} {mg : Str → Option Value}
theorem needs_is_integer : needsSs ir_is_integer = [] := by kernel_rfl
theorem nds_is_integer (inK : K.In h) (glob : h.Ns mainGlobals mg) (c : He.SaysX fa fn [] [] (gvsB cons) w h K) : ∀ d ∈ needsSs ir_is_integer, NeedOk P w K mg base 0 d := by
  rw [needs_is_integer]
  intro d hd
  cases hd
theorem nd_is_integer (inK : K.In h) (glob : h.Ns mainGlobals mg) (c : He.SaysX fa fn [] [] (gvsB cons) w h K) : NeedOk P w K mg base 1 (.fn "is_integer" F_is_integer [false]) := need_fn (c.t.d.def_ 0 (d := d_is_integer) rfl) (gl_ok inK glob c.t.d (x := "is_integer") (List.mem_of_getElem? (i := 0) (show fa0[0]? = some (He.Fa.glo "is_integer") from rfl))) ok_is_integer (fun kV doc pm an cdv ct us hl => match us, hl with | [_], _ => rfl) (bn_ok inK glob c.t.d) (nds_is_integer inK glob c)
theorem needs_is_list : needsSs ir_is_list = [] := by kernel_rfl
theorem nds_is_list (inK : K.In h) (glob : h.Ns mainGlobals mg) (c : He.SaysX fa fn [] [] (gvsB cons) w h K) : ∀ d ∈ needsSs ir_is_list, NeedOk P w K mg base 0 d := by
  rw [needs_is_list]
  intro d hd
  cases hd
theorem nd_is_list (inK : K.In h) (glob : h.Ns mainGlobals mg) (c : He.SaysX fa fn [] [] (gvsB cons) w h K) : NeedOk P w K mg base 1 (.fn "is_list" F_is_list [false]) := need_fn (c.t.d.def_ 1 (d := d_is_list) rfl) (gl_ok inK glob c.t.d (x := "is_list") (List.mem_of_getElem? (i := 1) (show fa0[1]? = some (He.Fa.glo "is_list") from rfl))) ok_is_list (fun kV doc pm an cdv ct us hl => match us, hl with | [_], _ => rfl) (bn_ok inK glob c.t.d) (nds_is_list inK glob c)
theorem needs_divisor : needsSs ir_divisor = [] := by kernel_rfl
theorem nds_divisor (inK : K.In h) (glob : h.Ns mainGlobals mg) (c : He.SaysX fa fn [] [] (gvsB cons) w h K) : ∀ d ∈ needsSs ir_divisor, NeedOk P w K mg base 0 d := by
  rw [needs_divisor]
  intro d hd
  cases hd
theorem nd_divisor (inK : K.In h) (glob : h.Ns mainGlobals mg) (c : He.SaysX fa fn [] [] (gvsB cons) w h K) : NeedOk P w K mg base 1 (.fn "divisor" F_divisor [false, false]) := need_fn (c.t.d.def_ 2 (d := d_divisor) rfl) (gl_ok inK glob c.t.d (x := "divisor") (List.mem_of_getElem? (i := 2) (show fa0[2]? = some (He.Fa.glo "divisor") from rfl))) ok_divisor (fun kV doc pm an cdv ct us hl => match us, hl with | [_, _], _ => rfl) (bn_ok inK glob c.t.d) (nds_divisor inK glob c)
theorem needs_is_fraction_of : needsSs ir_is_fraction_of = [.fn "is_integer" F_is_integer [false], .fn "is_integer" F_is_integer [false], .fn "divisor" F_divisor [false, false]] := by kernel_rfl
theorem nds_is_fraction_of (inK : K.In h) (glob : h.Ns mainGlobals mg) (c : He.SaysX fa fn [] [] (gvsB cons) w h K) : ∀ d ∈ needsSs ir_is_fraction_of, NeedOk P w K mg base 1 d := by
  rw [needs_is_fraction_of]
  exact AllNd.all (l := [.fn "is_integer" F_is_integer [false], .fn "is_integer" F_is_integer [false], .fn "divisor" F_divisor [false, false]]) ⟨(nd_is_integer inK glob c).mono (by decide), (nd_is_integer inK glob c).mono (by decide), (nd_divisor inK glob c).mono (by decide), True.intro⟩
theorem nd_is_fraction_of (inK : K.In h) (glob : h.Ns mainGlobals mg) (c : He.SaysX fa fn [] [] (gvsB cons) w h K) : NeedOk P w K mg base 2 (.fn "is_fraction_of" F_is_fraction_of [false]) := need_fn (c.t.d.def_ 3 (d := d_is_fraction_of) rfl) (gl_ok inK glob c.t.d (x := "is_fraction_of") (List.mem_of_getElem? (i := 3) (show fa0[3]? = some (He.Fa.glo "is_fraction_of") from rfl))) ok_is_fraction_of (fun kV doc pm an cdv ct us hl => match us, hl with | [_], _ => rfl) (bn_ok inK glob c.t.d) (nds_is_fraction_of inK glob c)
theorem needs_is_small : needsSs ir_is_small = [.fn "is_fraction_of" F_is_fraction_of [false], .gl "MOST_TOP" (.int 999), .gl "MOST_BOTTOM" (.int 99)] := by kernel_rfl
theorem nds_is_small (inK : K.In h) (glob : h.Ns mainGlobals mg) (c : He.SaysX fa fn [] [] (gvsB cons) w h K) : ∀ d ∈ needsSs ir_is_small, NeedOk P w K mg base 2 d := by
  rw [needs_is_small]
  exact AllNd.all (l := [.fn "is_fraction_of" F_is_fraction_of [false], .gl "MOST_TOP" (.int 999), .gl "MOST_BOTTOM" (.int 99)]) ⟨(nd_is_fraction_of inK glob c).mono (by decide), need_gl inK glob c.more (List.mem_of_getElem? (i := 0) (show cons[0]? = some (("MOST_TOP", (.int 999)) : Str × Vi.D) from rfl)), need_gl inK glob c.more (List.mem_of_getElem? (i := 1) (show cons[1]? = some (("MOST_BOTTOM", (.int 99)) : Str × Vi.D) from rfl)), True.intro⟩
theorem nd_is_small (inK : K.In h) (glob : h.Ns mainGlobals mg) (c : He.SaysX fa fn [] [] (gvsB cons) w h K) : NeedOk P w K mg base 3 (.fn "is_small" F_is_small [false]) := need_fn (c.t.d.def_ 4 (d := d_is_small) rfl) (gl_ok inK glob c.t.d (x := "is_small") (List.mem_of_getElem? (i := 4) (show fa0[4]? = some (He.Fa.glo "is_small") from rfl))) ok_is_small (fun kV doc pm an cdv ct us hl => match us, hl with | [_], _ => rfl) (bn_ok inK glob c.t.d) (nds_is_small inK glob c)
theorem needs_are_fractions : needsSs ir_are_fractions = [.fn "is_list" F_is_list [false], .fn "is_fraction_of" F_is_fraction_of [false]] := by kernel_rfl
theorem nds_are_fractions (inK : K.In h) (glob : h.Ns mainGlobals mg) (c : He.SaysX fa fn [] [] (gvsB cons) w h K) : ∀ d ∈ needsSs ir_are_fractions, NeedOk P w K mg base 2 d := by
  rw [needs_are_fractions]
  exact AllNd.all (l := [.fn "is_list" F_is_list [false], .fn "is_fraction_of" F_is_fraction_of [false]]) ⟨(nd_is_list inK glob c).mono (by decide), (nd_is_fraction_of inK glob c).mono (by decide), True.intro⟩
theorem nd_are_fractions (inK : K.In h) (glob : h.Ns mainGlobals mg) (c : He.SaysX fa fn [] [] (gvsB cons) w h K) : NeedOk P w K mg base 3 (.fn "are_fractions" F_are_fractions [false]) := need_fn (c.t.d.def_ 5 (d := d_are_fractions) rfl) (gl_ok inK glob c.t.d (x := "are_fractions") (List.mem_of_getElem? (i := 5) (show fa0[5]? = some (He.Fa.glo "are_fractions") from rfl))) ok_are_fractions (fun kV doc pm an cdv ct us hl => match us, hl with | [_], _ => rfl) (bn_ok inK glob c.t.d) (nds_are_fractions inK glob c)
theorem needs_are_small : needsSs ir_are_small = [.fn "is_list" F_is_list [false], .fn "is_small" F_is_small [false]] := by kernel_rfl
theorem nds_are_small (inK : K.In h) (glob : h.Ns mainGlobals mg) (c : He.SaysX fa fn [] [] (gvsB cons) w h K) : ∀ d ∈ needsSs ir_are_small, NeedOk P w K mg base 3 d := by
  rw [needs_are_small]
  exact AllNd.all (l := [.fn "is_list" F_is_list [false], .fn "is_small" F_is_small [false]]) ⟨(nd_is_list inK glob c).mono (by decide), (nd_is_small inK glob c).mono (by decide), True.intro⟩
theorem nd_are_small (inK : K.In h) (glob : h.Ns mainGlobals mg) (c : He.SaysX fa fn [] [] (gvsB cons) w h K) : NeedOk P w K mg base 4 (.fn "are_small" F_are_small [false]) := need_fn (c.t.d.def_ 6 (d := d_are_small) rfl) (gl_ok inK glob c.t.d (x := "are_small") (List.mem_of_getElem? (i := 6) (show fa0[6]? = some (He.Fa.glo "are_small") from rfl))) ok_are_small (fun kV doc pm an cdv ct us hl => match us, hl with | [_], _ => rfl) (bn_ok inK glob c.t.d) (nds_are_small inK glob c)
theorem needs_is_below : needsSs ir_is_below = [] := by kernel_rfl
theorem nds_is_below (inK : K.In h) (glob : h.Ns mainGlobals mg) (c : He.SaysX fa fn [] [] (gvsB cons) w h K) : ∀ d ∈ needsSs ir_is_below, NeedOk P w K mg base 0 d := by
  rw [needs_is_below]
  intro d hd
  cases hd
theorem nd_is_below (inK : K.In h) (glob : h.Ns mainGlobals mg) (c : He.SaysX fa fn [] [] (gvsB cons) w h K) : NeedOk P w K mg base 1 (.fn "is_below" F_is_below [false, false]) := need_fn (c.t.d.def_ 7 (d := d_is_below) rfl) (gl_ok inK glob c.t.d (x := "is_below") (List.mem_of_getElem? (i := 7) (show fa0[7]? = some (He.Fa.glo "is_below") from rfl))) ok_is_below (fun kV doc pm an cdv ct us hl => match us, hl with | [_, _], _ => rfl) (bn_ok inK glob c.t.d) (nds_is_below inK glob c)
theorem needs_is_poly_of : needsSs ir_is_poly_of = [.fn "are_fractions" F_are_fractions [false], .gl "MOST_NUMBERS" (.int 5)] := by kernel_rfl
theorem nds_is_poly_of (inK : K.In h) (glob : h.Ns mainGlobals mg) (c : He.SaysX fa fn [] [] (gvsB cons) w h K) : ∀ d ∈ needsSs ir_is_poly_of, NeedOk P w K mg base 3 d := by
  rw [needs_is_poly_of]
  exact AllNd.all (l := [.fn "are_fractions" F_are_fractions [false], .gl "MOST_NUMBERS" (.int 5)]) ⟨(nd_are_fractions inK glob c).mono (by decide), need_gl inK glob c.more (List.mem_of_getElem? (i := 3) (show cons[3]? = some (("MOST_NUMBERS", (.int 5)) : Str × Vi.D) from rfl)), True.intro⟩
theorem nd_is_poly_of (inK : K.In h) (glob : h.Ns mainGlobals mg) (c : He.SaysX fa fn [] [] (gvsB cons) w h K) : NeedOk P w K mg base 4 (.fn "is_poly_of" F_is_poly_of [false]) := need_fn (c.t.d.def_ 8 (d := d_is_poly_of) rfl) (gl_ok inK glob c.t.d (x := "is_poly_of") (List.mem_of_getElem? (i := 8) (show fa0[8]? = some (He.Fa.glo "is_poly_of") from rfl))) ok_is_poly_of (fun kV doc pm an cdv ct us hl => match us, hl with | [_], _ => rfl) (bn_ok inK glob c.t.d) (nds_is_poly_of inK glob c)
theorem needs_is_stretch_of : needsSs ir_is_stretch_of = [.fn "is_small" F_is_small [false], .fn "is_below" F_is_below [false, false]] := by kernel_rfl
theorem nds_is_stretch_of (inK : K.In h) (glob : h.Ns mainGlobals mg) (c : He.SaysX fa fn [] [] (gvsB cons) w h K) : ∀ d ∈ needsSs ir_is_stretch_of, NeedOk P w K mg base 3 d := by
  rw [needs_is_stretch_of]
  exact AllNd.all (l := [.fn "is_small" F_is_small [false], .fn "is_below" F_is_below [false, false]]) ⟨(nd_is_small inK glob c).mono (by decide), (nd_is_below inK glob c).mono (by decide), True.intro⟩
theorem nd_is_stretch_of (inK : K.In h) (glob : h.Ns mainGlobals mg) (c : He.SaysX fa fn [] [] (gvsB cons) w h K) : NeedOk P w K mg base 4 (.fn "is_stretch_of" F_is_stretch_of [false]) := need_fn (c.t.d.def_ 9 (d := d_is_stretch_of) rfl) (gl_ok inK glob c.t.d (x := "is_stretch_of") (List.mem_of_getElem? (i := 9) (show fa0[9]? = some (He.Fa.glo "is_stretch_of") from rfl))) ok_is_stretch_of (fun kV doc pm an cdv ct us hl => match us, hl with | [_], _ => rfl) (bn_ok inK glob c.t.d) (nds_is_stretch_of inK glob c)
theorem needs_are_knots_of : needsSs ir_are_knots_of = [.fn "are_small" F_are_small [false], .gl "MOST_KNOTS" (.int 6), .fn "is_below" F_is_below [false, false]] := by kernel_rfl
theorem nds_are_knots_of (inK : K.In h) (glob : h.Ns mainGlobals mg) (c : He.SaysX fa fn [] [] (gvsB cons) w h K) : ∀ d ∈ needsSs ir_are_knots_of, NeedOk P w K mg base 4 d := by
  rw [needs_are_knots_of]
  exact AllNd.all (l := [.fn "are_small" F_are_small [false], .gl "MOST_KNOTS" (.int 6), .fn "is_below" F_is_below [false, false]]) ⟨(nd_are_small inK glob c).mono (by decide), need_gl inK glob c.more (List.mem_of_getElem? (i := 4) (show cons[4]? = some (("MOST_KNOTS", (.int 6)) : Str × Vi.D) from rfl)), (nd_is_below inK glob c).mono (by decide), True.intro⟩
theorem nd_are_knots_of (inK : K.In h) (glob : h.Ns mainGlobals mg) (c : He.SaysX fa fn [] [] (gvsB cons) w h K) : NeedOk P w K mg base 5 (.fn "are_knots_of" F_are_knots_of [false]) := need_fn (c.t.d.def_ 10 (d := d_are_knots_of) rfl) (gl_ok inK glob c.t.d (x := "are_knots_of") (List.mem_of_getElem? (i := 10) (show fa0[10]? = some (He.Fa.glo "are_knots_of") from rfl))) ok_are_knots_of (fun kV doc pm an cdv ct us hl => match us, hl with | [_], _ => rfl) (bn_ok inK glob c.t.d) (nds_are_knots_of inK glob c)
theorem needs_is_bent_of : needsSs ir_is_bent_of = [.fn "are_knots_of" F_are_knots_of [false], .fn "is_list" F_is_list [false], .fn "is_poly_of" F_is_poly_of [false]] := by kernel_rfl
theorem nds_is_bent_of (inK : K.In h) (glob : h.Ns mainGlobals mg) (c : He.SaysX fa fn [] [] (gvsB cons) w h K) : ∀ d ∈ needsSs ir_is_bent_of, NeedOk P w K mg base 5 d := by
  rw [needs_is_bent_of]
  exact AllNd.all (l := [.fn "are_knots_of" F_are_knots_of [false], .fn "is_list" F_is_list [false], .fn "is_poly_of" F_is_poly_of [false]]) ⟨(nd_are_knots_of inK glob c).mono (by decide), (nd_is_list inK glob c).mono (by decide), (nd_is_poly_of inK glob c).mono (by decide), True.intro⟩
theorem nd_is_bent_of (inK : K.In h) (glob : h.Ns mainGlobals mg) (c : He.SaysX fa fn [] [] (gvsB cons) w h K) : NeedOk P w K mg base 6 (.fn "is_bent_of" F_is_bent_of [false]) := need_fn (c.t.d.def_ 11 (d := d_is_bent_of) rfl) (gl_ok inK glob c.t.d (x := "is_bent_of") (List.mem_of_getElem? (i := 11) (show fa0[11]? = some (He.Fa.glo "is_bent_of") from rfl))) ok_is_bent_of (fun kV doc pm an cdv ct us hl => match us, hl with | [_], _ => rfl) (bn_ok inK glob c.t.d) (nds_is_bent_of inK glob c)
theorem needs_told_of : needsSs ir_told_of = [.gl "NOUGHT" (.tup [(.int 0), (.int 1)])] := by kernel_rfl
theorem nds_told_of (inK : K.In h) (glob : h.Ns mainGlobals mg) (c : He.SaysX fa fn [] [] (gvsB cons) w h K) : ∀ d ∈ needsSs ir_told_of, NeedOk P w K mg base 0 d := by
  rw [needs_told_of]
  exact AllNd.all (l := [.gl "NOUGHT" (.tup [(.int 0), (.int 1)])]) ⟨need_gl inK glob c.more (List.mem_of_getElem? (i := 2) (show cons[2]? = some (("NOUGHT", (.tup [(.int 0), (.int 1)])) : Str × Vi.D) from rfl)), True.intro⟩
theorem nd_told_of (inK : K.In h) (glob : h.Ns mainGlobals mg) (c : He.SaysX fa fn [] [] (gvsB cons) w h K) : NeedOk P w K mg base 1 (.fn "told_of" F_told_of [false]) := need_fn (c.t.d.def_ 12 (d := d_told_of) rfl) (gl_ok inK glob c.t.d (x := "told_of") (List.mem_of_getElem? (i := 12) (show fa0[12]? = some (He.Fa.glo "told_of") from rfl))) ok_told_of (fun kV doc pm an cdv ct us hl => match us, hl with | [_], _ => rfl) (bn_ok inK glob c.t.d) (nds_told_of inK glob c)
theorem needs_are_figures : needsSs ir_are_figures = [.gl "FIGURES" (.str "0123456789")] := by kernel_rfl
theorem nds_are_figures (inK : K.In h) (glob : h.Ns mainGlobals mg) (c : He.SaysX fa fn [] [] (gvsB cons) w h K) : ∀ d ∈ needsSs ir_are_figures, NeedOk P w K mg base 0 d := by
  rw [needs_are_figures]
  exact AllNd.all (l := [.gl "FIGURES" (.str "0123456789")]) ⟨need_gl inK glob c.more (List.mem_of_getElem? (i := 9) (show cons[9]? = some (("FIGURES", (.str "0123456789")) : Str × Vi.D) from rfl)), True.intro⟩
theorem nd_are_figures (inK : K.In h) (glob : h.Ns mainGlobals mg) (c : He.SaysX fa fn [] [] (gvsB cons) w h K) : NeedOk P w K mg base 1 (.fn "are_figures" F_are_figures [false]) := need_fn (c.t.d.def_ 13 (d := d_are_figures) rfl) (gl_ok inK glob c.t.d (x := "are_figures") (List.mem_of_getElem? (i := 13) (show fa0[13]? = some (He.Fa.glo "are_figures") from rfl))) ok_are_figures (fun kV doc pm an cdv ct us hl => match us, hl with | [_], _ => rfl) (bn_ok inK glob c.t.d) (nds_are_figures inK glob c)
theorem needs_number_in : needsSs ir_number_in = [.gl "MOST_TOP" (.int 999), .fn "are_figures" F_are_figures [false]] := by kernel_rfl
theorem nds_number_in (inK : K.In h) (glob : h.Ns mainGlobals mg) (c : He.SaysX fa fn [] [] (gvsB cons) w h K) : ∀ d ∈ needsSs ir_number_in, NeedOk P w K mg base 1 d := by
  rw [needs_number_in]
  exact AllNd.all (l := [.gl "MOST_TOP" (.int 999), .fn "are_figures" F_are_figures [false]]) ⟨need_gl inK glob c.more (List.mem_of_getElem? (i := 0) (show cons[0]? = some (("MOST_TOP", (.int 999)) : Str × Vi.D) from rfl)), (nd_are_figures inK glob c).mono (by decide), True.intro⟩
theorem nd_number_in (inK : K.In h) (glob : h.Ns mainGlobals mg) (c : He.SaysX fa fn [] [] (gvsB cons) w h K) : NeedOk P w K mg base 2 (.fn "number_in" F_number_in [false, false, false]) := need_fn (c.t.d.def_ 14 (d := d_number_in) rfl) (gl_ok inK glob c.t.d (x := "number_in") (List.mem_of_getElem? (i := 14) (show fa0[14]? = some (He.Fa.glo "number_in") from rfl))) ok_number_in (fun kV doc pm an cdv ct us hl => match us, hl with | [_, _, _], _ => rfl) (bn_ok inK glob c.t.d) (nds_number_in inK glob c)
theorem needs_fraction_in : needsSs ir_fraction_in = [.fn "number_in" F_number_in [false, false, false], .gl "MOST_TOP" (.int 999), .gl "MOST_TOP" (.int 999), .fn "number_in" F_number_in [false, false, false], .gl "MOST_BOTTOM" (.int 99), .fn "divisor" F_divisor [false, false]] := by kernel_rfl
theorem nds_fraction_in (inK : K.In h) (glob : h.Ns mainGlobals mg) (c : He.SaysX fa fn [] [] (gvsB cons) w h K) : ∀ d ∈ needsSs ir_fraction_in, NeedOk P w K mg base 2 d := by
  rw [needs_fraction_in]
  exact AllNd.all (l := [.fn "number_in" F_number_in [false, false, false], .gl "MOST_TOP" (.int 999), .gl "MOST_TOP" (.int 999), .fn "number_in" F_number_in [false, false, false], .gl "MOST_BOTTOM" (.int 99), .fn "divisor" F_divisor [false, false]]) ⟨(nd_number_in inK glob c).mono (by decide), need_gl inK glob c.more (List.mem_of_getElem? (i := 0) (show cons[0]? = some (("MOST_TOP", (.int 999)) : Str × Vi.D) from rfl)), need_gl inK glob c.more (List.mem_of_getElem? (i := 0) (show cons[0]? = some (("MOST_TOP", (.int 999)) : Str × Vi.D) from rfl)), (nd_number_in inK glob c).mono (by decide), need_gl inK glob c.more (List.mem_of_getElem? (i := 1) (show cons[1]? = some (("MOST_BOTTOM", (.int 99)) : Str × Vi.D) from rfl)), (nd_divisor inK glob c).mono (by decide), True.intro⟩
theorem nd_fraction_in (inK : K.In h) (glob : h.Ns mainGlobals mg) (c : He.SaysX fa fn [] [] (gvsB cons) w h K) : NeedOk P w K mg base 3 (.fn "fraction_in" F_fraction_in [false]) := need_fn (c.t.d.def_ 15 (d := d_fraction_in) rfl) (gl_ok inK glob c.t.d (x := "fraction_in") (List.mem_of_getElem? (i := 15) (show fa0[15]? = some (He.Fa.glo "fraction_in") from rfl))) ok_fraction_in (fun kV doc pm an cdv ct us hl => match us, hl with | [_], _ => rfl) (bn_ok inK glob c.t.d) (nds_fraction_in inK glob c)
theorem needs_bottoms_of : needsSs ir_bottoms_of = [.gl "MOST_BOTTOM" (.int 99), .fn "divisor" F_divisor [false, false]] := by kernel_rfl
theorem nds_bottoms_of (inK : K.In h) (glob : h.Ns mainGlobals mg) (c : He.SaysX fa fn [] [] (gvsB cons) w h K) : ∀ d ∈ needsSs ir_bottoms_of, NeedOk P w K mg base 1 d := by
  rw [needs_bottoms_of]
  exact AllNd.all (l := [.gl "MOST_BOTTOM" (.int 99), .fn "divisor" F_divisor [false, false]]) ⟨need_gl inK glob c.more (List.mem_of_getElem? (i := 1) (show cons[1]? = some (("MOST_BOTTOM", (.int 99)) : Str × Vi.D) from rfl)), (nd_divisor inK glob c).mono (by decide), True.intro⟩
theorem nd_bottoms_of (inK : K.In h) (glob : h.Ns mainGlobals mg) (c : He.SaysX fa fn [] [] (gvsB cons) w h K) : NeedOk P w K mg base 2 (.fn "bottoms_of" F_bottoms_of [false]) := need_fn (c.t.d.def_ 16 (d := d_bottoms_of) rfl) (gl_ok inK glob c.t.d (x := "bottoms_of") (List.mem_of_getElem? (i := 16) (show fa0[16]? = some (He.Fa.glo "bottoms_of") from rfl))) ok_bottoms_of (fun kV doc pm an cdv ct us hl => match us, hl with | [_], _ => rfl) (bn_ok inK glob c.t.d) (nds_bottoms_of inK glob c)
theorem needs_greatest_from : needsSs ir_greatest_from = [.gl "MOST_TOP" (.int 999), .fn "number_in" F_number_in [false, false, false], .gl "MOST_TOP" (.int 999), .gl "MOST_TOP" (.int 999), .fn "bottoms_of" F_bottoms_of [false], .fn "number_in" F_number_in [false, false, false], .gl "MOST_TOP" (.int 999), .fn "bottoms_of" F_bottoms_of [false], .fn "number_in" F_number_in [false, false, false], .gl "MOST_TOP" (.int 999), .gl "MOST_TOP" (.int 999)] := by kernel_rfl
theorem nds_greatest_from (inK : K.In h) (glob : h.Ns mainGlobals mg) (c : He.SaysX fa fn [] [] (gvsB cons) w h K) : ∀ d ∈ needsSs ir_greatest_from, NeedOk P w K mg base 2 d := by
  rw [needs_greatest_from]
  exact AllNd.all (l := [.gl "MOST_TOP" (.int 999), .fn "number_in" F_number_in [false, false, false], .gl "MOST_TOP" (.int 999), .gl "MOST_TOP" (.int 999), .fn "bottoms_of" F_bottoms_of [false], .fn "number_in" F_number_in [false, false, false], .gl "MOST_TOP" (.int 999), .fn "bottoms_of" F_bottoms_of [false], .fn "number_in" F_number_in [false, false, false], .gl "MOST_TOP" (.int 999), .gl "MOST_TOP" (.int 999)]) ⟨need_gl inK glob c.more (List.mem_of_getElem? (i := 0) (show cons[0]? = some (("MOST_TOP", (.int 999)) : Str × Vi.D) from rfl)), (nd_number_in inK glob c).mono (by decide), need_gl inK glob c.more (List.mem_of_getElem? (i := 0) (show cons[0]? = some (("MOST_TOP", (.int 999)) : Str × Vi.D) from rfl)), need_gl inK glob c.more (List.mem_of_getElem? (i := 0) (show cons[0]? = some (("MOST_TOP", (.int 999)) : Str × Vi.D) from rfl)), (nd_bottoms_of inK glob c).mono (by decide), (nd_number_in inK glob c).mono (by decide), need_gl inK glob c.more (List.mem_of_getElem? (i := 0) (show cons[0]? = some (("MOST_TOP", (.int 999)) : Str × Vi.D) from rfl)), (nd_bottoms_of inK glob c).mono (by decide), (nd_number_in inK glob c).mono (by decide), need_gl inK glob c.more (List.mem_of_getElem? (i := 0) (show cons[0]? = some (("MOST_TOP", (.int 999)) : Str × Vi.D) from rfl)), need_gl inK glob c.more (List.mem_of_getElem? (i := 0) (show cons[0]? = some (("MOST_TOP", (.int 999)) : Str × Vi.D) from rfl)), True.intro⟩
theorem nd_greatest_from (inK : K.In h) (glob : h.Ns mainGlobals mg) (c : He.SaysX fa fn [] [] (gvsB cons) w h K) : NeedOk P w K mg base 3 (.fn "greatest_from" F_greatest_from [false]) := need_fn (c.t.d.def_ 17 (d := d_greatest_from) rfl) (gl_ok inK glob c.t.d (x := "greatest_from") (List.mem_of_getElem? (i := 17) (show fa0[17]? = some (He.Fa.glo "greatest_from") from rfl))) ok_greatest_from (fun kV doc pm an cdv ct us hl => match us, hl with | [_], _ => rfl) (bn_ok inK glob c.t.d) (nds_greatest_from inK glob c)
theorem needs_is_begun_above : needsSs ir_is_begun_above = [.fn "greatest_from" F_greatest_from [false], .fn "is_below" F_is_below [false, false]] := by kernel_rfl
theorem nds_is_begun_above (inK : K.In h) (glob : h.Ns mainGlobals mg) (c : He.SaysX fa fn [] [] (gvsB cons) w h K) : ∀ d ∈ needsSs ir_is_begun_above, NeedOk P w K mg base 3 d := by
  rw [needs_is_begun_above]
  exact AllNd.all (l := [.fn "greatest_from" F_greatest_from [false], .fn "is_below" F_is_below [false, false]]) ⟨(nd_greatest_from inK glob c).mono (by decide), (nd_is_below inK glob c).mono (by decide), True.intro⟩
theorem nd_is_begun_above (inK : K.In h) (glob : h.Ns mainGlobals mg) (c : He.SaysX fa fn [] [] (gvsB cons) w h K) : NeedOk P w K mg base 4 (.fn "is_begun_above" F_is_begun_above [false, false]) := need_fn (c.t.d.def_ 18 (d := d_is_begun_above) rfl) (gl_ok inK glob c.t.d (x := "is_begun_above") (List.mem_of_getElem? (i := 18) (show fa0[18]? = some (He.Fa.glo "is_begun_above") from rfl))) ok_is_begun_above (fun kV doc pm an cdv ct us hl => match us, hl with | [_, _], _ => rfl) (bn_ok inK glob c.t.d) (nds_is_begun_above inK glob c)
theorem needs_fraction_text : needsSs ir_fraction_text = [] := by kernel_rfl
theorem nds_fraction_text (inK : K.In h) (glob : h.Ns mainGlobals mg) (c : He.SaysX fa fn [] [] (gvsB cons) w h K) : ∀ d ∈ needsSs ir_fraction_text, NeedOk P w K mg base 0 d := by
  rw [needs_fraction_text]
  intro d hd
  cases hd
theorem nd_fraction_text (inK : K.In h) (glob : h.Ns mainGlobals mg) (c : He.SaysX fa fn [] [] (gvsB cons) w h K) : NeedOk P w K mg base 1 (.fn "fraction_text" F_fraction_text [false]) := need_fn (c.t.d.def_ 19 (d := d_fraction_text) rfl) (gl_ok inK glob c.t.d (x := "fraction_text") (List.mem_of_getElem? (i := 19) (show fa0[19]? = some (He.Fa.glo "fraction_text") from rfl))) ok_fraction_text (fun kV doc pm an cdv ct us hl => match us, hl with | [_], _ => rfl) (bn_ok inK glob c.t.d) (nds_fraction_text inK glob c)
theorem needs_poly_in : needsSs ir_poly_in = [.gl "NO_NUMBERS" (.str "-"), .fn "fraction_in" F_fraction_in [false], .gl "MOST_NUMBERS" (.int 5), .gl "NOUGHT" (.tup [(.int 0), (.int 1)])] := by kernel_rfl
theorem nds_poly_in (inK : K.In h) (glob : h.Ns mainGlobals mg) (c : He.SaysX fa fn [] [] (gvsB cons) w h K) : ∀ d ∈ needsSs ir_poly_in, NeedOk P w K mg base 3 d := by
  rw [needs_poly_in]
  exact AllNd.all (l := [.gl "NO_NUMBERS" (.str "-"), .fn "fraction_in" F_fraction_in [false], .gl "MOST_NUMBERS" (.int 5), .gl "NOUGHT" (.tup [(.int 0), (.int 1)])]) ⟨need_gl inK glob c.more (List.mem_of_getElem? (i := 10) (show cons[10]? = some (("NO_NUMBERS", (.str "-")) : Str × Vi.D) from rfl)), (nd_fraction_in inK glob c).mono (by decide), need_gl inK glob c.more (List.mem_of_getElem? (i := 3) (show cons[3]? = some (("MOST_NUMBERS", (.int 5)) : Str × Vi.D) from rfl)), need_gl inK glob c.more (List.mem_of_getElem? (i := 2) (show cons[2]? = some (("NOUGHT", (.tup [(.int 0), (.int 1)])) : Str × Vi.D) from rfl)), True.intro⟩
theorem nd_poly_in (inK : K.In h) (glob : h.Ns mainGlobals mg) (c : He.SaysX fa fn [] [] (gvsB cons) w h K) : NeedOk P w K mg base 4 (.fn "poly_in" F_poly_in [false]) := need_fn (c.t.d.def_ 20 (d := d_poly_in) rfl) (gl_ok inK glob c.t.d (x := "poly_in") (List.mem_of_getElem? (i := 20) (show fa0[20]? = some (He.Fa.glo "poly_in") from rfl))) ok_poly_in (fun kV doc pm an cdv ct us hl => match us, hl with | [_], _ => rfl) (bn_ok inK glob c.t.d) (nds_poly_in inK glob c)
theorem needs_is_poly_begun : needsSs ir_is_poly_begun = [.gl "MOST_NUMBERS" (.int 5), .fn "fraction_in" F_fraction_in [false], .fn "is_begun_above" F_is_begun_above [false, false], .gl "MOST_NUMBERS" (.int 5)] := by kernel_rfl
theorem nds_is_poly_begun (inK : K.In h) (glob : h.Ns mainGlobals mg) (c : He.SaysX fa fn [] [] (gvsB cons) w h K) : ∀ d ∈ needsSs ir_is_poly_begun, NeedOk P w K mg base 4 d := by
  rw [needs_is_poly_begun]
  exact AllNd.all (l := [.gl "MOST_NUMBERS" (.int 5), .fn "fraction_in" F_fraction_in [false], .fn "is_begun_above" F_is_begun_above [false, false], .gl "MOST_NUMBERS" (.int 5)]) ⟨need_gl inK glob c.more (List.mem_of_getElem? (i := 3) (show cons[3]? = some (("MOST_NUMBERS", (.int 5)) : Str × Vi.D) from rfl)), (nd_fraction_in inK glob c).mono (by decide), (nd_is_begun_above inK glob c).mono (by decide), need_gl inK glob c.more (List.mem_of_getElem? (i := 3) (show cons[3]? = some (("MOST_NUMBERS", (.int 5)) : Str × Vi.D) from rfl)), True.intro⟩
theorem nd_is_poly_begun (inK : K.In h) (glob : h.Ns mainGlobals mg) (c : He.SaysX fa fn [] [] (gvsB cons) w h K) : NeedOk P w K mg base 5 (.fn "is_poly_begun" F_is_poly_begun [false]) := need_fn (c.t.d.def_ 21 (d := d_is_poly_begun) rfl) (gl_ok inK glob c.t.d (x := "is_poly_begun") (List.mem_of_getElem? (i := 21) (show fa0[21]? = some (He.Fa.glo "is_poly_begun") from rfl))) ok_is_poly_begun (fun kV doc pm an cdv ct us hl => match us, hl with | [_], _ => rfl) (bn_ok inK glob c.t.d) (nds_is_poly_begun inK glob c)
theorem needs_poly_text : needsSs ir_poly_text = [.gl "NO_NUMBERS" (.str "-"), .fn "fraction_text" F_fraction_text [false]] := by kernel_rfl
theorem nds_poly_text (inK : K.In h) (glob : h.Ns mainGlobals mg) (c : He.SaysX fa fn [] [] (gvsB cons) w h K) : ∀ d ∈ needsSs ir_poly_text, NeedOk P w K mg base 1 d := by
  rw [needs_poly_text]
  exact AllNd.all (l := [.gl "NO_NUMBERS" (.str "-"), .fn "fraction_text" F_fraction_text [false]]) ⟨need_gl inK glob c.more (List.mem_of_getElem? (i := 10) (show cons[10]? = some (("NO_NUMBERS", (.str "-")) : Str × Vi.D) from rfl)), (nd_fraction_text inK glob c).mono (by decide), True.intro⟩
theorem nd_poly_text (inK : K.In h) (glob : h.Ns mainGlobals mg) (c : He.SaysX fa fn [] [] (gvsB cons) w h K) : NeedOk P w K mg base 2 (.fn "poly_text" F_poly_text [false]) := need_fn (c.t.d.def_ 22 (d := d_poly_text) rfl) (gl_ok inK glob c.t.d (x := "poly_text") (List.mem_of_getElem? (i := 22) (show fa0[22]? = some (He.Fa.glo "poly_text") from rfl))) ok_poly_text (fun kV doc pm an cdv ct us hl => match us, hl with | [_], _ => rfl) (bn_ok inK glob c.t.d) (nds_poly_text inK glob c)
theorem needs_rising_in : needsSs ir_rising_in = [.fn "fraction_in" F_fraction_in [false], .fn "is_below" F_is_below [false, false]] := by kernel_rfl
theorem nds_rising_in (inK : K.In h) (glob : h.Ns mainGlobals mg) (c : He.SaysX fa fn [] [] (gvsB cons) w h K) : ∀ d ∈ needsSs ir_rising_in, NeedOk P w K mg base 3 d := by
  rw [needs_rising_in]
  exact AllNd.all (l := [.fn "fraction_in" F_fraction_in [false], .fn "is_below" F_is_below [false, false]]) ⟨(nd_fraction_in inK glob c).mono (by decide), (nd_is_below inK glob c).mono (by decide), True.intro⟩
theorem nd_rising_in (inK : K.In h) (glob : h.Ns mainGlobals mg) (c : He.SaysX fa fn [] [] (gvsB cons) w h K) : NeedOk P w K mg base 4 (.fn "rising_in" F_rising_in [false, false]) := need_fn (c.t.d.def_ 23 (d := d_rising_in) rfl) (gl_ok inK glob c.t.d (x := "rising_in") (List.mem_of_getElem? (i := 23) (show fa0[23]? = some (He.Fa.glo "rising_in") from rfl))) ok_rising_in (fun kV doc pm an cdv ct us hl => match us, hl with | [_, _], _ => rfl) (bn_ok inK glob c.t.d) (nds_rising_in inK glob c)
theorem needs_are_rising_begun : needsSs ir_are_rising_begun = [.fn "rising_in" F_rising_in [false, false], .fn "is_begun_above" F_is_begun_above [false, false]] := by kernel_rfl
theorem nds_are_rising_begun (inK : K.In h) (glob : h.Ns mainGlobals mg) (c : He.SaysX fa fn [] [] (gvsB cons) w h K) : ∀ d ∈ needsSs ir_are_rising_begun, NeedOk P w K mg base 4 d := by
  rw [needs_are_rising_begun]
  exact AllNd.all (l := [.fn "rising_in" F_rising_in [false, false], .fn "is_begun_above" F_is_begun_above [false, false]]) ⟨(nd_rising_in inK glob c).mono (by decide), (nd_is_begun_above inK glob c).mono (by decide), True.intro⟩
theorem nd_are_rising_begun (inK : K.In h) (glob : h.Ns mainGlobals mg) (c : He.SaysX fa fn [] [] (gvsB cons) w h K) : NeedOk P w K mg base 5 (.fn "are_rising_begun" F_are_rising_begun [false, false, false]) := need_fn (c.t.d.def_ 24 (d := d_are_rising_begun) rfl) (gl_ok inK glob c.t.d (x := "are_rising_begun") (List.mem_of_getElem? (i := 24) (show fa0[24]? = some (He.Fa.glo "are_rising_begun") from rfl))) ok_are_rising_begun (fun kV doc pm an cdv ct us hl => match us, hl with | [_, _, _], _ => rfl) (bn_ok inK glob c.t.d) (nds_are_rising_begun inK glob c)
theorem needs_stretch_in : needsSs ir_stretch_in = [.fn "rising_in" F_rising_in [false, false]] := by kernel_rfl
theorem nds_stretch_in (inK : K.In h) (glob : h.Ns mainGlobals mg) (c : He.SaysX fa fn [] [] (gvsB cons) w h K) : ∀ d ∈ needsSs ir_stretch_in, NeedOk P w K mg base 4 d := by
  rw [needs_stretch_in]
  exact AllNd.all (l := [.fn "rising_in" F_rising_in [false, false]]) ⟨(nd_rising_in inK glob c).mono (by decide), True.intro⟩
theorem nd_stretch_in (inK : K.In h) (glob : h.Ns mainGlobals mg) (c : He.SaysX fa fn [] [] (gvsB cons) w h K) : NeedOk P w K mg base 5 (.fn "stretch_in" F_stretch_in [false]) := need_fn (c.t.d.def_ 25 (d := d_stretch_in) rfl) (gl_ok inK glob c.t.d (x := "stretch_in") (List.mem_of_getElem? (i := 25) (show fa0[25]? = some (He.Fa.glo "stretch_in") from rfl))) ok_stretch_in (fun kV doc pm an cdv ct us hl => match us, hl with | [_], _ => rfl) (bn_ok inK glob c.t.d) (nds_stretch_in inK glob c)
theorem needs_knots_in : needsSs ir_knots_in = [.fn "rising_in" F_rising_in [false, false], .gl "MOST_KNOTS" (.int 6)] := by kernel_rfl
theorem nds_knots_in (inK : K.In h) (glob : h.Ns mainGlobals mg) (c : He.SaysX fa fn [] [] (gvsB cons) w h K) : ∀ d ∈ needsSs ir_knots_in, NeedOk P w K mg base 4 d := by
  rw [needs_knots_in]
  exact AllNd.all (l := [.fn "rising_in" F_rising_in [false, false], .gl "MOST_KNOTS" (.int 6)]) ⟨(nd_rising_in inK glob c).mono (by decide), need_gl inK glob c.more (List.mem_of_getElem? (i := 4) (show cons[4]? = some (("MOST_KNOTS", (.int 6)) : Str × Vi.D) from rfl)), True.intro⟩
theorem nd_knots_in (inK : K.In h) (glob : h.Ns mainGlobals mg) (c : He.SaysX fa fn [] [] (gvsB cons) w h K) : NeedOk P w K mg base 5 (.fn "knots_in" F_knots_in [false]) := need_fn (c.t.d.def_ 26 (d := d_knots_in) rfl) (gl_ok inK glob c.t.d (x := "knots_in") (List.mem_of_getElem? (i := 26) (show fa0[26]? = some (He.Fa.glo "knots_in") from rfl))) ok_knots_in (fun kV doc pm an cdv ct us hl => match us, hl with | [_], _ => rfl) (bn_ok inK glob c.t.d) (nds_knots_in inK glob c)
theorem needs_bent_in : needsSs ir_bent_in = [.fn "knots_in" F_knots_in [false], .fn "poly_in" F_poly_in [false]] := by kernel_rfl
theorem nds_bent_in (inK : K.In h) (glob : h.Ns mainGlobals mg) (c : He.SaysX fa fn [] [] (gvsB cons) w h K) : ∀ d ∈ needsSs ir_bent_in, NeedOk P w K mg base 5 d := by
  rw [needs_bent_in]
  exact AllNd.all (l := [.fn "knots_in" F_knots_in [false], .fn "poly_in" F_poly_in [false]]) ⟨(nd_knots_in inK glob c).mono (by decide), (nd_poly_in inK glob c).mono (by decide), True.intro⟩
theorem nd_bent_in (inK : K.In h) (glob : h.Ns mainGlobals mg) (c : He.SaysX fa fn [] [] (gvsB cons) w h K) : NeedOk P w K mg base 6 (.fn "bent_in" F_bent_in [false]) := need_fn (c.t.d.def_ 27 (d := d_bent_in) rfl) (gl_ok inK glob c.t.d (x := "bent_in") (List.mem_of_getElem? (i := 27) (show fa0[27]? = some (He.Fa.glo "bent_in") from rfl))) ok_bent_in (fun kV doc pm an cdv ct us hl => match us, hl with | [_], _ => rfl) (bn_ok inK glob c.t.d) (nds_bent_in inK glob c)
theorem needs_is_bent_begun : needsSs ir_is_bent_begun = [.fn "are_rising_begun" F_are_rising_begun [false, false, false], .gl "MOST_KNOTS" (.int 6), .fn "knots_in" F_knots_in [false], .fn "poly_in" F_poly_in [false], .fn "is_poly_begun" F_is_poly_begun [false]] := by kernel_rfl
theorem nds_is_bent_begun (inK : K.In h) (glob : h.Ns mainGlobals mg) (c : He.SaysX fa fn [] [] (gvsB cons) w h K) : ∀ d ∈ needsSs ir_is_bent_begun, NeedOk P w K mg base 5 d := by
  rw [needs_is_bent_begun]
  exact AllNd.all (l := [.fn "are_rising_begun" F_are_rising_begun [false, false, false], .gl "MOST_KNOTS" (.int 6), .fn "knots_in" F_knots_in [false], .fn "poly_in" F_poly_in [false], .fn "is_poly_begun" F_is_poly_begun [false]]) ⟨(nd_are_rising_begun inK glob c).mono (by decide), need_gl inK glob c.more (List.mem_of_getElem? (i := 4) (show cons[4]? = some (("MOST_KNOTS", (.int 6)) : Str × Vi.D) from rfl)), (nd_knots_in inK glob c).mono (by decide), (nd_poly_in inK glob c).mono (by decide), (nd_is_poly_begun inK glob c).mono (by decide), True.intro⟩
theorem nd_is_bent_begun (inK : K.In h) (glob : h.Ns mainGlobals mg) (c : He.SaysX fa fn [] [] (gvsB cons) w h K) : NeedOk P w K mg base 6 (.fn "is_bent_begun" F_is_bent_begun [false]) := need_fn (c.t.d.def_ 28 (d := d_is_bent_begun) rfl) (gl_ok inK glob c.t.d (x := "is_bent_begun") (List.mem_of_getElem? (i := 28) (show fa0[28]? = some (He.Fa.glo "is_bent_begun") from rfl))) ok_is_bent_begun (fun kV doc pm an cdv ct us hl => match us, hl with | [_], _ => rfl) (bn_ok inK glob c.t.d) (nds_is_bent_begun inK glob c)
theorem needs_is_sort : needsSs ir_is_sort = [.gl "SORTS" (.tup [(.str "poly"), (.str "stretch"), (.str "bent")])] := by kernel_rfl
theorem nds_is_sort (inK : K.In h) (glob : h.Ns mainGlobals mg) (c : He.SaysX fa fn [] [] (gvsB cons) w h K) : ∀ d ∈ needsSs ir_is_sort, NeedOk P w K mg base 0 d := by
  rw [needs_is_sort]
  exact AllNd.all (l := [.gl "SORTS" (.tup [(.str "poly"), (.str "stretch"), (.str "bent")])]) ⟨need_gl inK glob c.more (List.mem_of_getElem? (i := 8) (show cons[8]? = some (("SORTS", (.tup [(.str "poly"), (.str "stretch"), (.str "bent")])) : Str × Vi.D) from rfl)), True.intro⟩
theorem nd_is_sort (inK : K.In h) (glob : h.Ns mainGlobals mg) (c : He.SaysX fa fn [] [] (gvsB cons) w h K) : NeedOk P w K mg base 1 (.fn "is_sort" F_is_sort [false]) := need_fn (c.t.d.def_ 29 (d := d_is_sort) rfl) (gl_ok inK glob c.t.d (x := "is_sort") (List.mem_of_getElem? (i := 29) (show fa0[29]? = some (He.Fa.glo "is_sort") from rfl))) ok_is_sort (fun kV doc pm an cdv ct us hl => match us, hl with | [_], _ => rfl) (bn_ok inK glob c.t.d) (nds_is_sort inK glob c)
theorem needs_is_told_poly : needsSs ir_is_told_poly = [.fn "are_small" F_are_small [false], .gl "MOST_NUMBERS" (.int 5), .fn "told_of" F_told_of [false]] := by kernel_rfl
theorem nds_is_told_poly (inK : K.In h) (glob : h.Ns mainGlobals mg) (c : He.SaysX fa fn [] [] (gvsB cons) w h K) : ∀ d ∈ needsSs ir_is_told_poly, NeedOk P w K mg base 4 d := by
  rw [needs_is_told_poly]
  exact AllNd.all (l := [.fn "are_small" F_are_small [false], .gl "MOST_NUMBERS" (.int 5), .fn "told_of" F_told_of [false]]) ⟨(nd_are_small inK glob c).mono (by decide), need_gl inK glob c.more (List.mem_of_getElem? (i := 3) (show cons[3]? = some (("MOST_NUMBERS", (.int 5)) : Str × Vi.D) from rfl)), (nd_told_of inK glob c).mono (by decide), True.intro⟩
theorem nd_is_told_poly (inK : K.In h) (glob : h.Ns mainGlobals mg) (c : He.SaysX fa fn [] [] (gvsB cons) w h K) : NeedOk P w K mg base 5 (.fn "is_told_poly" F_is_told_poly [false]) := need_fn (c.t.d.def_ 30 (d := d_is_told_poly) rfl) (gl_ok inK glob c.t.d (x := "is_told_poly") (List.mem_of_getElem? (i := 30) (show fa0[30]? = some (He.Fa.glo "is_told_poly") from rfl))) ok_is_told_poly (fun kV doc pm an cdv ct us hl => match us, hl with | [_], _ => rfl) (bn_ok inK glob c.t.d) (nds_is_told_poly inK glob c)
theorem needs_is_thing_of : needsSs ir_is_thing_of = [.gl "POLY" (.str "poly"), .fn "is_told_poly" F_is_told_poly [false], .gl "STRETCH" (.str "stretch"), .fn "is_stretch_of" F_is_stretch_of [false], .fn "is_bent_of" F_is_bent_of [false], .fn "is_told_poly" F_is_told_poly [false]] := by kernel_rfl
theorem nds_is_thing_of (inK : K.In h) (glob : h.Ns mainGlobals mg) (c : He.SaysX fa fn [] [] (gvsB cons) w h K) : ∀ d ∈ needsSs ir_is_thing_of, NeedOk P w K mg base 6 d := by
  rw [needs_is_thing_of]
  exact AllNd.all (l := [.gl "POLY" (.str "poly"), .fn "is_told_poly" F_is_told_poly [false], .gl "STRETCH" (.str "stretch"), .fn "is_stretch_of" F_is_stretch_of [false], .fn "is_bent_of" F_is_bent_of [false], .fn "is_told_poly" F_is_told_poly [false]]) ⟨need_gl inK glob c.more (List.mem_of_getElem? (i := 5) (show cons[5]? = some (("POLY", (.str "poly")) : Str × Vi.D) from rfl)), (nd_is_told_poly inK glob c).mono (by decide), need_gl inK glob c.more (List.mem_of_getElem? (i := 6) (show cons[6]? = some (("STRETCH", (.str "stretch")) : Str × Vi.D) from rfl)), (nd_is_stretch_of inK glob c).mono (by decide), (nd_is_bent_of inK glob c).mono (by decide), (nd_is_told_poly inK glob c).mono (by decide), True.intro⟩
theorem nd_is_thing_of (inK : K.In h) (glob : h.Ns mainGlobals mg) (c : He.SaysX fa fn [] [] (gvsB cons) w h K) : NeedOk P w K mg base 7 (.fn "is_thing_of" F_is_thing_of [false, false]) := need_fn (c.t.d.def_ 31 (d := d_is_thing_of) rfl) (gl_ok inK glob c.t.d (x := "is_thing_of") (List.mem_of_getElem? (i := 31) (show fa0[31]? = some (He.Fa.glo "is_thing_of") from rfl))) ok_is_thing_of (fun kV doc pm an cdv ct us hl => match us, hl with | [_, _], _ => rfl) (bn_ok inK glob c.t.d) (nds_is_thing_of inK glob c)
theorem needs_read : needsSs ir_read = [.gl "POLY" (.str "poly"), .fn "poly_in" F_poly_in [false], .gl "STRETCH" (.str "stretch"), .fn "stretch_in" F_stretch_in [false], .fn "bent_in" F_bent_in [false]] := by kernel_rfl
theorem nds_read (inK : K.In h) (glob : h.Ns mainGlobals mg) (c : He.SaysX fa fn [] [] (gvsB cons) w h K) : ∀ d ∈ needsSs ir_read, NeedOk P w K mg base 6 d := by
  rw [needs_read]
  exact AllNd.all (l := [.gl "POLY" (.str "poly"), .fn "poly_in" F_poly_in [false], .gl "STRETCH" (.str "stretch"), .fn "stretch_in" F_stretch_in [false], .fn "bent_in" F_bent_in [false]]) ⟨need_gl inK glob c.more (List.mem_of_getElem? (i := 5) (show cons[5]? = some (("POLY", (.str "poly")) : Str × Vi.D) from rfl)), (nd_poly_in inK glob c).mono (by decide), need_gl inK glob c.more (List.mem_of_getElem? (i := 6) (show cons[6]? = some (("STRETCH", (.str "stretch")) : Str × Vi.D) from rfl)), (nd_stretch_in inK glob c).mono (by decide), (nd_bent_in inK glob c).mono (by decide), True.intro⟩
theorem nd_read (inK : K.In h) (glob : h.Ns mainGlobals mg) (c : He.SaysX fa fn [] [] (gvsB cons) w h K) : NeedOk P w K mg base 7 (.fn "read" F_read [false, false]) := need_fn (c.t.d.def_ 32 (d := d_read) rfl) (gl_ok inK glob c.t.d (x := "read") (List.mem_of_getElem? (i := 32) (show fa0[32]? = some (He.Fa.glo "read") from rfl))) ok_read (fun kV doc pm an cdv ct us hl => match us, hl with | [_, _], _ => rfl) (bn_ok inK glob c.t.d) (nds_read inK glob c)
theorem needs_is_begun : needsSs ir_is_begun = [.gl "POLY" (.str "poly"), .fn "is_poly_begun" F_is_poly_begun [false], .gl "STRETCH" (.str "stretch"), .fn "are_rising_begun" F_are_rising_begun [false, false, false], .fn "is_bent_begun" F_is_bent_begun [false]] := by kernel_rfl
theorem nds_is_begun (inK : K.In h) (glob : h.Ns mainGlobals mg) (c : He.SaysX fa fn [] [] (gvsB cons) w h K) : ∀ d ∈ needsSs ir_is_begun, NeedOk P w K mg base 6 d := by
  rw [needs_is_begun]
  exact AllNd.all (l := [.gl "POLY" (.str "poly"), .fn "is_poly_begun" F_is_poly_begun [false], .gl "STRETCH" (.str "stretch"), .fn "are_rising_begun" F_are_rising_begun [false, false, false], .fn "is_bent_begun" F_is_bent_begun [false]]) ⟨need_gl inK glob c.more (List.mem_of_getElem? (i := 5) (show cons[5]? = some (("POLY", (.str "poly")) : Str × Vi.D) from rfl)), (nd_is_poly_begun inK glob c).mono (by decide), need_gl inK glob c.more (List.mem_of_getElem? (i := 6) (show cons[6]? = some (("STRETCH", (.str "stretch")) : Str × Vi.D) from rfl)), (nd_are_rising_begun inK glob c).mono (by decide), (nd_is_bent_begun inK glob c).mono (by decide), True.intro⟩
theorem nd_is_begun (inK : K.In h) (glob : h.Ns mainGlobals mg) (c : He.SaysX fa fn [] [] (gvsB cons) w h K) : NeedOk P w K mg base 7 (.fn "is_begun" F_is_begun [false, false]) := need_fn (c.t.d.def_ 33 (d := d_is_begun) rfl) (gl_ok inK glob c.t.d (x := "is_begun") (List.mem_of_getElem? (i := 33) (show fa0[33]? = some (He.Fa.glo "is_begun") from rfl))) ok_is_begun (fun kV doc pm an cdv ct us hl => match us, hl with | [_, _], _ => rfl) (bn_ok inK glob c.t.d) (nds_is_begun inK glob c)
theorem needs_written_by : needsSs ir_written_by = [.gl "POLY" (.str "poly"), .fn "poly_text" F_poly_text [false], .gl "STRETCH" (.str "stretch"), .fn "fraction_text" F_fraction_text [false], .fn "fraction_text" F_fraction_text [false], .fn "poly_text" F_poly_text [false]] := by kernel_rfl
theorem nds_written_by (inK : K.In h) (glob : h.Ns mainGlobals mg) (c : He.SaysX fa fn [] [] (gvsB cons) w h K) : ∀ d ∈ needsSs ir_written_by, NeedOk P w K mg base 2 d := by
  rw [needs_written_by]
  exact AllNd.all (l := [.gl "POLY" (.str "poly"), .fn "poly_text" F_poly_text [false], .gl "STRETCH" (.str "stretch"), .fn "fraction_text" F_fraction_text [false], .fn "fraction_text" F_fraction_text [false], .fn "poly_text" F_poly_text [false]]) ⟨need_gl inK glob c.more (List.mem_of_getElem? (i := 5) (show cons[5]? = some (("POLY", (.str "poly")) : Str × Vi.D) from rfl)), (nd_poly_text inK glob c).mono (by decide), need_gl inK glob c.more (List.mem_of_getElem? (i := 6) (show cons[6]? = some (("STRETCH", (.str "stretch")) : Str × Vi.D) from rfl)), (nd_fraction_text inK glob c).mono (by decide), (nd_fraction_text inK glob c).mono (by decide), (nd_poly_text inK glob c).mono (by decide), True.intro⟩
theorem nd_written_by (inK : K.In h) (glob : h.Ns mainGlobals mg) (c : He.SaysX fa fn [] [] (gvsB cons) w h K) : NeedOk P w K mg base 3 (.fn "written_by" F_written_by [false, false]) := need_fn (c.t.d.def_ 34 (d := d_written_by) rfl) (gl_ok inK glob c.t.d (x := "written_by") (List.mem_of_getElem? (i := 34) (show fa0[34]? = some (He.Fa.glo "written_by") from rfl))) ok_written_by (fun kV doc pm an cdv ct us hl => match us, hl with | [_, _], _ => rfl) (bn_ok inK glob c.t.d) (nds_written_by inK glob c)
theorem needs_place_in : needsSs ir_place_in = [.fn "read" F_read [false, false], .fn "is_begun" F_is_begun [false, false]] := by kernel_rfl
theorem nds_place_in (inK : K.In h) (glob : h.Ns mainGlobals mg) (c : He.SaysX fa fn [] [] (gvsB cons) w h K) : ∀ d ∈ needsSs ir_place_in, NeedOk P w K mg base 7 d := by
  rw [needs_place_in]
  exact AllNd.all (l := [.fn "read" F_read [false, false], .fn "is_begun" F_is_begun [false, false]]) ⟨(nd_read inK glob c).mono (by decide), (nd_is_begun inK glob c).mono (by decide), True.intro⟩
theorem nd_place_in (inK : K.In h) (glob : h.Ns mainGlobals mg) (c : He.SaysX fa fn [] [] (gvsB cons) w h K) : NeedOk P w K mg base 8 (.fn "place_in" F_place_in [false, false]) := need_fn (c.t.d.def_ 35 (d := d_place_in) rfl) (gl_ok inK glob c.t.d (x := "place_in") (List.mem_of_getElem? (i := 35) (show fa0[35]? = some (He.Fa.glo "place_in") from rfl))) ok_place_in (fun kV doc pm an cdv ct us hl => match us, hl with | [_, _], _ => rfl) (bn_ok inK glob c.t.d) (nds_place_in inK glob c)
theorem needs_read_thing : needsSs ir_read_thing = [.fn "place_in" F_place_in [false, false], .fn "read" F_read [false, false]] := by kernel_rfl
theorem nds_read_thing (inK : K.In h) (glob : h.Ns mainGlobals mg) (c : He.SaysX fa fn [] [] (gvsB cons) w h K) : ∀ d ∈ needsSs ir_read_thing, NeedOk P w K mg base 8 d := by
  rw [needs_read_thing]
  exact AllNd.all (l := [.fn "place_in" F_place_in [false, false], .fn "read" F_read [false, false]]) ⟨(nd_place_in inK glob c).mono (by decide), (nd_read inK glob c).mono (by decide), True.intro⟩
theorem nd_read_thing (inK : K.In h) (glob : h.Ns mainGlobals mg) (c : He.SaysX fa fn [] [] (gvsB cons) w h K) : NeedOk P w K mg base 9 (.fn "read_thing" F_read_thing [false, false]) := need_fn (c.t.d.def_ 36 (d := d_read_thing) rfl) (gl_ok inK glob c.t.d (x := "read_thing") (List.mem_of_getElem? (i := 36) (show fa0[36]? = some (He.Fa.glo "read_thing") from rfl))) ok_read_thing (fun kV doc pm an cdv ct us hl => match us, hl with | [_, _], _ => rfl) (bn_ok inK glob c.t.d) (nds_read_thing inK glob c)
theorem needs_check_text : needsSs ir_check_text = [.fn "is_sort" F_is_sort [false]] := by kernel_rfl
theorem nds_check_text (inK : K.In h) (glob : h.Ns mainGlobals mg) (c : He.SaysX fa fn [] [] (gvsB cons) w h K) : ∀ d ∈ needsSs ir_check_text, NeedOk P w K mg base 1 d := by
  rw [needs_check_text]
  exact AllNd.all (l := [.fn "is_sort" F_is_sort [false]]) ⟨(nd_is_sort inK glob c).mono (by decide), True.intro⟩
theorem nd_check_text (inK : K.In h) (glob : h.Ns mainGlobals mg) (c : He.SaysX fa fn [] [] (gvsB cons) w h K) : NeedOk P w K mg base 2 (.fn "check_text" F_check_text [false, false]) := need_fn (c.t.d.def_ 37 (d := d_check_text) rfl) (gl_ok inK glob c.t.d (x := "check_text") (List.mem_of_getElem? (i := 37) (show fa0[37]? = some (He.Fa.glo "check_text") from rfl))) ok_check_text (fun kV doc pm an cdv ct us hl => match us, hl with | [_, _], _ => rfl) (bn_ok inK glob c.t.d) (nds_check_text inK glob c)
theorem needs_text_of : needsSs ir_text_of = [.fn "is_sort" F_is_sort [false], .fn "is_thing_of" F_is_thing_of [false, false], .fn "written_by" F_written_by [false, false]] := by kernel_rfl
theorem nds_text_of (inK : K.In h) (glob : h.Ns mainGlobals mg) (c : He.SaysX fa fn [] [] (gvsB cons) w h K) : ∀ d ∈ needsSs ir_text_of, NeedOk P w K mg base 7 d := by
  rw [needs_text_of]
  exact AllNd.all (l := [.fn "is_sort" F_is_sort [false], .fn "is_thing_of" F_is_thing_of [false, false], .fn "written_by" F_written_by [false, false]]) ⟨(nd_is_sort inK glob c).mono (by decide), (nd_is_thing_of inK glob c).mono (by decide), (nd_written_by inK glob c).mono (by decide), True.intro⟩
theorem nd_text_of (inK : K.In h) (glob : h.Ns mainGlobals mg) (c : He.SaysX fa fn [] [] (gvsB cons) w h K) : NeedOk P w K mg base 8 (.fn "text_of" F_text_of [false, false]) := need_fn (c.t.d.def_ 38 (d := d_text_of) rfl) (gl_ok inK glob c.t.d (x := "text_of") (List.mem_of_getElem? (i := 38) (show fa0[38]? = some (He.Fa.glo "text_of") from rfl))) ok_text_of (fun kV doc pm an cdv ct us hl => match us, hl with | [_, _], _ => rfl) (bn_ok inK glob c.t.d) (nds_text_of inK glob c)
theorem needs_wrong_place : needsSs ir_wrong_place = [.fn "check_text" F_check_text [false, false], .fn "place_in" F_place_in [false, false]] := by kernel_rfl
theorem nds_wrong_place (inK : K.In h) (glob : h.Ns mainGlobals mg) (c : He.SaysX fa fn [] [] (gvsB cons) w h K) : ∀ d ∈ needsSs ir_wrong_place, NeedOk P w K mg base 8 d := by
  rw [needs_wrong_place]
  exact AllNd.all (l := [.fn "check_text" F_check_text [false, false], .fn "place_in" F_place_in [false, false]]) ⟨(nd_check_text inK glob c).mono (by decide), (nd_place_in inK glob c).mono (by decide), True.intro⟩
theorem nd_wrong_place (inK : K.In h) (glob : h.Ns mainGlobals mg) (c : He.SaysX fa fn [] [] (gvsB cons) w h K) : NeedOk P w K mg base 9 (.fn "wrong_place" F_wrong_place [false, false]) := need_fn (c.t.d.def_ 39 (d := d_wrong_place) rfl) (gl_ok inK glob c.t.d (x := "wrong_place") (List.mem_of_getElem? (i := 39) (show fa0[39]? = some (He.Fa.glo "wrong_place") from rfl))) ok_wrong_place (fun kV doc pm an cdv ct us hl => match us, hl with | [_, _], _ => rfl) (bn_ok inK glob c.t.d) (nds_wrong_place inK glob c)
theorem needs_thing_of : needsSs ir_thing_of = [.fn "check_text" F_check_text [false, false], .fn "read_thing" F_read_thing [false, false]] := by kernel_rfl
theorem nds_thing_of (inK : K.In h) (glob : h.Ns mainGlobals mg) (c : He.SaysX fa fn [] [] (gvsB cons) w h K) : ∀ d ∈ needsSs ir_thing_of, NeedOk P w K mg base 9 d := by
  rw [needs_thing_of]
  exact AllNd.all (l := [.fn "check_text" F_check_text [false, false], .fn "read_thing" F_read_thing [false, false]]) ⟨(nd_check_text inK glob c).mono (by decide), (nd_read_thing inK glob c).mono (by decide), True.intro⟩
theorem nd_thing_of (inK : K.In h) (glob : h.Ns mainGlobals mg) (c : He.SaysX fa fn [] [] (gvsB cons) w h K) : NeedOk P w K mg base 10 (.fn "thing_of" F_thing_of [false, false]) := need_fn (c.t.d.def_ 40 (d := d_thing_of) rfl) (gl_ok inK glob c.t.d (x := "thing_of") (List.mem_of_getElem? (i := 40) (show fa0[40]? = some (He.Fa.glo "thing_of") from rfl))) ok_thing_of (fun kV doc pm an cdv ct us hl => match us, hl with | [_, _], _ => rfl) (bn_ok inK glob c.t.d) (nds_thing_of inK glob c)
theorem needs__law_pot : needsSs ir__law_pot = [] := by kernel_rfl
theorem nds__law_pot (inK : K.In h) (glob : h.Ns mainGlobals mg) (c : He.SaysX fa fn [] [] (gvsB cons) w h K) : ∀ d ∈ needsSs ir__law_pot, NeedOk P w K mg base 0 d := by
  rw [needs__law_pot]
  intro d hd
  cases hd
theorem nd__law_pot (inK : K.In h) (glob : h.Ns mainGlobals mg) (c : He.SaysX fa fn [] [] (gvsB cons) w h K) : NeedOk P w K mg base 1 (.fn "_law_pot" F__law_pot [false, false]) := need_fn (c.t.d.def_ 41 (d := d__law_pot) rfl) (gl_ok inK glob c.t.d (x := "_law_pot") (List.mem_of_getElem? (i := 41) (show fa0[41]? = some (He.Fa.glo "_law_pot") from rfl))) ok__law_pot (fun kV doc pm an cdv ct us hl => match us, hl with | [_, _], _ => rfl) (bn_ok inK glob c.t.d) (nds__law_pot inK glob c)
theorem needs__law_draw : needsSs ir__law_draw = [] := by kernel_rfl
theorem nds__law_draw (inK : K.In h) (glob : h.Ns mainGlobals mg) (c : He.SaysX fa fn [] [] (gvsB cons) w h K) : ∀ d ∈ needsSs ir__law_draw, NeedOk P w K mg base 0 d := by
  rw [needs__law_draw]
  intro d hd
  cases hd
theorem nd__law_draw (inK : K.In h) (glob : h.Ns mainGlobals mg) (c : He.SaysX fa fn [] [] (gvsB cons) w h K) : NeedOk P w K mg base 1 (.fn "_law_draw" F__law_draw [true, false]) := need_fn (c.t.d.def_ 42 (d := d__law_draw) rfl) (gl_ok inK glob c.t.d (x := "_law_draw") (List.mem_of_getElem? (i := 42) (show fa0[42]? = some (He.Fa.glo "_law_draw") from rfl))) ok__law_draw (fun kV doc pm an cdv ct us hl => match us, hl with | [_, _], _ => rfl) (bn_ok inK glob c.t.d) (nds__law_draw inK glob c)
theorem needs__law_pick : needsSs ir__law_pick = [.fn "_law_draw" F__law_draw [true, false]] := by kernel_rfl
theorem nds__law_pick (inK : K.In h) (glob : h.Ns mainGlobals mg) (c : He.SaysX fa fn [] [] (gvsB cons) w h K) : ∀ d ∈ needsSs ir__law_pick, NeedOk P w K mg base 1 d := by
  rw [needs__law_pick]
  exact AllNd.all (l := [.fn "_law_draw" F__law_draw [true, false]]) ⟨(nd__law_draw inK glob c).mono (by decide), True.intro⟩
theorem nd__law_pick (inK : K.In h) (glob : h.Ns mainGlobals mg) (c : He.SaysX fa fn [] [] (gvsB cons) w h K) : NeedOk P w K mg base 2 (.fn "_law_pick" F__law_pick [true, false]) := need_fn (c.t.d.def_ 43 (d := d__law_pick) rfl) (gl_ok inK glob c.t.d (x := "_law_pick") (List.mem_of_getElem? (i := 43) (show fa0[43]? = some (He.Fa.glo "_law_pick") from rfl))) ok__law_pick (fun kV doc pm an cdv ct us hl => match us, hl with | [_, _], _ => rfl) (bn_ok inK glob c.t.d) (nds__law_pick inK glob c)
theorem needs__law_frac : needsSs ir__law_frac = [] := by kernel_rfl
theorem nds__law_frac (inK : K.In h) (glob : h.Ns mainGlobals mg) (c : He.SaysX fa fn [] [] (gvsB cons) w h K) : ∀ d ∈ needsSs ir__law_frac, NeedOk P w K mg base 0 d := by
  rw [needs__law_frac]
  intro d hd
  cases hd
theorem nd__law_frac (inK : K.In h) (glob : h.Ns mainGlobals mg) (c : He.SaysX fa fn [] [] (gvsB cons) w h K) : NeedOk P w K mg base 1 (.fn "_law_frac" F__law_frac [false, false]) := need_fn (c.t.d.def_ 44 (d := d__law_frac) rfl) (gl_ok inK glob c.t.d (x := "_law_frac") (List.mem_of_getElem? (i := 44) (show fa0[44]? = some (He.Fa.glo "_law_frac") from rfl))) ok__law_frac (fun kV doc pm an cdv ct us hl => match us, hl with | [_, _], _ => rfl) (bn_ok inK glob c.t.d) (nds__law_frac inK glob c)
theorem needs__law_plus : needsSs ir__law_plus = [.fn "_law_frac" F__law_frac [false, false]] := by kernel_rfl
theorem nds__law_plus (inK : K.In h) (glob : h.Ns mainGlobals mg) (c : He.SaysX fa fn [] [] (gvsB cons) w h K) : ∀ d ∈ needsSs ir__law_plus, NeedOk P w K mg base 1 d := by
  rw [needs__law_plus]
  exact AllNd.all (l := [.fn "_law_frac" F__law_frac [false, false]]) ⟨(nd__law_frac inK glob c).mono (by decide), True.intro⟩
theorem nd__law_plus (inK : K.In h) (glob : h.Ns mainGlobals mg) (c : He.SaysX fa fn [] [] (gvsB cons) w h K) : NeedOk P w K mg base 2 (.fn "_law_plus" F__law_plus [false, false]) := need_fn (c.t.d.def_ 45 (d := d__law_plus) rfl) (gl_ok inK glob c.t.d (x := "_law_plus") (List.mem_of_getElem? (i := 45) (show fa0[45]? = some (He.Fa.glo "_law_plus") from rfl))) ok__law_plus (fun kV doc pm an cdv ct us hl => match us, hl with | [_, _], _ => rfl) (bn_ok inK glob c.t.d) (nds__law_plus inK glob c)
theorem needs__law_minus : needsSs ir__law_minus = [.fn "_law_frac" F__law_frac [false, false]] := by kernel_rfl
theorem nds__law_minus (inK : K.In h) (glob : h.Ns mainGlobals mg) (c : He.SaysX fa fn [] [] (gvsB cons) w h K) : ∀ d ∈ needsSs ir__law_minus, NeedOk P w K mg base 1 d := by
  rw [needs__law_minus]
  exact AllNd.all (l := [.fn "_law_frac" F__law_frac [false, false]]) ⟨(nd__law_frac inK glob c).mono (by decide), True.intro⟩
theorem nd__law_minus (inK : K.In h) (glob : h.Ns mainGlobals mg) (c : He.SaysX fa fn [] [] (gvsB cons) w h K) : NeedOk P w K mg base 2 (.fn "_law_minus" F__law_minus [false, false]) := need_fn (c.t.d.def_ 46 (d := d__law_minus) rfl) (gl_ok inK glob c.t.d (x := "_law_minus") (List.mem_of_getElem? (i := 46) (show fa0[46]? = some (He.Fa.glo "_law_minus") from rfl))) ok__law_minus (fun kV doc pm an cdv ct us hl => match us, hl with | [_, _], _ => rfl) (bn_ok inK glob c.t.d) (nds__law_minus inK glob c)
theorem needs__law_times : needsSs ir__law_times = [.fn "_law_frac" F__law_frac [false, false]] := by kernel_rfl
theorem nds__law_times (inK : K.In h) (glob : h.Ns mainGlobals mg) (c : He.SaysX fa fn [] [] (gvsB cons) w h K) : ∀ d ∈ needsSs ir__law_times, NeedOk P w K mg base 1 d := by
  rw [needs__law_times]
  exact AllNd.all (l := [.fn "_law_frac" F__law_frac [false, false]]) ⟨(nd__law_frac inK glob c).mono (by decide), True.intro⟩
theorem nd__law_times (inK : K.In h) (glob : h.Ns mainGlobals mg) (c : He.SaysX fa fn [] [] (gvsB cons) w h K) : NeedOk P w K mg base 2 (.fn "_law_times" F__law_times [false, false]) := need_fn (c.t.d.def_ 47 (d := d__law_times) rfl) (gl_ok inK glob c.t.d (x := "_law_times") (List.mem_of_getElem? (i := 47) (show fa0[47]? = some (He.Fa.glo "_law_times") from rfl))) ok__law_times (fun kV doc pm an cdv ct us hl => match us, hl with | [_, _], _ => rfl) (bn_ok inK glob c.t.d) (nds__law_times inK glob c)
theorem needs__law_sum : needsSs ir__law_sum = [.fn "_law_plus" F__law_plus [false, false]] := by kernel_rfl
theorem nds__law_sum (inK : K.In h) (glob : h.Ns mainGlobals mg) (c : He.SaysX fa fn [] [] (gvsB cons) w h K) : ∀ d ∈ needsSs ir__law_sum, NeedOk P w K mg base 2 d := by
  rw [needs__law_sum]
  exact AllNd.all (l := [.fn "_law_plus" F__law_plus [false, false]]) ⟨(nd__law_plus inK glob c).mono (by decide), True.intro⟩
theorem nd__law_sum (inK : K.In h) (glob : h.Ns mainGlobals mg) (c : He.SaysX fa fn [] [] (gvsB cons) w h K) : NeedOk P w K mg base 3 (.fn "_law_sum" F__law_sum [false]) := need_fn (c.t.d.def_ 48 (d := d__law_sum) rfl) (gl_ok inK glob c.t.d (x := "_law_sum") (List.mem_of_getElem? (i := 48) (show fa0[48]? = some (He.Fa.glo "_law_sum") from rfl))) ok__law_sum (fun kV doc pm an cdv ct us hl => match us, hl with | [_], _ => rfl) (bn_ok inK glob c.t.d) (nds__law_sum inK glob c)
theorem needs__law_below : needsSs ir__law_below = [] := by kernel_rfl
theorem nds__law_below (inK : K.In h) (glob : h.Ns mainGlobals mg) (c : He.SaysX fa fn [] [] (gvsB cons) w h K) : ∀ d ∈ needsSs ir__law_below, NeedOk P w K mg base 0 d := by
  rw [needs__law_below]
  intro d hd
  cases hd
theorem nd__law_below (inK : K.In h) (glob : h.Ns mainGlobals mg) (c : He.SaysX fa fn [] [] (gvsB cons) w h K) : NeedOk P w K mg base 1 (.fn "_law_below" F__law_below [false, false]) := need_fn (c.t.d.def_ 49 (d := d__law_below) rfl) (gl_ok inK glob c.t.d (x := "_law_below") (List.mem_of_getElem? (i := 49) (show fa0[49]? = some (He.Fa.glo "_law_below") from rfl))) ok__law_below (fun kV doc pm an cdv ct us hl => match us, hl with | [_, _], _ => rfl) (bn_ok inK glob c.t.d) (nds__law_below inK glob c)
theorem needs__law_small : needsSs ir__law_small = [.fn "_law_frac" F__law_frac [false, false], .fn "_law_draw" F__law_draw [true, false], .fn "_law_pick" F__law_pick [true, false]] := by kernel_rfl
theorem nds__law_small (inK : K.In h) (glob : h.Ns mainGlobals mg) (c : He.SaysX fa fn [] [] (gvsB cons) w h K) : ∀ d ∈ needsSs ir__law_small, NeedOk P w K mg base 2 d := by
  rw [needs__law_small]
  exact AllNd.all (l := [.fn "_law_frac" F__law_frac [false, false], .fn "_law_draw" F__law_draw [true, false], .fn "_law_pick" F__law_pick [true, false]]) ⟨(nd__law_frac inK glob c).mono (by decide), (nd__law_draw inK glob c).mono (by decide), (nd__law_pick inK glob c).mono (by decide), True.intro⟩
theorem nd__law_small (inK : K.In h) (glob : h.Ns mainGlobals mg) (c : He.SaysX fa fn [] [] (gvsB cons) w h K) : NeedOk P w K mg base 3 (.fn "_law_small" F__law_small [true, false]) := need_fn (c.t.d.def_ 50 (d := d__law_small) rfl) (gl_ok inK glob c.t.d (x := "_law_small") (List.mem_of_getElem? (i := 50) (show fa0[50]? = some (He.Fa.glo "_law_small") from rfl))) ok__law_small (fun kV doc pm an cdv ct us hl => match us, hl with | [_, _], _ => rfl) (bn_ok inK glob c.t.d) (nds__law_small inK glob c)
theorem needs__law_poly : needsSs ir__law_poly = [.fn "_law_draw" F__law_draw [true, false], .fn "_law_small" F__law_small [true, false], .fn "_law_pick" F__law_pick [true, false]] := by kernel_rfl
theorem nds__law_poly (inK : K.In h) (glob : h.Ns mainGlobals mg) (c : He.SaysX fa fn [] [] (gvsB cons) w h K) : ∀ d ∈ needsSs ir__law_poly, NeedOk P w K mg base 3 d := by
  rw [needs__law_poly]
  exact AllNd.all (l := [.fn "_law_draw" F__law_draw [true, false], .fn "_law_small" F__law_small [true, false], .fn "_law_pick" F__law_pick [true, false]]) ⟨(nd__law_draw inK glob c).mono (by decide), (nd__law_small inK glob c).mono (by decide), (nd__law_pick inK glob c).mono (by decide), True.intro⟩
theorem nd__law_poly (inK : K.In h) (glob : h.Ns mainGlobals mg) (c : He.SaysX fa fn [] [] (gvsB cons) w h K) : NeedOk P w K mg base 4 (.fn "_law_poly" F__law_poly [true, false]) := need_fn (c.t.d.def_ 51 (d := d__law_poly) rfl) (gl_ok inK glob c.t.d (x := "_law_poly") (List.mem_of_getElem? (i := 51) (show fa0[51]? = some (He.Fa.glo "_law_poly") from rfl))) ok__law_poly (fun kV doc pm an cdv ct us hl => match us, hl with | [_, _], _ => rfl) (bn_ok inK glob c.t.d) (nds__law_poly inK glob c)
theorem needs__law_rising : needsSs ir__law_rising = [.fn "_law_frac" F__law_frac [false, false], .fn "_law_draw" F__law_draw [true, false], .fn "_law_draw" F__law_draw [true, false], .fn "_law_plus" F__law_plus [false, false], .fn "_law_frac" F__law_frac [false, false], .fn "_law_draw" F__law_draw [true, false], .fn "_law_draw" F__law_draw [true, false]] := by kernel_rfl
theorem nds__law_rising (inK : K.In h) (glob : h.Ns mainGlobals mg) (c : He.SaysX fa fn [] [] (gvsB cons) w h K) : ∀ d ∈ needsSs ir__law_rising, NeedOk P w K mg base 2 d := by
  rw [needs__law_rising]
  exact AllNd.all (l := [.fn "_law_frac" F__law_frac [false, false], .fn "_law_draw" F__law_draw [true, false], .fn "_law_draw" F__law_draw [true, false], .fn "_law_plus" F__law_plus [false, false], .fn "_law_frac" F__law_frac [false, false], .fn "_law_draw" F__law_draw [true, false], .fn "_law_draw" F__law_draw [true, false]]) ⟨(nd__law_frac inK glob c).mono (by decide), (nd__law_draw inK glob c).mono (by decide), (nd__law_draw inK glob c).mono (by decide), (nd__law_plus inK glob c).mono (by decide), (nd__law_frac inK glob c).mono (by decide), (nd__law_draw inK glob c).mono (by decide), (nd__law_draw inK glob c).mono (by decide), True.intro⟩
theorem nd__law_rising (inK : K.In h) (glob : h.Ns mainGlobals mg) (c : He.SaysX fa fn [] [] (gvsB cons) w h K) : NeedOk P w K mg base 3 (.fn "_law_rising" F__law_rising [true, false]) := need_fn (c.t.d.def_ 52 (d := d__law_rising) rfl) (gl_ok inK glob c.t.d (x := "_law_rising") (List.mem_of_getElem? (i := 52) (show fa0[52]? = some (He.Fa.glo "_law_rising") from rfl))) ok__law_rising (fun kV doc pm an cdv ct us hl => match us, hl with | [_, _], _ => rfl) (bn_ok inK glob c.t.d) (nds__law_rising inK glob c)
theorem needs__law_some : needsSs ir__law_some = [.fn "_law_poly" F__law_poly [true, false], .fn "_law_rising" F__law_rising [true, false], .fn "_law_rising" F__law_rising [true, false], .fn "_law_draw" F__law_draw [true, false], .fn "_law_poly" F__law_poly [true, false]] := by kernel_rfl
theorem nds__law_some (inK : K.In h) (glob : h.Ns mainGlobals mg) (c : He.SaysX fa fn [] [] (gvsB cons) w h K) : ∀ d ∈ needsSs ir__law_some, NeedOk P w K mg base 4 d := by
  rw [needs__law_some]
  exact AllNd.all (l := [.fn "_law_poly" F__law_poly [true, false], .fn "_law_rising" F__law_rising [true, false], .fn "_law_rising" F__law_rising [true, false], .fn "_law_draw" F__law_draw [true, false], .fn "_law_poly" F__law_poly [true, false]]) ⟨(nd__law_poly inK glob c).mono (by decide), (nd__law_rising inK glob c).mono (by decide), (nd__law_rising inK glob c).mono (by decide), (nd__law_draw inK glob c).mono (by decide), (nd__law_poly inK glob c).mono (by decide), True.intro⟩
theorem nd__law_some (inK : K.In h) (glob : h.Ns mainGlobals mg) (c : He.SaysX fa fn [] [] (gvsB cons) w h K) : NeedOk P w K mg base 5 (.fn "_law_some" F__law_some [true, false, false]) := need_fn (c.t.d.def_ 53 (d := d__law_some) rfl) (gl_ok inK glob c.t.d (x := "_law_some") (List.mem_of_getElem? (i := 53) (show fa0[53]? = some (He.Fa.glo "_law_some") from rfl))) ok__law_some (fun kV doc pm an cdv ct us hl => match us, hl with | [_, _, _], _ => rfl) (bn_ok inK glob c.t.d) (nds__law_some inK glob c)
theorem needs__law_fraction : needsSs ir__law_fraction = [] := by kernel_rfl
theorem nds__law_fraction (inK : K.In h) (glob : h.Ns mainGlobals mg) (c : He.SaysX fa fn [] [] (gvsB cons) w h K) : ∀ d ∈ needsSs ir__law_fraction, NeedOk P w K mg base 0 d := by
  rw [needs__law_fraction]
  intro d hd
  cases hd
theorem nd__law_fraction (inK : K.In h) (glob : h.Ns mainGlobals mg) (c : He.SaysX fa fn [] [] (gvsB cons) w h K) : NeedOk P w K mg base 1 (.fn "_law_fraction" F__law_fraction [false]) := need_fn (c.t.d.def_ 54 (d := d__law_fraction) rfl) (gl_ok inK glob c.t.d (x := "_law_fraction") (List.mem_of_getElem? (i := 54) (show fa0[54]? = some (He.Fa.glo "_law_fraction") from rfl))) ok__law_fraction (fun kV doc pm an cdv ct us hl => match us, hl with | [_], _ => rfl) (bn_ok inK glob c.t.d) (nds__law_fraction inK glob c)
theorem needs__law_fractions : needsSs ir__law_fractions = [.fn "_law_fraction" F__law_fraction [false]] := by kernel_rfl
theorem nds__law_fractions (inK : K.In h) (glob : h.Ns mainGlobals mg) (c : He.SaysX fa fn [] [] (gvsB cons) w h K) : ∀ d ∈ needsSs ir__law_fractions, NeedOk P w K mg base 1 d := by
  rw [needs__law_fractions]
  exact AllNd.all (l := [.fn "_law_fraction" F__law_fraction [false]]) ⟨(nd__law_fraction inK glob c).mono (by decide), True.intro⟩
theorem nd__law_fractions (inK : K.In h) (glob : h.Ns mainGlobals mg) (c : He.SaysX fa fn [] [] (gvsB cons) w h K) : NeedOk P w K mg base 2 (.fn "_law_fractions" F__law_fractions [false]) := need_fn (c.t.d.def_ 55 (d := d__law_fractions) rfl) (gl_ok inK glob c.t.d (x := "_law_fractions") (List.mem_of_getElem? (i := 55) (show fa0[55]? = some (He.Fa.glo "_law_fractions") from rfl))) ok__law_fractions (fun kV doc pm an cdv ct us hl => match us, hl with | [_], _ => rfl) (bn_ok inK glob c.t.d) (nds__law_fractions inK glob c)
theorem needs__law_written (F_rec : Fn) : needsSs (ir__law_written F_rec) = [.fn "_law_fractions" F__law_fractions [false], .fn "_law_fraction" F__law_fraction [false], .fn "_law_fraction" F__law_fraction [false], .fn "_law_fractions" F__law_fractions [false], .fn "_law_written" F_rec [false, false]] := by kernel_rfl
theorem nds__law_written (inK : K.In h) (glob : h.Ns mainGlobals mg) (c : He.SaysX fa fn [] [] (gvsB cons) w h K) {k : Nat} {F_rec : Fn} (hk : 2 ≤ k) (hr : NeedOk P w K mg base k (.fn "_law_written" F_rec [false, false])) : ∀ d ∈ needsSs (ir__law_written F_rec), NeedOk P w K mg base k d := by
  rw [needs__law_written]
  exact AllNd.all (l := [.fn "_law_fractions" F__law_fractions [false], .fn "_law_fraction" F__law_fraction [false], .fn "_law_fraction" F__law_fraction [false], .fn "_law_fractions" F__law_fractions [false], .fn "_law_written" F_rec [false, false]]) ⟨(nd__law_fractions inK glob c).mono (Nat.le_trans (by decide) hk), (nd__law_fraction inK glob c).mono (Nat.le_trans (by decide) hk), (nd__law_fraction inK glob c).mono (Nat.le_trans (by decide) hk), (nd__law_fractions inK glob c).mono (Nat.le_trans (by decide) hk), hr, True.intro⟩
theorem nd__law_written_1 (inK : K.In h) (glob : h.Ns mainGlobals mg) (c : He.SaysX fa fn [] [] (gvsB cons) w h K) : NeedOk P w K mg base 3 (.fn "_law_written" F__law_written_1 [false, false]) := need_fn (c.t.d.def_ 56 (d := d__law_written) rfl) (gl_ok inK glob c.t.d (x := "_law_written") (List.mem_of_getElem? (i := 56) (show fa0[56]? = some (He.Fa.glo "_law_written") from rfl))) (ok__law_written _) (fun kV doc pm an cdv ct us hl => match us, hl with | [_, _], _ => rfl) (bn_ok inK glob c.t.d) (nds__law_written inK glob c (by decide) (.inl fun _ => rfl : NeedOk P w K mg base 2 (.fn "_law_written" F__law_written_0 [false, false])))
theorem nd__law_written_2 (inK : K.In h) (glob : h.Ns mainGlobals mg) (c : He.SaysX fa fn [] [] (gvsB cons) w h K) : NeedOk P w K mg base 4 (.fn "_law_written" F__law_written_2 [false, false]) := need_fn (c.t.d.def_ 56 (d := d__law_written) rfl) (gl_ok inK glob c.t.d (x := "_law_written") (List.mem_of_getElem? (i := 56) (show fa0[56]? = some (He.Fa.glo "_law_written") from rfl))) (ok__law_written _) (fun kV doc pm an cdv ct us hl => match us, hl with | [_, _], _ => rfl) (bn_ok inK glob c.t.d) (nds__law_written inK glob c (by decide) ((nd__law_written_1 inK glob c).mono (by decide)))
theorem nd__law_written (inK : K.In h) (glob : h.Ns mainGlobals mg) (c : He.SaysX fa fn [] [] (gvsB cons) w h K) : NeedOk P w K mg base 5 (.fn "_law_written" F__law_written [false, false]) := need_fn (c.t.d.def_ 56 (d := d__law_written) rfl) (gl_ok inK glob c.t.d (x := "_law_written") (List.mem_of_getElem? (i := 56) (show fa0[56]? = some (He.Fa.glo "_law_written") from rfl))) (ok__law_written _) (fun kV doc pm an cdv ct us hl => match us, hl with | [_, _], _ => rfl) (bn_ok inK glob c.t.d) (nds__law_written inK glob c (by decide) ((nd__law_written_2 inK glob c).mono (by decide)))
theorem needs__law_spoilt : needsSs ir__law_spoilt = [.fn "thing_of" F_thing_of [false, false], .fn "thing_of" F_thing_of [false, false], .fn "thing_of" F_thing_of [false, false]] := by kernel_rfl
theorem nds__law_spoilt (inK : K.In h) (glob : h.Ns mainGlobals mg) (c : He.SaysX fa fn [] [] (gvsB cons) w h K) : ∀ d ∈ needsSs ir__law_spoilt, NeedOk P w K mg base 10 d := by
  rw [needs__law_spoilt]
  exact AllNd.all (l := [.fn "thing_of" F_thing_of [false, false], .fn "thing_of" F_thing_of [false, false], .fn "thing_of" F_thing_of [false, false]]) ⟨(nd_thing_of inK glob c).mono (by decide), (nd_thing_of inK glob c).mono (by decide), (nd_thing_of inK glob c).mono (by decide), True.intro⟩
theorem nd__law_spoilt (inK : K.In h) (glob : h.Ns mainGlobals mg) (c : He.SaysX fa fn [] [] (gvsB cons) w h K) : NeedOk P w K mg base 11 (.fn "_law_spoilt" F__law_spoilt [false, false]) := need_fn (c.t.d.def_ 57 (d := d__law_spoilt) rfl) (gl_ok inK glob c.t.d (x := "_law_spoilt") (List.mem_of_getElem? (i := 57) (show fa0[57]? = some (He.Fa.glo "_law_spoilt") from rfl))) ok__law_spoilt (fun kV doc pm an cdv ct us hl => match us, hl with | [_, _], _ => rfl) (bn_ok inK glob c.t.d) (nds__law_spoilt inK glob c)
theorem ndk_text_of_0 (inK : K.In h) (glob : h.Ns mainGlobals mg) (c : He.SaysX fa fn [] [] (gvsB cons) w h K) : NeedOk P w K mg base 8 (.fnk "text_of" F_text_of 0 ["kept_thing", "sort"] [1, 0]) := need_fnk (c.t.d.def_ 38 (d := d_text_of) rfl) (gl_ok inK glob c.t.d (x := "text_of") (List.mem_of_getElem? (i := 38) (show fa0[38]? = some (He.Fa.glo "text_of") from rfl))) ok_text_of (fun kV doc pm an cdv ct us ws hu hw l hl => match us, ws, hu, hw, hl with | [], [_, _], _, _, rfl => rfl) rfl (bn_ok inK glob c.t.d) (nds_text_of inK glob c)
theorem ndk_thing_of_1 (inK : K.In h) (glob : h.Ns mainGlobals mg) (c : He.SaysX fa fn [] [] (gvsB cons) w h K) : NeedOk P w K mg base 10 (.fnk "thing_of" F_thing_of 0 ["written", "sort"] [1, 0]) := need_fnk (c.t.d.def_ 40 (d := d_thing_of) rfl) (gl_ok inK glob c.t.d (x := "thing_of") (List.mem_of_getElem? (i := 40) (show fa0[40]? = some (He.Fa.glo "thing_of") from rfl))) ok_thing_of (fun kV doc pm an cdv ct us ws hu hw l hl => match us, ws, hu, hw, hl with | [], [_, _], _, _, rfl => rfl) rfl (bn_ok inK glob c.t.d) (nds_thing_of inK glob c)
theorem ndk_wrong_place_2 (inK : K.In h) (glob : h.Ns mainGlobals mg) (c : He.SaysX fa fn [] [] (gvsB cons) w h K) : NeedOk P w K mg base 9 (.fnk "wrong_place" F_wrong_place 0 ["written", "sort"] [1, 0]) := need_fnk (c.t.d.def_ 39 (d := d_wrong_place) rfl) (gl_ok inK glob c.t.d (x := "wrong_place") (List.mem_of_getElem? (i := 39) (show fa0[39]? = some (He.Fa.glo "wrong_place") from rfl))) ok_wrong_place (fun kV doc pm an cdv ct us ws hu hw l hl => match us, ws, hu, hw, hl with | [], [_, _], _, _, rfl => rfl) rfl (bn_ok inK glob c.t.d) (nds_wrong_place inK glob c)
theorem needs__law_one_right : needsSs ir__law_one_right = [.fn "_law_some" F__law_some [true, false, false], .fn "_law_some" F__law_some [true, false, false], .fn "_law_written" F__law_written [false, false], .fn "text_of" F_text_of [false, false], .fnk "text_of" F_text_of 0 ["kept_thing", "sort"] [1, 0], .fn "thing_of" F_thing_of [false, false], .fnk "thing_of" F_thing_of 0 ["written", "sort"] [1, 0], .fn "wrong_place" F_wrong_place [false, false], .fnk "wrong_place" F_wrong_place 0 ["written", "sort"] [1, 0], .fn "_law_spoilt" F__law_spoilt [false, false], .fn "thing_of" F_thing_of [false, false], .fn "text_of" F_text_of [false, false]] := by kernel_rfl
theorem nds__law_one_right (inK : K.In h) (glob : h.Ns mainGlobals mg) (c : He.SaysX fa fn [] [] (gvsB cons) w h K) : ∀ d ∈ needsSs ir__law_one_right, NeedOk P w K mg base 11 d := by
  rw [needs__law_one_right]
  exact AllNd.all (l := [.fn "_law_some" F__law_some [true, false, false], .fn "_law_some" F__law_some [true, false, false], .fn "_law_written" F__law_written [false, false], .fn "text_of" F_text_of [false, false], .fnk "text_of" F_text_of 0 ["kept_thing", "sort"] [1, 0], .fn "thing_of" F_thing_of [false, false], .fnk "thing_of" F_thing_of 0 ["written", "sort"] [1, 0], .fn "wrong_place" F_wrong_place [false, false], .fnk "wrong_place" F_wrong_place 0 ["written", "sort"] [1, 0], .fn "_law_spoilt" F__law_spoilt [false, false], .fn "thing_of" F_thing_of [false, false], .fn "text_of" F_text_of [false, false]]) ⟨(nd__law_some inK glob c).mono (by decide), (nd__law_some inK glob c).mono (by decide), (nd__law_written inK glob c).mono (by decide), (nd_text_of inK glob c).mono (by decide), (ndk_text_of_0 inK glob c).mono (by decide), (nd_thing_of inK glob c).mono (by decide), (ndk_thing_of_1 inK glob c).mono (by decide), (nd_wrong_place inK glob c).mono (by decide), (ndk_wrong_place_2 inK glob c).mono (by decide), (nd__law_spoilt inK glob c).mono (by decide), (nd_thing_of inK glob c).mono (by decide), (nd_text_of inK glob c).mono (by decide), True.intro⟩
theorem nd__law_one_right (inK : K.In h) (glob : h.Ns mainGlobals mg) (c : He.SaysX fa fn [] [] (gvsB cons) w h K) : NeedOk P w K mg base 12 (.fn "_law_one_right" F__law_one_right [true, false]) := need_fn (c.t.d.def_ 58 (d := d__law_one_right) rfl) (gl_ok inK glob c.t.d (x := "_law_one_right") (List.mem_of_getElem? (i := 58) (show fa0[58]? = some (He.Fa.glo "_law_one_right") from rfl))) ok__law_one_right (fun kV doc pm an cdv ct us hl => match us, hl with | [_, _], _ => rfl) (bn_ok inK glob c.t.d) (nds__law_one_right inK glob c)
theorem needs__law_full_right : needsSs ir__law_full_right = [.fn "_law_pick" F__law_pick [true, false], .fn "_law_written" F__law_written [false, false], .fn "text_of" F_text_of [false, false], .fn "thing_of" F_thing_of [false, false]] := by kernel_rfl
theorem nds__law_full_right (inK : K.In h) (glob : h.Ns mainGlobals mg) (c : He.SaysX fa fn [] [] (gvsB cons) w h K) : ∀ d ∈ needsSs ir__law_full_right, NeedOk P w K mg base 10 d := by
  rw [needs__law_full_right]
  exact AllNd.all (l := [.fn "_law_pick" F__law_pick [true, false], .fn "_law_written" F__law_written [false, false], .fn "text_of" F_text_of [false, false], .fn "thing_of" F_thing_of [false, false]]) ⟨(nd__law_pick inK glob c).mono (by decide), (nd__law_written inK glob c).mono (by decide), (nd_text_of inK glob c).mono (by decide), (nd_thing_of inK glob c).mono (by decide), True.intro⟩
theorem nd__law_full_right (inK : K.In h) (glob : h.Ns mainGlobals mg) (c : He.SaysX fa fn [] [] (gvsB cons) w h K) : NeedOk P w K mg base 11 (.fn "_law_full_right" F__law_full_right [true]) := need_fn (c.t.d.def_ 59 (d := d__law_full_right) rfl) (gl_ok inK glob c.t.d (x := "_law_full_right") (List.mem_of_getElem? (i := 59) (show fa0[59]? = some (He.Fa.glo "_law_full_right") from rfl))) ok__law_full_right (fun kV doc pm an cdv ct us hl => match us, hl with | [_], _ => rfl) (bn_ok inK glob c.t.d) (nds__law_full_right inK glob c)
theorem needs_law : needsSs ir_law = [.fn "_law_pot" F__law_pot [false, false], .fn "_law_one_right" F__law_one_right [true, false], .fn "_law_full_right" F__law_full_right [true]] := by kernel_rfl
theorem nds_law (inK : K.In h) (glob : h.Ns mainGlobals mg) (c : He.SaysX fa fn [] [] (gvsB cons) w h K) : ∀ d ∈ needsSs ir_law, NeedOk P w K mg base 12 d := by
  rw [needs_law]
  exact AllNd.all (l := [.fn "_law_pot" F__law_pot [false, false], .fn "_law_one_right" F__law_one_right [true, false], .fn "_law_full_right" F__law_full_right [true]]) ⟨(nd__law_pot inK glob c).mono (by decide), (nd__law_one_right inK glob c).mono (by decide), (nd__law_full_right inK glob c).mono (by decide), True.intro⟩
theorem facts (inK : K.In h) (glob : h.Ns mainGlobals mg) (c : He.SaysX fa fn [] [] (gvsB cons) w h K) {f : Addr} (at_ : mg ("law" : Str) = some (.ref f)) : ∃ fd : FuncData, (∀ (s : Shared) (u : Value), BindsTo s fd ⟨[u], []⟩ [("script", u)]) ∧ ∀ base : Heap, K.In base → base.Ns mainGlobals mg → FnG P w K mg base 13 f fd ["script"] F_law [false] := by
  obtain ⟨fd, F⟩ := c.t.d.def_ 60 (d := d_law) rfl
  cases at_.symm.trans (gl_ok inK glob c.t.d (x := "law") (List.mem_of_getElem? (i := 60) (show fa0[60]? = some (He.Fa.glo "law") from rfl)))
  have b := FunD.bindsA (ps := ["script"]) F fun _ _ _ _ _ _ us hl => match us, hl with | [_], _ => rfl
  exact ⟨fd, fun s u => b s [u] rfl, fun base _ _ => fn_gD F ok_law (bn_ok inK glob c.t.d) (nds_law inK glob c)⟩
end
end M
end
section
set_option maxRecDepth 100000
set_option maxHeartbeats 0
open PySem PySem.W PySem.Calls PyProof.Rows
theorem M.ends (law : Vi.LawTrue M.F_law 63) : PySem.Challenge.rw_bentpieces_k92_whole_things_written_and.Holds := by
  w_on; o_law
  refine HandSHeadRun.head_any (r := OpenLaw.row PySem.Challenge.rw_bentpieces_k92_whole_things_written_and) (q := view (OpenLaw.row PySem.Challenge.rw_bentpieces_k92_whole_things_written_and).prog [82]) (H := M.hk) (ob := M.ob) (M := 20000) (loose := M.names) (d := HandSHeadRun.topDef (OpenLaw.row PySem.Challenge.rw_bentpieces_k92_whole_things_written_and).prog 82) (kwd := []) M.ob_eq
    (by kernel_rfl) (fun s => by kernel_rfl) M.run (by kernel_rfl) (by kernel_rfl) (by kernel_rfl) (by rfl) (by first | assumption | decide +kernel) (by decide +kernel) ⟨rfl, rfl, rfl, rfl, rfl, by decide +kernel⟩ ?hw ?hc
  case hw => w_witness2
  case hc =>
    refine Vi.law_g (l := PySem.Challenge.rw_bentpieces_k92_whole_things_written_and) (n := 63) (k := 13) (x := "script") rfl (by decide) (by kernel_rfl) (Vi.room_of rfl) law ?_
    intro w mg fa h Y G hmg0
    obtain ⟨K, KX, c⟩ := Y
    have hmg : mg ("law" : PySem.Str) = some (.ref fa) := by
      have e : (HandSHeadRun.topDef (OpenLaw.row PySem.Challenge.rw_bentpieces_k92_whole_things_written_and).prog 82).name = ("law" : PySem.Str) := by kernel_rfl
      rw [← e]
      exact hmg0
    obtain ⟨fd, hb, hF⟩ := M.facts KX G c hmg
    exact ⟨K, fd, KX, hb, hF⟩
end
open PySem PySem.W PyProof.Rows
theorem PySem.Challenge.cw_bentpieces_k92_whole_things_written_and_holds : PySem.Challenge.rw_bentpieces_k92_whole_things_written_and.Holds := by
  exact M.ends M.law_true
