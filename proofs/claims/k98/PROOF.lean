import PyProof.Rows.All
import Wide.All
import OpenK.AllK
import Wide.FinOn
import HandS.ForMost
import HandS.Conv
import HandS.TupAny
import HandS.TupMul
import HandS.Deep
import HandS.IsInst
import HandS.SetKeys
import HandS.Walk
import PyProof.ReprRoads
import HandS.Small
import HandS.SetFor
import HandS.RaiseMore
import HandS.TupSets
import KE.DataMinMax
import KE.SortData
import HandS.SortInts
import HandS.Flow
import HandS.Ends
import PyProof.ReprLen
import PySem.Challenge.RW_passedtwice_k98_whole_small_words
set_option Elab.async false
set_option linter.all false
set_option maxRecDepth 100000
/-! A small language of the shapes that the program uses: syntax, and what it computes. -/
namespace Mi
open PySem L2

inductive Val where
  | non | bl (b : Bool) | int (i : Int) | str (s : Str) | rep (d : PyData) | tup (xs : List Val) | ref (a : Nat) | ty (n : String) | glo (g : Nat)

inductive HObj where
  | lst (xs : List Val)
  | rol (xs : List Val)
  | dk (kvs : List (Key × Val))

structure Mem where
  n : Nat
  h : List (Nat × HObj)

abbrev Sta := List (Option Val)

def hget : List (Nat × HObj) → Nat → Option HObj
  | [], _ => none
  | p :: r, a => if Nat.beq a p.1 then some p.2 else hget r a
def hput : List (Nat × HObj) → Nat → HObj → List (Nat × HObj)
  | [], _, _ => []
  | p :: r, a, o => if Nat.beq a p.1 then (p.1, o) :: r else p :: hput r a o
def Mem.get (m : Mem) (a : Nat) : Option HObj := hget m.h a
def Mem.put (m : Mem) (a : Nat) (o : HObj) : Mem := ⟨m.n, hput m.h a o⟩
def Mem.new (m : Mem) (o : HObj) : Mem := ⟨m.n + 1, (m.n, o) :: m.h⟩
/-- objects older than n0 -/
def hcut : List (Nat × HObj) → Nat → List (Nat × HObj)
  | [], _ => []
  | p :: r, n0 => if Nat.blt p.1 n0 = true then p :: hcut r n0 else hcut r n0

mutual
def Val.flat : Val → Bool
  | .ref _ => false
  | .tup xs => Val.flats xs
  | _ => true
def Val.flats : List Val → Bool
  | [] => true
  | x :: r => Val.flat x && Val.flats r
end

/-! ### data -/
def mapO {α β : Type} (f : α → Option β) : List α → Option (List β)
  | [] => some []
  | x :: r => match f x with
    | some y => match mapO f r with
      | some ys => some (y :: ys)
      | none => none
    | none => none
/-- the data of a value, lists read from the heap, at most n deep -/
def dataF (h : List (Nat × HObj)) : Nat → Val → Option PyData
  | 0, v => match v with
    | .non => some .none
    | .bl b => some (.bool b)
    | .int i => some (.int i)
    | .str s => some (.str s)
    | .rep d => some (.str d.shown)
    | _ => none
  | n + 1, v => match v with
    | .non => some .none
    | .bl b => some (.bool b)
    | .int i => some (.int i)
    | .str s => some (.str s)
    | .rep d => some (.str d.shown)
    | .tup xs => (mapO (dataF h n) xs).map .tuple
    | .ref a => match hget h a with
      | some (.lst xs) => (mapO (dataF h n) xs).map .list
      | some (.rol xs) => (mapO (dataF h n) xs).map .list
      | _ => none
    | _ => none
def Mem.data (m : Mem) (v : Val) : Option PyData := dataF m.h 8 v

/-! ### dicts -/
def kget : List (Key × Val) → Key → Option Val
  | [], _ => none
  | p :: r, k => if p.1 = k then some p.2 else kget r k
def kset (xs : List (Key × Val)) (k : Key) (v : Val) : List (Key × Val) :=
  if (kget xs k).isSome = true then xs.map (fun p => if p.1 = k then (p.1, v) else p) else xs ++ [(k, v)]
def keyOf : Val → Option Key
  | .int i => some (.inl i)
  | .str s => some (.inr s)
  | _ => none
def keyV : Key → Val
  | .inl i => .int i
  | .inr s => .str s

/-! ### the parts of the language that work on values -/
inductive Kind where
  | non | bool | int | str | tuple | list | dict
  deriving DecidableEq
def Kind.name : Kind → String
  | .non => "NoneType" | .bool => "bool" | .int => "int" | .str => "str" | .tuple => "tuple" | .list => "list" | .dict => "dict"
inductive Prim where
  | add | sub | mul | mod | fdiv | pow | neg
  | eq | ne | lt | le | gt | ge | isN | notN | in_ | notIn
  | tupD | lstD | dkD
  | item | slc (a b : Bool) | rev
  | len | abs | int | max2 | min2 | all | any | divmod | tuple | list | listRange | repr | isinst (t : Kind)
  | append | extend | popAt | pop | count | index | index2 | setdefault
  | minT | sortT | ssetT
  deriving DecidableEq

def LIM : Nat := 8000000
def small {α : Type} (xs : List α) : Bool := Nat.ble xs.length LIM

def rangeV : Int → Nat → List Val
  | _, 0 => []
  | i, n + 1 => .int i :: rangeV (i + 1) n

def kindOf (m : Mem) : Val → Option Kind
  | .non => some .non
  | .bl _ => some .bool
  | .int _ => some .int
  | .str _ => some .str
  | .rep _ => some .str
  | .tup _ => some .tuple
  | .ref a => match m.get a with
    | some (.lst _) => some .list
    | some (.rol _) => some .list
    | some (.dk _) => some .dict
    | none => none
  | _ => none
def isKind : Kind → Kind → Bool
  | .bool, .int => true
  | k, t => k = t
/-- which kind of thing has the method -/
def methOk : Prim → Kind → Bool
  | .append, .list => true
  | .extend, .list => true
  | .popAt, .list => true
  | .pop, .list => true
  | .count, .tuple => true
  | .index, .tuple => true
  | .index2, .tuple => true
  | .setdefault, .dict => true
  | _, _ => false

/-- a slice of a row -/
def cut {α : Type} (xs : List α) (lo hi : Option Int) : List α := (xs.drop (HT.sIx xs.length 0 lo)).take (HT.sIx xs.length xs.length hi - HT.sIx xs.length 0 lo)
/-- == of values that are flat -/
def flat1 : Val → Bool
  | .non => true
  | .bl _ => true
  | .int _ => true
  | .str _ => true
  | _ => false
def eq1 : Val → Val → Bool
  | .non, .non => true
  | .bl a, .bl b => a == b
  | .bl a, .int b => (if a then 1 else 0) == b
  | .int a, .bl b => a == (if b then 1 else 0)
  | .int a, .int b => a == b
  | .str a, .str b => a == b
  | _, _ => false
def textOf : Val → Option Str
  | .str s => some s
  | .rep d => some d.shown
  | _ => none

def boolsOf : List Val → Option (List Bool)
  | [] => some []
  | .bl b :: r => (boolsOf r).map (b :: ·)
  | _ :: _ => none

def seqOf (m : Mem) : Val → Option (List Val)
  | .tup xs => some xs
  | .ref a => match m.get a with
    | some (.lst xs) => some xs
    | some (.rol xs) => some xs
    | _ => none
  | _ => none

def okMul (i j : Int) : Bool := (decide (-(2 ^ 64) < i) && decide (i < 2 ^ 64)) || (decide (-(2 ^ 64) < j) && decide (j < 2 ^ 64))
def okPow (i j : Int) : Bool := decide (0 ≤ j) && decide (j ≤ 1000000) && decide (i.natAbs < 2 ^ 64)
def shortI (i : Int) : Bool := decide (-(2 ^ 62) ≤ i) && decide (i < 2 ^ 62)

abbrev RV := Option (Val × Mem)

def addV (m : Mem) : Val → Val → RV
  | .int i, .int j => some (.int (i + j), m)
  | .tup xs, .tup ys => if small xs && small ys then some (.tup (xs ++ ys), m) else none
  | .ref a, .ref b => match m.get a, m.get b with
    | some (.lst xs), some (.lst ys) => if small xs && small ys then some (.ref m.n, m.new (.lst (xs ++ ys))) else none
    | _, _ => none
  | _, _ => none
def mulV (m : Mem) : Val → Val → RV
  | .int i, .int j => if okMul i j then some (.int (i * j), m) else none
  | .ref a, .int k => match m.get a with
    | some (.lst xs) => if small xs && decide (-1000 ≤ k) && decide (k ≤ 1000) && Nat.ble (xs.length * k.toNat) LIM then some (.ref m.n, m.new (.lst (List.replicate k.toNat xs).flatten)) else none
    | _ => none
  | _, _ => none
/-- smaller than this the divisor is within the plain rules -/
def eqData (m : Mem) (a b : Val) : Option Bool := match textOf a, textOf b with
  | some x, some y => some (decide (x = y))
  | _, _ => match m.data a, m.data b with
    | some d, some e => if d.canLay0 && e.canLay0 then some (PyData.eqv d e) else none
    | _, _ => none
def inV (m : Mem) (x y : Val) : Option Bool := match y with
  | .ref a => match m.get a with
    | some (.dk kvs) => match keyOf x with
      | some k => some (kget kvs k).isSome
      | none => none
    | _ => match m.data x, m.data y with
      | some d, some (.list ds) => if d.canLay0 && PyData.canLayAll0 ds then some (ds.any fun z => PyData.eqv z d) else none
      | _, _ => none
  | .tup ys => if flat1 x && ys.all flat1 then some (ys.any fun y => eq1 y x) else none
  | _ => none
def lenV (m : Mem) : Val → Option Nat
  | .tup xs => some xs.length
  | .ref a => match m.get a with
    | some (.lst xs) => some xs.length
    | some (.rol xs) => some xs.length
    | some (.dk kvs) => some kvs.length
    | _ => none
  | _ => none
def itemV (m : Mem) : Val → Val → Option Val
  | .tup xs, .int i => atI xs i
  | .ref a, k => match m.get a with
    | some (.lst xs) => match k with
      | .int i => atI xs i
      | _ => none
    | some (.rol xs) => match k with
      | .int i => atI xs i
      | _ => none
    | some (.dk kvs) => match keyOf k with
      | some k => kget kvs k
      | none => none
    | none => none
  | _, _ => none
/-- how often an int stands in a row of ints -/
def intsOf : List Val → Option (List Int)
  | [] => some []
  | .int i :: r => (intsOf r).map (i :: ·)
  | _ :: _ => none
/-- a list of tuples of ints -/
def keysT : List Val → Option (List (List Int))
  | [] => some []
  | .tup xs :: r => match intsOf xs with
    | some k => match keysT r with
      | some ks => some (k :: ks)
      | none => none
    | none => none
  | _ :: _ => none
def tupI (k : List Int) : Val := .tup (k.map Val.int)
/-- the order of tuples of ints -/
def lexLt : List Int → List Int → Bool
  | [], [] => false
  | [], _ :: _ => true
  | _ :: _, [] => false
  | a :: x, b :: y => if a = b then lexLt x y else decide (a < b)
def minK (k : List Int) : List (List Int) → List Int
  | [] => k
  | x :: r => minK (if lexLt x k then x else k) r
def insK (k : List Int) : List (List Int) → List (List Int)
  | [] => [k]
  | x :: r => if lexLt k x then k :: x :: r else x :: insK k r
def sortK : List (List Int) → List (List Int)
  | [] => []
  | x :: r => insK x (sortK r)
def insU (k : List Int) : List (List Int) → List (List Int)
  | [] => [k]
  | x :: r => if lexLt k x then k :: x :: r else if lexLt x k then x :: insU k r else x :: r
def sortU : List (List Int) → List (List Int)
  | [] => []
  | x :: r => insU x (sortU r)
def showB : PyData → Nat := fun d => d.shown.length

def lstAt (m : Mem) (a : Nat) : Option (List Val) := match m.get a with
  | some (.lst xs) => some xs
  | some (.rol xs) => some xs
  | _ => none
def prim : Prim → List Val → Mem → RV
  | .add, [a, b], m => addV m a b
  | .sub, [.int i, .int j], m => some (.int (i - j), m)
  | .mul, [a, b], m => mulV m a b
  | .mod, [.int i, .int j], m => if decide (0 < j) then some (.int (i % j), m) else none
  | .fdiv, [.int i, .int j], m => if decide (0 < j) && decide (j < 1073741824) then some (.int (i / j), m) else none
  | .pow, [.int i, .int j], m => if okPow i j then some (.int (i ^ j.toNat), m) else none
  | .neg, [.int i], m => some (.int (-i), m)
  | .eq, [a, b], m => match eqData m a b with
    | some c => some (.bl c, m)
    | none => none
  | .ne, [a, b], m => match eqData m a b with
    | some c => some (.bl (!c), m)
    | none => none
  | .lt, [.int i, .int j], m => some (.bl (decide (i < j)), m)
  | .le, [.int i, .int j], m => some (.bl (decide (i ≤ j)), m)
  | .gt, [.int i, .int j], m => some (.bl (decide (j < i)), m)
  | .ge, [.int i, .int j], m => some (.bl (decide (j ≤ i)), m)
  | .isN, [a], m => some (.bl (match a with | .non => true | _ => false), m)
  | .notN, [a], m => some (.bl (match a with | .non => false | _ => true), m)
  | .in_, [a, b], m => match inV m a b with
    | some c => some (.bl c, m)
    | none => none
  | .notIn, [a, b], m => match inV m a b with
    | some c => some (.bl (!c), m)
    | none => none
  | .tupD, xs, m => if small xs then some (.tup xs, m) else none
  | .lstD, xs, m => if small xs then some (.ref m.n, m.new (.lst xs)) else none
  | .dkD, [], m => some (.ref m.n, m.new (.dk []))
  | .item, [a, b], m => match itemV m a b with
    | some v => some (v, m)
    | none => none
  | .slc false true, [.tup xs, .int j], m => some (.tup (cut xs none (some j)), m)
  | .slc true false, [.tup xs, .int i], m => some (.tup (cut xs (some i) none), m)
  | .slc true true, [.tup xs, .int i, .int j], m => some (.tup (cut xs (some i) (some j)), m)
  | .rev, [.tup xs], m => some (.tup xs.reverse, m)
  | .len, [a], m => match lenV m a with
    | some n => some (.int (Int.ofNat n), m)
    | none => none
  | .abs, [.int i], m => some (.int (if i < 0 then -i else i), m)
  | .int, [.int i], m => some (.int i, m)
  | .max2, [.int i, .int j], m => some (.int (if j > i then j else i), m)
  | .min2, [.int i, .int j], m => some (.int (if j < i then j else i), m)
  | .all, [.ref a], m => match m.get a with
    | some (.lst xs) => match boolsOf xs with
      | some bs => some (.bl (bs.all id), m)
      | none => none
    | _ => none
  | .any, [.ref a], m => match m.get a with
    | some (.lst xs) => match boolsOf xs with
      | some bs => some (.bl (bs.any id), m)
      | none => none
    | _ => none
  | .divmod, [.int i, .int j], m => if decide (0 < j) && decide (j < 1073741824) then some (.tup [.int (i / j), .int (i % j)], m) else none
  | .tuple, [a], m => match seqOf m a with
    | some xs => some (.tup xs, m)
    | none => none
  | .list, [a], m => match seqOf m a with
    | some xs => some (.ref m.n, m.new (.lst xs))
    | none => none
  | .listRange, [.int n], m => if decide (n ≤ 1000000) && decide (-1000000 ≤ n) then some (.ref m.n, m.new (.lst (rangeV 0 n.toNat))) else none
  | .repr, [a], m => match m.data a with
    | some d => if d.showable && Nat.ble (showB d) 16000000 then some (.rep d, m) else none
    | none => none
  | .isinst t, [a], m => match kindOf m a with
    | some k => some (.bl (isKind k t), m)
    | none => none
  | .append, [.ref a, v], m => match m.get a with
    | some (.lst xs) => if small xs then some (.non, m.put a (.lst (xs ++ [v]))) else none
    | _ => none
  | .extend, [.ref a, .ref b], m => match m.get a, m.get b with
    | some (.lst xs), some (.lst ys) => if small xs && small ys then some (.non, m.put a (.lst (xs ++ ys))) else none
    | _, _ => none
  | .popAt, [.ref a, .int i], m => match m.get a with
    | some (.lst xs) => if decide (0 ≤ i) && small xs then match xs[i.toNat]? with
        | some v => some (v, m.put a (.lst (xs.eraseIdx i.toNat)))
        | none => none
      else none
    | _ => none
  | .pop, [.ref a], m => match m.get a with
    | some (.lst xs) => match xs[xs.length - 1]? with
      | some v => some (v, m.put a (.lst xs.dropLast))
      | none => none
    | _ => none
  | .count, [.tup xs, .int i], m => match intsOf xs with
    | some ns => some (.int (Int.ofNat (ns.count i)), m)
    | none => none
  | .setdefault, [.ref a, k, v], m => match m.get a with
    | some (.dk kvs) => match keyOf k with
      | some k => if small kvs then match kget kvs k with
          | some w => some (w, m)
          | none => some (v, m.put a (.dk (kset kvs k v)))
        else none
      | none => none
    | _ => none
  | .minT, [.ref a], m => match lstAt m a with
    | some xs => match keysT xs with
      | some (k :: ks) => some (tupI (minK k ks), m)
      | _ => none
    | none => none
  | .sortT, [.ref a], m => match lstAt m a with
    | some xs => match keysT xs with
      | some ks => if small ks && ks.all fun k => !k.isEmpty || Nat.blt ks.length 2 then some (.ref m.n, m.new (.lst ((sortK ks).map tupI))) else none
      | none => none
    | none => none
  | .ssetT, [.ref a], m => match lstAt m a with
    | some xs => match keysT xs with
      | some ks => let u := sortU ks
        if Nat.blt u.length 60 && small ks && u.all fun k => !k.isEmpty || Nat.blt u.length 2 then some (.ref m.n, m.new (.lst (u.map tupI))) else none
      | none => none
    | none => none
  | _, _, _ => none

/-! ### syntax -/
/-- what a loop's turn stores its item in -/
inductive Pt where
  | one (i : Nat) | two (i j : Nat)
/-- what is walked -/
inductive ItK where
  | plain | range1 | range2 | enum | zip
inductive E where
  | var (i : Nat) | cst (v : Val)
  | prim (p : Prim) (args : E)
  | meth (p : Prim) (o args : E)
  | and (a b : E) | or (a b : E) | not (a : E) | ite (c a b : E)
  | chain (p q : Prim) (a b c : E)
  | call (f : Nat) (perm : List Nat) (args : E)
  | lcomp (own : List Nat) (k : ItK) (tg : Pt) (it cond elt : E)
  | yes
  | nil | cons (a r : E)
/-- where an assignment stores -/
inductive Tg where
  | name (i : Nat) | item (o i : E) | two (a b : Tg)
inductive S where
  | stuck | pass | seq (a b : S)
  | expr (e : E) | asg (t : Tg) (e : E) | par (i j : Nat) (a b : E)
  | ret (e : E) | sif (c : E) (a b : S)
  | sfor (k : ItK) (tg : Pt) (it : E) (b : S)
  | swhile (fuel : Nat) (c : E) (b : S)

/-! ### what it computes -/
inductive Res where
  | val (v : Val) (m : Mem) | vals (vs : List Val) (m : Mem) | next (σ : Sta) (m : Mem) | ret (v : Val) (m : Mem) | bad

def getS : Sta → Nat → Option Val
  | [], _ => none
  | x :: _, 0 => x
  | _ :: r, i + 1 => getS r i
def setS : Sta → Nat → Option Val → Sta
  | [], _, _ => []
  | _ :: r, 0, v => v :: r
  | x :: r, i + 1, v => x :: setS r i v
def wipeS (σ : Sta) : List Nat → Sta
  | [] => σ
  | i :: is => setS (wipeS σ is) i none
def Pt.set (σ : Sta) (v : Val) : Pt → Option Sta
  | .one i => some (setS σ i (some v))
  | .two i j => match v with
    | .tup [x, y] => some (setS (setS σ i (some x)) j (some y))
    | _ => none
def Res.onV (r : Res) (f : Val → Mem → Res) : Res := match r with
  | .val v m => f v m
  | _ => .bad
def Res.onL (r : Res) (f : List Val → Mem → Res) : Res := match r with
  | .vals v m => f v m
  | _ => .bad
def Res.onN (r : Res) (f : Sta → Mem → Res) : Res := match r with
  | .next σ m => f σ m
  | .ret v m => .ret v m
  | _ => .bad
def ofRV : RV → Res
  | some (v, m) => .val v m
  | none => .bad
/-- the truth of a value -/
def truth (m : Mem) : Val → Option Bool
  | .bl b => some b
  | .int i => some (i != 0)
  | .non => some false
  | .tup xs => some (!xs.isEmpty)
  | .ref a => match m.get a with
    | some (.lst xs) => some (!xs.isEmpty)
    | some (.rol xs) => some (!xs.isEmpty)
    | some (.dk kvs) => some (!kvs.isEmpty)
    | none => none
  | _ => none
/-- the thing walked -/
inductive Src where
  | vals (xs : List Val) | lst (a : Nat) | enum (a : Nat) | zip (a b : Nat)
def srcOf (m : Mem) : ItK → List Val → Option Src
  | .plain, [.tup xs] => some (.vals xs)
  | .plain, [.ref a] => (lstAt m a).map fun _ => .lst a
  | .range1, [.int n] => if decide (n ≤ 1000000) && decide (-1000000 ≤ n) then some (.vals (rangeV 0 n.toNat)) else none
  | .range2, [.int a, .int b] => if decide (a ≤ 1000000) && decide (-1000000 ≤ a) && decide (b ≤ 1000000) && decide (-1000000 ≤ b) then some (.vals (rangeV a (b - a).toNat)) else none
  | .enum, [.ref a] => (lstAt m a).map fun _ => .enum a
  | .zip, [.ref a, .ref b] => match lstAt m a, lstAt m b with
    | some _, some _ => some (.zip a b)
    | _, _ => none
  | _, _ => none
def Src.size (m : Mem) : Src → Nat
  | .vals xs => xs.length
  | .lst a => ((lstAt m a).getD []).length
  | .enum a => ((lstAt m a).getD []).length
  | .zip a _ => ((lstAt m a).getD []).length
/-- none: it can't be told; some none: the end -/
def Src.next (m : Mem) (i : Nat) : Src → Option (Option Val)
  | .vals xs => some xs[i]?
  | .lst a => match lstAt m a with
    | some xs => some xs[i]?
    | none => none
  | .enum a => match lstAt m a with
    | some xs => some (match xs[i]? with
      | some x => some (.tup [.int (Int.ofNat i), x])
      | none => none)
    | none => none
  | .zip a b => match lstAt m a, lstAt m b with
    | some xs, some ys => some (match xs[i]?, ys[i]? with
      | some x, some y => some (.tup [x, y])
      | _, _ => none)
    | _, _ => none
/-- the turns of a for -/
def turns (f : Val → Sta → Mem → Res) (src : Src) : Nat → Nat → Sta → Mem → Res
  | 0, _, _, _ => .bad
  | fuel + 1, i, σ, m => match src.next m i with
    | some (some v) => (f v σ m).onN (turns f src fuel (i + 1))
    | some none => .next σ m
    | none => .bad
/-- the turns of a comprehension, the new list at D -/
def cturns (f : Val → Mem → Res) (src : Src) : Nat → Nat → Mem → Res
  | 0, _, _ => .bad
  | fuel + 1, i, m => match src.next m i with
    | some (some v) => match f v m with
      | .val _ m => cturns f src fuel (i + 1) m
      | _ => .bad
    | some none => .val .non m
    | none => .bad
def wturns (c : Sta → Mem → Res) (f : Sta → Mem → Res) : Nat → Sta → Mem → Res
  | 0, _, _ => .bad
  | fuel + 1, σ, m => (c σ m).onV fun v m => match truth m v with
    | some true => (f σ m).onN (wturns c f fuel)
    | some false => .next σ m
    | none => .bad
/-- how a call's values go to the parameters -/
def permL {α : Type} (vs : List α) : List Nat → Option (List α)
  | [] => some []
  | i :: r => match vs[i]?, permL vs r with
    | some v, some ws => some (v :: ws)
    | _, _ => none

section
variable (call : Nat → List Val → Mem → Res)
def E.ev : E → Sta → Mem → Res
  | .var i, σ, m => match getS σ i with
    | some v => .val v m
    | none => .bad
  | .cst v, _, m => .val v m
  | .prim p as, σ, m => (as.ev σ m).onL fun vs m => ofRV (Mi.prim p vs m)
  | .meth p o as, σ, m => (o.ev σ m).onV fun x m => match kindOf m x with
    | some k => if methOk p k then (as.ev σ m).onL fun vs m => ofRV (Mi.prim p (x :: vs) m) else .bad
    | none => .bad
  | .and a b, σ, m => (a.ev σ m).onV fun v m => match truth m v with
    | some true => b.ev σ m
    | some false => .val v m
    | none => .bad
  | .or a b, σ, m => (a.ev σ m).onV fun v m => match truth m v with
    | some true => .val v m
    | some false => b.ev σ m
    | none => .bad
  | .not a, σ, m => (a.ev σ m).onV fun v m => match truth m v with
    | some c => .val (.bl (!c)) m
    | none => .bad
  | .ite c a b, σ, m => (c.ev σ m).onV fun v m => match truth m v with
    | some true => a.ev σ m
    | some false => b.ev σ m
    | none => .bad
  | .chain p q a b c, σ, m => (a.ev σ m).onV fun x m => (b.ev σ m).onV fun y m => match Mi.prim p [x, y] m with
    | some (.bl true, m) => (c.ev σ m).onV fun z m => ofRV (Mi.prim q [y, z] m)
    | some (.bl false, m) => .val (.bl false) m
    | _ => .bad
  | .call f perm as, σ, m => (as.ev σ m).onL fun vs m => match permL vs perm with
    | some ws => call f ws m
    | none => .bad
  | .lcomp own k tg it cond elt, σ, m => (it.ev σ m).onL fun vs m => match srcOf m k vs with
    | some src =>
      let D := m.n
      (cturns (fun v m => match tg.set (wipeS σ own) v with
        | some σ2 => (cond.ev σ2 m).onV fun c m => match truth m c with
          | some true => (elt.ev σ2 m).onV fun y m => match m.get D with
            | some (.lst acc) => if small acc then .val .non (m.put D (.lst (acc ++ [y]))) else .bad
            | _ => .bad
          | some false => .val .non m
          | none => .bad
        | none => .bad) src (src.size m + 1) 0 (m.new (.lst []))).onV fun _ m => .val (.ref D) m
    | none => .bad
  | .yes, _, m => .val (.bl true) m
  | .nil, _, m => .vals [] m
  | .cons a r, σ, m => (a.ev σ m).onV fun v m => (r.ev σ m).onL fun vs m => .vals (v :: vs) m
def Tg.ev : Tg → Val → Sta → Mem → Res
  | .name i, v, σ, m => .next (setS σ i (some v)) m
  | .item o i, v, σ, m => (o.ev call σ m).onV fun x m => (i.ev call σ m).onV fun k m => match x with
    | .ref a => match m.get a with
      | some (.lst xs) => match k with
        | .int j => if decide (0 ≤ j) && Nat.blt j.toNat xs.length then .next σ (m.put a (.lst (xs.set j.toNat v))) else .bad
        | _ => .bad
      | some (.dk kvs) => match keyOf k with
        | some k => if small kvs then .next σ (m.put a (.dk (kset kvs k v))) else .bad
        | none => .bad
      | _ => .bad
    | _ => .bad
  | .two a b, v, σ, m => match v with
    | .tup [x, y] => (a.ev x σ m).onN fun σ m => b.ev y σ m
    | _ => .bad
def S.ev : S → Sta → Mem → Res
  | .stuck, _, _ => .bad
  | .pass, σ, m => .next σ m
  | .seq a b, σ, m => (a.ev σ m).onN b.ev
  | .expr e, σ, m => (e.ev call σ m).onV fun _ m => .next σ m
  | .asg t e, σ, m => (e.ev call σ m).onV fun v m => t.ev call v σ m
  | .par i j a b, σ, m => (a.ev call σ m).onV fun v m => (b.ev call σ m).onV fun w m => .next (setS (setS σ i (some v)) j (some w)) m
  | .ret e, σ, m => (e.ev call σ m).onV fun v m => .ret v m
  | .sif c a b, σ, m => (c.ev call σ m).onV fun v m => match truth m v with
    | some true => a.ev σ m
    | some false => b.ev σ m
    | none => .bad
  | .sfor k tg it b, σ, m => (it.ev call σ m).onL fun vs m => match srcOf m k vs with
    | some src => turns (fun v σ m => match tg.set σ v with
      | some σ => b.ev σ m
      | none => .bad) src (src.size m + 1) 0 σ m
    | none => .bad
  | .swhile fuel c b, σ, m => wturns (c.ev call) b.ev fuel σ m
end
structure Fn where
  np : Nat
  nl : Nat
  body : S
/-- the end of a call: what is new is dropped, unless the value may lead to it -/
def close (n0 : Nat) (v : Val) (m : Mem) : Res := if v.flat then .val v ⟨m.n, hcut m.h n0⟩ else .val v m
def startS (vs : List Val) (nl : Nat) : Sta := vs.map some ++ List.replicate nl none
def run (P : List Fn) : Nat → Nat → List Val → Mem → Res
  | 0, _, _, _ => .bad
  | k + 1, f, vs, m => match P[f]? with
    | some F => if Nat.beq vs.length F.np then match F.body.ev (run P k) (startS vs F.nl) m with
        | .ret v m' => close m.n v m'
        | .next _ m' => close m.n .non m'
        | _ => .bad
      else .bad
    | none => .bad
end Mi

/-! How the small language's values and objects lie in the abstract heap. -/
namespace Mi
open PySem L2 PyProof.Rows

/-- a list that is only read -/
def RoL (K : PySem.W.Frag) (H : Hp) (a : Addr) (xs : List V) : Prop :=
  (∃ o, H a = some (.frz o (.lst xs))) ∨
    ∃ (o : Obj) (its : Array Value) (n : Nat), K.lookup a = some o ∧ o.cls = .type "list" ∧ o.dict = none ∧ o.data = .seq its n ∧ its.size ≤ sizeLine ∧ Vals xs its.toList
theorem RoL.sq {K : PySem.W.Frag} {H : Hp} {a : Addr} {xs : List V} (h : RoL K H a xs) : SqL K H a xs := by
  rcases h with ⟨o, h⟩ | h
  · exact .inl (.inr ⟨o, h⟩)
  · exact .inr h

/-- a tuple without a dict of its own -/
def PlT (K : PySem.W.Frag) (H : Hp) (a : Addr) (xs : List V) : Prop :=
  (∃ o, H a = some (.frz o (.tup xs)) ∧ o.dict = none) ∨
    ∃ (o : Obj) (its : Array Value) (n : Nat), K.lookup a = some o ∧ o.cls = .type "tuple" ∧ o.dict = none ∧ o.data = .seq its n ∧ its.size ≤ sizeLine ∧ Vals xs its.toList
theorem PlT.sq {K : PySem.W.Frag} {H : Hp} {a : Addr} {xs : List V} (h : PlT K H a xs) : SqT K H a xs := by
  rcases h with ⟨o, h, _⟩ | ⟨o, its, n, h1, h2, _, h3, h4, h5⟩
  · exact .inl (.inr ⟨o, h⟩)
  · exact .inr ⟨o, its, n, h1, h2, h3, h4, h5⟩

mutual
inductive Rep (K : PySem.W.Frag) (G : Nat → Addr) (n : Nat) (ι : Nat → Addr) (H : Hp) : Val → V → Prop
  | non : Rep K G n ι H .non .non
  | bl (b : Bool) : Rep K G n ι H (.bl b) (.bl b)
  | int (i : Int) : Rep K G n ι H (.int i) (.int i)
  | str (s : Str) : Rep K G n ι H (.str s) (.str s)
  | rep (d : PyData) : Rep K G n ι H (.rep d) (.str d.shown)
  | ty (t : String) : Rep K G n ι H (.ty t) (.ty t)
  | tup {a : Addr} {xs : List Val} {ys : List V} : PlT K H a ys → Reps K G n ι H xs ys → Rep K G n ι H (.tup xs) (.ref a)
  | ref (i : Nat) : i < n → Rep K G n ι H (.ref i) (.ref (ι i))
  | glo (g : Nat) : Rep K G n ι H (.glo g) (.ref (G g))
inductive Reps (K : PySem.W.Frag) (G : Nat → Addr) (n : Nat) (ι : Nat → Addr) (H : Hp) : List Val → List V → Prop
  | nil : Reps K G n ι H [] []
  | cons {x : Val} {y : V} {xs : List Val} {ys : List V} : Rep K G n ι H x y → Reps K G n ι H xs ys → Reps K G n ι H (x :: xs) (y :: ys)
end
section
variable {K : PySem.W.Frag} {G : Nat → Addr} {n n' n'' : Nat} {ι ι' ι'' : Nat → Addr} {H H' H'' : Hp}

/-- what a step keeps of what stood -/
structure Ext (K : PySem.W.Frag) (n : Nat) (ι : Nat → Addr) (H : Hp) (n' : Nat) (ι' : Nat → Addr) (H' : Hp) : Prop where
  le : n ≤ n'
  eq : ∀ i, i < n → ι' i = ι i
  tup : ∀ a xs, PlT K H a xs → PlT K H' a xs
theorem Ext.refl : Ext K n ι H n ι H := ⟨Nat.le_refl _, fun _ _ => rfl, fun _ _ h => h⟩
theorem Ext.trans (a : Ext K n ι H n' ι' H') (b : Ext K n' ι' H' n'' ι'' H'') : Ext K n ι H n'' ι'' H'' :=
  ⟨Nat.le_trans a.le b.le, fun i h => (b.eq i (Nat.lt_of_lt_of_le h a.le)).trans (a.eq i h), fun c xs h => b.tup c xs (a.tup c xs h)⟩
mutual
theorem Rep.ext {x : Val} {y : V} (r : Rep K G n ι H x y) (e : Ext K n ι H n' ι' H') : Rep K G n' ι' H' x y := by
  cases r with
  | non => exact .non
  | bl b => exact .bl b
  | int i => exact .int i
  | str s => exact .str s
  | rep d => exact .rep d
  | ty t => exact .ty t
  | tup h hs => exact .tup (e.tup _ _ h) (Reps.ext hs e)
  | ref i hi => rw [← e.eq i hi]; exact .ref i (Nat.lt_of_lt_of_le hi e.le)
  | glo g => exact .glo g
theorem Reps.ext {xs : List Val} {ys : List V} (r : Reps K G n ι H xs ys) (e : Ext K n ι H n' ι' H') : Reps K G n' ι' H' xs ys := by
  cases r with
  | nil => exact .nil
  | cons h hs => exact .cons (Rep.ext h e) (Reps.ext hs e)
end
theorem Reps.length : ∀ {xs : List Val} {ys : List V}, Reps K G n ι H xs ys → xs.length = ys.length
  | _, _, .nil => rfl
  | _, _, .cons _ r => by rw [List.length_cons, List.length_cons, r.length]
theorem Reps.get : ∀ {xs : List Val} {ys : List V} {i : Nat} {x : Val}, Reps K G n ι H xs ys → xs[i]? = some x → ∃ y, ys[i]? = some y ∧ Rep K G n ι H x y
  | _, _, _, _, .nil, e => by simp at e
  | _, _, 0, _, .cons r _, e => by
    simp at e
    subst e
    exact ⟨_, rfl, r⟩
  | _, _, i + 1, x, .cons _ t, e => by
    obtain ⟨y, h1, h2⟩ := Reps.get (i := i) (x := x) t (by simpa using e)
    exact ⟨y, by simpa using h1, h2⟩
theorem Reps.getB : ∀ {xs : List Val} {ys : List V} {i : Nat} {y : V}, Reps K G n ι H xs ys → ys[i]? = some y → ∃ x, xs[i]? = some x ∧ Rep K G n ι H x y
  | _, _, _, _, .nil, e => by simp at e
  | _, _, 0, _, .cons r _, e => by
    simp at e
    subst e
    exact ⟨_, rfl, r⟩
  | _, _, i + 1, y, .cons _ t, e => by
    obtain ⟨x, h1, h2⟩ := Reps.getB (i := i) (y := y) t (by simpa using e)
    exact ⟨x, by simpa using h1, h2⟩
theorem Reps.append : ∀ {xs xs' : List Val} {ys ys' : List V}, Reps K G n ι H xs ys → Reps K G n ι H xs' ys' → Reps K G n ι H (xs ++ xs') (ys ++ ys')
  | _, _, _, _, .nil, s => s
  | _, _, _, _, .cons r t, s => .cons r (t.append s)
theorem Reps.take : ∀ {xs : List Val} {ys : List V} (k : Nat), Reps K G n ι H xs ys → Reps K G n ι H (xs.take k) (ys.take k)
  | _, _, 0, _ => by rw [List.take_zero, List.take_zero]; exact .nil
  | _, _, _ + 1, .nil => .nil
  | _, _, k + 1, .cons r t => .cons r (t.take k)
theorem Reps.drop : ∀ {xs : List Val} {ys : List V} (k : Nat), Reps K G n ι H xs ys → Reps K G n ι H (xs.drop k) (ys.drop k)
  | _, _, 0, r => r
  | _, _, _ + 1, .nil => .nil
  | _, _, k + 1, .cons _ t => t.drop k
theorem Reps.snoc {xs : List Val} {ys : List V} {x : Val} {y : V} (r : Reps K G n ι H xs ys) (h : Rep K G n ι H x y) : Reps K G n ι H (xs ++ [x]) (ys ++ [y]) := r.append (.cons h .nil)
theorem Reps.set : ∀ {xs : List Val} {ys : List V} (i : Nat) {x : Val} {y : V}, Reps K G n ι H xs ys → Rep K G n ι H x y → Reps K G n ι H (xs.set i x) (ys.set i y)
  | _, _, _, _, _, .nil, _ => .nil
  | _, _, 0, _, _, .cons _ t, h => .cons h t
  | _, _, i + 1, _, _, .cons r t, h => .cons r (t.set i h)
theorem Reps.erase : ∀ {xs : List Val} {ys : List V} (i : Nat), Reps K G n ι H xs ys → Reps K G n ι H (xs.eraseIdx i) (ys.eraseIdx i)
  | _, _, _, .nil => .nil
  | _, _, 0, .cons _ t => t
  | _, _, i + 1, .cons r t => .cons r (t.erase i)
theorem Reps.rev {xs : List Val} {ys : List V} (r : Reps K G n ι H xs ys) : Reps K G n ι H xs.reverse ys.reverse := by
  induction xs generalizing ys with
  | nil => cases r; exact .nil
  | cons x xs ih =>
    cases r with
    | cons h t =>
      rw [List.reverse_cons, List.reverse_cons]
      exact (ih t).snoc h
theorem Reps.rept {xs : List Val} {ys : List V} (r : Reps K G n ι H xs ys) : ∀ k, Reps K G n ι H (List.replicate k xs).flatten (List.replicate k ys).flatten
  | 0 => .nil
  | k + 1 => by
    rw [List.replicate_succ, List.replicate_succ, List.flatten_cons, List.flatten_cons]
    exact r.append (r.rept k)
theorem Reps.isEmpty {xs : List Val} {ys : List V} (r : Reps K G n ι H xs ys) : ys.isEmpty = xs.isEmpty := by cases r <;> rfl

/-- a dict's pairs -/
inductive KReps (K : PySem.W.Frag) (G : Nat → Addr) (n : Nat) (ι : Nat → Addr) (H : Hp) : List (Key × Val) → List (Key × V) → Prop
  | nil : KReps K G n ι H [] []
  | cons {k : Key} {x : Val} {y : V} {xs : List (Key × Val)} {ys : List (Key × V)} : Rep K G n ι H x y → KReps K G n ι H xs ys → KReps K G n ι H ((k, x) :: xs) ((k, y) :: ys)
theorem KReps.ext {xs : List (Key × Val)} {ys : List (Key × V)} (r : KReps K G n ι H xs ys) (e : Ext K n ι H n' ι' H') : KReps K G n' ι' H' xs ys := by
  induction r with
  | nil => exact .nil
  | cons h _ ih => exact .cons (h.ext e) ih
theorem KReps.length {xs : List (Key × Val)} {ys : List (Key × V)} (r : KReps K G n ι H xs ys) : xs.length = ys.length := by
  induction r with
  | nil => rfl
  | cons _ _ ih => rw [List.length_cons, List.length_cons, ih]
theorem KReps.get {xs : List (Key × Val)} {ys : List (Key × V)} {k : Key} (r : KReps K G n ι H xs ys) : (∀ x, kget xs k = some x → ∃ y, valV ys k = some y ∧ Rep K G n ι H x y) ∧ (kget xs k = none → valV ys k = none) := by
  induction r with
  | nil => exact ⟨fun x e => by simp [kget] at e, fun _ => rfl⟩
  | @cons j x y xs ys h t ih =>
    unfold kget
    by_cases e : j = k
    · rw [if_pos e]
      refine ⟨fun z q => ?_, fun q => by cases q⟩
      cases q
      exact ⟨y, valV_pos (p := (j, y)) e, h⟩
    · rw [if_neg e, valV_neg (p := (j, y)) e]
      exact ih
theorem KReps.snoc {xs : List (Key × Val)} {ys : List (Key × V)} {k : Key} {x : Val} {y : V} (r : KReps K G n ι H xs ys) (h : Rep K G n ι H x y) : KReps K G n ι H (xs ++ [(k, x)]) (ys ++ [(k, y)]) := by
  induction r with
  | nil => exact .cons h .nil
  | cons a _ ih => exact .cons a ih
theorem KReps.mapPut {xs : List (Key × Val)} {ys : List (Key × V)} {k : Key} {x : Val} {y : V} (r : KReps K G n ι H xs ys) (h : Rep K G n ι H x y) :
    KReps K G n ι H (xs.map fun p => if p.1 = k then (p.1, x) else p) (ys.map fun p => if p.1 = k then (p.1, y) else p) := by
  induction r with
  | nil => exact .nil
  | @cons j a b xs ys h0 t ih =>
    rw [List.map_cons, List.map_cons]
    by_cases c : j = k
    · simp only [c, if_true]
      exact .cons h ih
    · simp only [c, if_false]
      exact .cons h0 ih
theorem KReps.put {xs : List (Key × Val)} {ys : List (Key × V)} {k : Key} {x : Val} {y : V} (r : KReps K G n ι H xs ys) (h : Rep K G n ι H x y) : KReps K G n ι H (kset xs k x) (putK ys k y) := by
  unfold kset putK
  have e : (kget xs k).isSome = (ys.any fun kv => decide (kv.1 = k)) := by
    rw [valV_any]
    obtain ⟨g1, g2⟩ := r.get (k := k)
    cases q : kget xs k with
    | none => rw [g2 q]; rfl
    | some z =>
      obtain ⟨w, hw, _⟩ := g1 z q
      rw [hw]
      rfl
  rw [e]
  split
  · exact r.mapPut h
  · exact r.snoc h

/-! ### the whole memory -/
def HObj.mut : HObj → Bool
  | .rol _ => false
  | _ => true
def ObjR (K : PySem.W.Frag) (G : Nat → Addr) (n : Nat) (ι : Nat → Addr) (H : Hp) (a : Addr) : HObj → Prop
  | .lst xs => ∃ ys, H a = some (.lst ys) ∧ Reps K G n ι H xs ys
  | .rol xs => ∃ ys, RoL K H a ys ∧ Reps K G n ι H xs ys
  | .dk kvs => ∃ ys, H a = some (.dK ys) ∧ KReps K G n ι H kvs ys
structure Rel (K : PySem.W.Frag) (G : Nat → Addr) (m : Mem) (ι : Nat → Addr) (H : Hp) : Prop where
  obj : ∀ i o, m.get i = some o → i < m.n ∧ ObjR K G m.n ι H (ι i) o
  inj : ∀ i j o u, m.get i = some o → m.get j = some u → o.mut = true → u.mut = true → ι i = ι j → i = j

theorem hget_put_self {a : Nat} {o : HObj} : ∀ {h : List (Nat × HObj)} {u : HObj}, hget h a = some u → hget (hput h a o) a = some o
  | p :: r, u, e => by
    unfold hget at e
    unfold hput
    by_cases c : Nat.beq a p.1 = true
    · rw [if_pos c]
      unfold hget
      rw [if_pos c]
    · rw [if_neg c] at e
      rw [if_neg c]
      unfold hget
      rw [if_neg c]
      exact hget_put_self e
theorem hget_put_ne {a b : Nat} {o : HObj} (ne : b ≠ a) : ∀ {h : List (Nat × HObj)}, hget (hput h a o) b = hget h b
  | [] => rfl
  | p :: r => by
    unfold hput
    by_cases c : Nat.beq a p.1 = true
    · rw [if_pos c]
      have e : a = p.1 := Nat.eq_of_beq_eq_true c
      have nb : ¬ Nat.beq b p.1 = true := fun z => ne ((Nat.eq_of_beq_eq_true z).trans e.symm)
      unfold hget
      rw [if_neg nb, if_neg nb]
    · rw [if_neg c]
      unfold hget
      rw [hget_put_ne ne]
theorem hget_put {a b : Nat} {o u : HObj} {h : List (Nat × HObj)} (e : hget h a = some u) : hget (hput h a o) b = if b = a then some o else hget h b := by
  by_cases c : b = a
  · subst c
    rw [if_pos rfl, hget_put_self e]
  · rw [if_neg c, hget_put_ne c]
theorem Mem.get_new {m : Mem} {o : HObj} {b : Nat} : (m.new o).get b = if b = m.n then some o else m.get b := by
  unfold Mem.new Mem.get
  show hget ((m.n, o) :: m.h) b = _
  rw [hget]
  by_cases c : b = m.n
  · subst c
    rw [if_pos rfl, if_pos (show Nat.beq m.n m.n = true from Nat.beq_refl _)]
  · rw [if_neg c, if_neg (fun z => c (Nat.eq_of_beq_eq_true z))]
theorem Mem.get_put {m : Mem} {a b : Nat} {o u : HObj} (e : m.get a = some u) : (m.put a o).get b = if b = a then some o else m.get b := hget_put e
@[simp] theorem Mem.n_new {m : Mem} {o : HObj} : (m.new o).n = m.n + 1 := rfl
@[simp] theorem Mem.n_put {m : Mem} {a : Nat} {o : HObj} : (m.put a o).n = m.n := rfl

/-- the addresses, one more -/
def push (ι : Nat → Addr) (n : Nat) (p : Addr) : Nat → Addr := fun i => if i = n then p else ι i
theorem push_at {p : Addr} : push ι n p n = p := if_pos rfl
theorem push_lt {p : Addr} {i : Nat} (h : i < n) : push ι n p i = ι i := if_neg (Nat.ne_of_lt h)

theorem PlT.fresh {p a : Addr} {o : HO} {xs : List V} (hp : H p = none) (h : PlT K H a xs) : PlT K (upd H p o) a xs := by
  rcases h with ⟨u, h, d⟩ | h
  · exact .inl ⟨u, by rw [upd_ne (ne_of_none h hp)]; exact h, d⟩
  · exact .inr h
theorem PlT.write {p a : Addr} {o u : HO} {xs : List V} (hp : H p = some u) (mu : Mut (some u)) (h : PlT K H a xs) : PlT K (upd H p o) a xs := by
  rcases h with ⟨v, h, d⟩ | h
  · refine .inl ⟨v, ?_, d⟩
    have ne : a ≠ p := fun q => by
      subst q
      rw [hp] at h
      cases h
      exact mu
    rw [upd_ne ne]
    exact h
  · exact .inr h
/-- something fresh is laid: what stands for m stays -/
theorem ext_fresh {p : Addr} {o : HO} (hp : H p = none) : Ext K n ι H n ι (upd H p o) := ⟨Nat.le_refl _, fun _ _ => rfl, fun _ _ h => h.fresh hp⟩
theorem ext_push {p : Addr} {o : HO} (hp : H p = none) : Ext K n ι H (n + 1) (push ι n p) (upd H p o) := ⟨Nat.le_succ _, fun _ h => push_lt h, fun _ _ h => h.fresh hp⟩
theorem ext_write {p : Addr} {o u : HO} (hp : H p = some u) (mu : Mut (some u)) : Ext K n ι H n ι (upd H p o) := ⟨Nat.le_refl _, fun _ _ => rfl, fun _ _ h => h.write hp mu⟩
theorem RoL.fresh {p a : Addr} {o : HO} {xs : List V} (hp : H p = none) (h : RoL K H a xs) : RoL K (upd H p o) a xs := by
  rcases h with ⟨u, h⟩ | h
  · exact .inl ⟨u, by rw [upd_ne (ne_of_none h hp)]; exact h⟩
  · exact .inr h
theorem RoL.write {p a : Addr} {o u : HO} {xs : List V} (hp : H p = some u) (mu : Mut (some u)) (h : RoL K H a xs) : RoL K (upd H p o) a xs := by
  rcases h with ⟨v, h⟩ | h
  · refine .inl ⟨v, ?_⟩
    have ne : a ≠ p := fun q => by
      subst q
      rw [hp] at h
      cases h
      exact mu
    rw [upd_ne ne]
    exact h
  · exact .inr h
theorem ObjR.at_mut {m : Mem} {a : Addr} {o : HObj} (h : ObjR K G n ι H a o) (mu : o.mut = true) : ∃ u, H a = some u ∧ Mut (some u) := by
  cases o with
  | lst xs => obtain ⟨ys, e, _⟩ := h; exact ⟨_, e, True.intro⟩
  | rol xs => cases mu
  | dk xs => obtain ⟨ys, e, _⟩ := h; exact ⟨_, e, True.intro⟩
/-- an object whose place is not touched -/
theorem ObjR.keep {a : Addr} {o : HObj} (h : ObjR K G n ι H a o) (e : Ext K n ι H n' ι' H') (hl : ∀ u, H a = some u → o.mut = true → H' a = some u) (hr : ∀ xs, RoL K H a xs → RoL K H' a xs) : ObjR K G n' ι' H' a o := by
  cases o with
  | lst xs => obtain ⟨ys, q, r⟩ := h; exact ⟨ys, hl _ q rfl, r.ext e⟩
  | rol xs => obtain ⟨ys, q, r⟩ := h; exact ⟨ys, hr _ q, r.ext e⟩
  | dk xs => obtain ⟨ys, q, r⟩ := h; exact ⟨ys, hl _ q rfl, r.ext e⟩
theorem Rel.fresh {m : Mem} {p : Addr} {o : HO} (R : Rel K G m ι H) (hp : H p = none) : Rel K G m ι (upd H p o) :=
  ⟨fun i u e => ⟨(R.obj i u e).1, (R.obj i u e).2.keep (ext_fresh hp) (fun z q _ => by rw [upd_ne (ne_of_none q hp)]; exact q) fun _ h => h.fresh hp⟩, R.inj⟩
/-- a new object of ours -/
theorem Rel.new {m : Mem} {p : Addr} {o : HO} {u : HObj} (R : Rel K G m ι H) (hp : H p = none) (mu : u.mut = true) (h : ObjR K G (m.n + 1) (push ι m.n p) (upd H p o) p u) : Rel K G (m.new u) (push ι m.n p) (upd H p o) := by
  have nw : ∀ i v, m.get i = some v → i ≠ m.n := fun i v e z => by
    subst z
    exact absurd (R.obj _ v e).1 (Nat.lt_irrefl _)
  refine ⟨fun i v e => ?_, fun i j v w e f mv mw q => ?_⟩
  · rw [Mem.get_new] at e
    by_cases c : i = m.n
    · rw [if_pos c] at e
      cases e
      subst c
      rw [push_at]
      exact ⟨Nat.lt_succ_self _, h⟩
    · rw [if_neg c] at e
      obtain ⟨lt, ob⟩ := R.obj i v e
      rw [push_lt lt]
      exact ⟨Nat.lt_succ_of_lt lt, ob.keep (ext_push hp) (fun z q _ => by rw [upd_ne (ne_of_none q hp)]; exact q) fun _ h => h.fresh hp⟩
  · rw [Mem.get_new] at e f
    have old : ∀ i v, m.get i = some v → v.mut = true → ι i ≠ p := fun i v e mv z => by
      obtain ⟨u', q', _⟩ := (R.obj i v e).2.at_mut (m := m) mv
      rw [z, hp] at q'
      cases q'
    by_cases c : i = m.n
    · by_cases d : j = m.n
      · rw [c, d]
      · rw [if_neg d] at f
        rw [c, push_at, push_lt (R.obj j w f).1] at q
        exact absurd q.symm (old j w f mw)
    · rw [if_neg c] at e
      by_cases d : j = m.n
      · rw [d, push_at, push_lt (R.obj i v e).1] at q
        exact absurd q (old i v e mv)
      · rw [if_neg d] at f
        rw [push_lt (R.obj i v e).1, push_lt (R.obj j w f).1] at q
        exact R.inj i j v w e f mv mw q
/-- an object of ours is changed -/
theorem Rel.put {m : Mem} {a : Nat} {o u : HO} {v v' : HObj} (R : Rel K G m ι H) (hv : m.get a = some v) (hp : H (ι a) = some u) (mu : Mut (some u)) (mv : v.mut = true) (mv' : v'.mut = true) (h : ObjR K G m.n ι (upd H (ι a) o) (ι a) v') : Rel K G (m.put a v') ι (upd H (ι a) o) := by
  refine ⟨fun i w e => ?_, fun i j w x e f mw mx q => ?_⟩
  · rw [Mem.get_put hv] at e
    by_cases c : i = a
    · rw [if_pos c] at e
      cases e
      subst c
      exact ⟨(R.obj _ _ hv).1, h⟩
    · rw [if_neg c] at e
      obtain ⟨lt, ob⟩ := R.obj i w e
      refine ⟨lt, ob.keep (ext_write hp mu) (fun z q mw => ?_) fun _ h => h.write hp mu⟩
      rw [upd_ne fun z => c (R.inj i a w v e hv mw mv z)]
      exact q
  · rw [Mem.get_put hv] at e f
    have un : ∀ k y, (if k = a then some v' else m.get k) = some y → y.mut = true → ∃ y', m.get k = some y' ∧ y'.mut = true := fun k y e my => by
      by_cases c : k = a
      · subst c
        exact ⟨v, hv, mv⟩
      · rw [if_neg c] at e
        exact ⟨y, e, my⟩
    obtain ⟨w', e', mw'⟩ := un i w e mw
    obtain ⟨x', f', mx'⟩ := un j x f mx
    exact R.inj i j w' x' e' f' mw' mx' q
theorem Rel.lst {m : Mem} {a : Nat} {xs : List Val} (R : Rel K G m ι H) (h : m.get a = some (.lst xs)) : ∃ ys, H (ι a) = some (.lst ys) ∧ Reps K G m.n ι H xs ys := (R.obj a _ h).2
theorem Rel.rol {m : Mem} {a : Nat} {xs : List Val} (R : Rel K G m ι H) (h : m.get a = some (.rol xs)) : ∃ ys, RoL K H (ι a) ys ∧ Reps K G m.n ι H xs ys := (R.obj a _ h).2
theorem Rel.dk {m : Mem} {a : Nat} {xs : List (Key × Val)} (R : Rel K G m ι H) (h : m.get a = some (.dk xs)) : ∃ ys, H (ι a) = some (.dK ys) ∧ KReps K G m.n ι H xs ys := (R.obj a _ h).2
/-- what is read as a list -/
theorem Rel.sql {m : Mem} {a : Nat} {xs : List Val} (R : Rel K G m ι H) (h : lstAt m a = some xs) : ∃ ys, SqL K H (ι a) ys ∧ Reps K G m.n ι H xs ys := by
  unfold lstAt at h
  split at h
  · rename_i zs e
    cases h
    obtain ⟨ys, q, r⟩ := R.lst e
    exact ⟨ys, SqL.of q, r⟩
  · rename_i zs e
    cases h
    obtain ⟨ys, q, r⟩ := R.rol e
    exact ⟨ys, q.sq, r⟩
  · cases h
/-- fewer objects -/
theorem hget_cut {n0 : Nat} : ∀ {h : List (Nat × HObj)} {i : Nat}, hget (hcut h n0) i = if i < n0 then hget h i else none
  | [], i => by simp [hcut, hget]
  | p :: r, i => by
    rw [hcut, hget]
    by_cases c : Nat.blt p.1 n0 = true
    · rw [if_pos c, hget, hget_cut]
      by_cases d : Nat.beq i p.1 = true
      · rw [if_pos d, if_pos d, if_pos]
        rw [Nat.eq_of_beq_eq_true d]
        exact Nat.le_of_ble_eq_true c
      · rw [if_neg d, if_neg d]
    · rw [if_neg c, hget_cut]
      by_cases d : Nat.beq i p.1 = true
      · have e := Nat.eq_of_beq_eq_true d
        have nl : ¬ i < n0 := fun z => c (Nat.ble_eq_true_of_le (e ▸ z))
        rw [if_neg nl, if_neg nl]
      · rw [if_neg d]
theorem Rel.close {m : Mem} {n0 : Nat} (R : Rel K G m ι H) : Rel K G ⟨m.n, hcut m.h n0⟩ ι H := by
  have old : ∀ i o, (⟨m.n, hcut m.h n0⟩ : Mem).get i = some o → m.get i = some o := fun i o e => by
    have e' : hget (hcut m.h n0) i = some o := e
    rw [hget_cut] at e'
    split at e'
    · exact e'
    · cases e'
  exact ⟨fun i o e => R.obj i o (old i o e), fun i j o u e f => R.inj i j o u (old i o e) (old j u f)⟩
end
end Mi

/-! What an expression, a test, a row of arguments, a block must be run for: the judgements said without a reading. -/
namespace Mi
open PySem L2 PySem.Spec PyProof.Rows

section
variable (X : Cx)
def wE (e : Expr) : TE := fun σ H Q => ∀ pins s, Inv X pins σ H s → wpAny (model X.prog X.w) X.A (eval e X.env) (EP X pins σ Q) X.xe s
def wT (e : Expr) : TT := fun σ H Q => ∀ pins s, Inv X pins σ H s → wpAny (model X.prog X.w) X.A (isTrue e X.env (eval e X.env)) (TP X pins σ Q) X.xe s
def wW (e : Expr) : TT := fun σ H Q => ∀ (wh : Sem Value) pins s, Inv X pins σ H s → wpAny (model X.prog X.w) X.A (isTrue e X.env wh) (TP X pins σ Q) X.xe s
def wA (es : List Expr) : TA := fun σ H Q => ∀ (pos : Pos) pins s, Inv X pins σ H s → wpAny (model X.prog X.w) X.A (spliced (backTo pos (starEach es X.env))) (AP X pins σ Q) X.xe s
def wK (ks : List Keyword) : TA := fun σ H Q => ∀ (pos : Pos) pins s, Inv X pins σ H s → wpAny (model X.prog X.w) X.A (evalAll ((backToKw pos (keywordEach ks X.env)).map (·.2))) (AP X pins σ Q) X.xe s
def wS (st : Stmt) : TS := fun D σ H => ∀ pins s, Inv X pins σ H s → wpAny (model X.prog X.w) X.A (exec st X.env) (SP X pins D) X.xe s
def wB (st : List Stmt) : TS := fun D σ H => ∀ pins s, Inv X pins σ H s → wpAny (model X.prog X.w) X.A (execs st X.env) (SP X pins D) X.xe s
def wG (tg : Expr) : TG := fun v σ H Q => ∀ pins s u, Inv X pins σ H s → RelV v u → wpAny (model X.prog X.w) X.A (assign tg X.env u) (fun _ s' => ∃ σ' H', Inv X pins σ' H' s' ∧ Q σ' H') X.xe s
end
section
variable {X : Cx} {e a b : Expr} {σ : L2.St} {H : Hp}
theorem pe_w : PE X e (wE X e) := ⟨fun pins s _ _ _ I h => h pins s I⟩
theorem pt_w : PT X e (wT X e) := ⟨fun pins s _ _ _ I h => h pins s I⟩
theorem pw_w : PW X e (wW X e) := ⟨fun wh pins s _ _ _ I h => h wh pins s I⟩
theorem pa_w {es : List Expr} : PA X es (wA X es) := ⟨fun pos pins s _ _ _ I h => h pos pins s I⟩
theorem pk_w {ks : List Keyword} : PK X ks (wK X ks) := ⟨fun pos pins s _ _ _ I h => h pos pins s I⟩
theorem ps_w {st : Stmt} : PS X st (wS X st) := ⟨fun pins s _ _ _ I h => h pins s I⟩
theorem pss_w {st : List Stmt} : PSs X st (wB X st) := ⟨fun pins s _ _ _ I h => h pins s I⟩
theorem pg_w {tg : Expr} : PG X tg (wG X tg) := ⟨fun pins s _ _ _ u _ I r h => h pins s u I r⟩
theorem wE.of {t : TE} {Q : VK} (p : PE X e t) (h : t σ H Q) : wE X e σ H Q := fun pins s I => p.run pins s σ H Q I h
theorem wT.of {t : TT} {Q : Bool → Hp → Prop} (p : PT X e t) (h : t σ H Q) : wT X e σ H Q := fun pins s I => p.run pins s σ H Q I h
theorem wW.of {t : TT} {Q : Bool → Hp → Prop} (p : PW X e t) (h : t σ H Q) : wW X e σ H Q := fun wh pins s I => p.run wh pins s σ H Q I h
theorem wW.t {Q : Bool → Hp → Prop} (h : wW X e σ H Q) : wT X e σ H Q := fun pins s I => h _ pins s I
theorem wA.of {es : List Expr} {t : TA} {Q : List V → Hp → Prop} (p : PA X es t) (h : t σ H Q) : wA X es σ H Q := fun pos pins s I => p.run pos pins s σ H Q I h
theorem wK.of {ks : List Keyword} {t : TA} {Q : List V → Hp → Prop} (p : PK X ks t) (h : t σ H Q) : wK X ks σ H Q := fun pos pins s I => p.run pos pins s σ H Q I h
theorem wS.of {st : Stmt} {t : TS} {D : Ends} (p : PS X st t) (h : t D σ H) : wS X st D σ H := fun pins s I => p.run pins s σ H D I h
theorem wB.of {st : List Stmt} {t : TS} {D : Ends} (p : PSs X st t) (h : t D σ H) : wB X st D σ H := fun pins s I => p.run pins s σ H D I h
theorem wG.of {tg : Expr} {t : TG} {v : V} {Q : L2.St → Hp → Prop} (p : PG X tg t) (h : t v σ H Q) : wG X tg v σ H Q := fun pins s u I r => p.run pins s σ H v u Q I r h
theorem wE.mono {Q Q' : VK} (h : wE X e σ H Q) (f : ∀ v H', Q v H' → Q' v H') : wE X e σ H Q' := fun pins s I => thn (h pins s I) fun _ _ ⟨v, H', I', r, q⟩ => ⟨v, H', I', r, f v H' q⟩
theorem wA.mono {es : List Expr} {Q Q' : List V → Hp → Prop} (h : wA X es σ H Q) (f : ∀ v H', Q v H' → Q' v H') : wA X es σ H Q' := fun pos pins s I => thn (h pos pins s I) fun _ _ ⟨v, H', I', r, q⟩ => ⟨v, H', I', r, f v H' q⟩

/-! ### operations by their values: some rule serves -/
def OpV (X : Cx) (f : Value → Value → Sem Value) : R2 := fun x y H Q => ∃ r, OpR X f r ∧ r x y H Q
theorem opV {f : Value → Value → Sem Value} : OpR X f (OpV X f) := fun pins s σ H x y v u Q I rx ry ⟨_, h, q⟩ => h pins s σ H x y v u Q I rx ry q
def UnV (X : Cx) (f : Value → Sem Value) : V → Hp → VK → Prop := fun x H Q => ∃ r, UnR X f r ∧ r x H Q
theorem unV {f : Value → Sem Value} : UnR X f (UnV X f) := fun pins s σ H x v Q I rx ⟨_, h, q⟩ => h pins s σ H x v Q I rx q
def CallV (X : Cx) (f : Value) : List V → Hp → VK → Prop := fun xs H Q => ∃ r, CallR X f r ∧ r xs H Q
theorem callV {f : Value} : CallR X f (CallV X f) := fun pins s σ H xs us Q I rx ⟨_, h, q⟩ => h pins s σ H xs us Q I rx q
def IxV (X : Cx) : R2 := fun x y H Q => ∀ (value slice : Expr) (pins : List (Addr × Obj)) (s : Shared) (σ : L2.St) (v u : Value), Inv X pins σ H s → RelV x v → RelV y u →
    subscripted slice false v u = operate [v, u] (getItem v u) → wpAny (model X.prog X.w) X.A (subscriptTail value slice v u) (EP X pins σ Q) X.xe s
theorem ixV : IxR X (IxV X) := fun value slice pins s σ H x y v u Q I rx ry h hs => h value slice pins s σ v u I rx ry hs
theorem IxV.of {r : R2} {x y : V} {Q : VK} (h : IxR X r) (q : r x y H Q) : IxV X x y H Q := fun value slice pins s σ v u I rx ry hs => h value slice pins s σ H x y v u Q I rx ry q hs

/-! ### a method of a builtin type: the type is told by the value -/
/-- the value is of the type T, an object without a dict -/
def TyM (X : Cx) (T : String) (x : V) (H : Hp) : Prop := ∀ pins (σ : L2.St) s v, Inv X pins σ H s → RelV x v → s.TypeIs v T ∧ ∀ a, v = .ref a → ∃ ob, s.heap.get? a = some ob ∧ ob.dict = none
theorem TyM.of {T : String} {x : V} (h : tyV X.K T x H) : TyM X T x H := fun pins σ s v I r => tyV_is I r h
theorem TyM.tup {a : Addr} {ys : List V} (h : PlT X.K H a ys) : TyM X "tuple" (.ref a) H := fun pins σ s v I r => by
  cases (show v = .ref a from r)
  rcases h with ⟨o, h, d⟩ | ⟨o, its, n, h1, h2, h3, h4, h5, h6⟩
  · obtain ⟨e, z, its, rv, o', e', c, n, q⟩ := (show ObjOk X.prog X.w H s.heap a (.frz o (.tup ys)) from I.hok a _ h)
    have : o = o' := Option.some.inj (e.symm.trans e')
    subst this
    exact ⟨⟨o, e, c⟩, fun b q => by cases q; exact ⟨o, e, d⟩⟩
  · have e := I.kIn a o h1
    exact ⟨⟨o, e, h2⟩, fun b q => by cases q; exact ⟨o, e, h3⟩⟩
structure MethT (T : String) (name : Str) (id : String) : Prop where
  pa : PlainAttrs T
  slot : Slot T name id
  ty : typeOf (.builtin id) = pure (.type "method_descriptor")
def MtV (X : Cx) (id : String) (x : V) (xs : List V) (H : Hp) (Q : VK) : Prop := ∀ pins (s : Shared) (σ : L2.St) v us, Inv X pins σ H s → RelV x v → Vals xs us → wpAny (model X.prog X.w) X.A (call (.builtin id) (v :: us)) (EP X pins σ Q) X.xe s
theorem MtV.of {id : String} {r : V → List V → Hp → VK → Prop} {x : V} {xs : List V} {Q : VK} (h : MtR X id r) (q : r x xs H Q) : MtV X id x xs H Q := fun pins s σ v us I rx rs => h pins s σ H x xs v us Q I rx rs q
/-- the facts of a call's arguments that are no stars: by computation -/
theorem few_ok {es : List Expr} (env : Env) (pos : Pos) (h : ∀ e ∈ es, ∀ x p, e ≠ Expr.Starred x p) : (starEach es env).any (·.1) = false ∧ (starEach es env).length = es.length := by
  induction es with
  | nil => exact ⟨rfl, rfl⟩
  | cons e es ih =>
    obtain ⟨i1, i2⟩ := ih fun x hx => h x (List.mem_cons_of_mem _ hx)
    have hs : starEach (e :: es) env = (false, eval e env) :: starEach es env := by
      cases e <;> first | rfl | exact absurd rfl (h _ List.mem_cons_self _ _)
    rw [hs]
    exact ⟨by rw [List.any_cons, i1]; rfl, by rw [List.length_cons, List.length_cons, i2]⟩
end
end Mi

/-! What a def of the program promises, where no text of an object is being made; how it is called. -/
namespace Mi
open PySem L2 PySem.Spec PyProof.Rows

abbrev SpG := List V → Hp → VK → Prop
structure FnG (P : Program) (w : World) (K : PySem.W.Frag) (mg : Str → Option Value) (base : Heap) (k : Nat) (f : Addr) (fd : FuncData) (ps : List Str) (sp : SpG) : Prop where
  len : ∀ vs H Q, sp vs H Q → vs.length = ps.length
  run : ∀ (A : Around) (outer : List Env) (s : Shared) (H : Hp) (args : Args) (us : List Value) (vs : List V) (Q : VK), Room k A → A.guards = some [] → Env0 P w K mg base A outer s H →
    BindsTo s fd args (ps.zip us) → Vals vs us → sp vs H Q →
    codeAny (model P w) A (.call (.ref f) args) (fun r s' => ∃ u, r = .ok (.ret u) ∧ CE outer P w H s Q u s') s

section
variable {X : Cx} {k : Nat} {f : Addr} {fd : FuncData} {ps ks : List Str} {sp : SpG} {σ : L2.St} {H : Hp}
/-- a call reaches its value -/
theorem run_g {pins : List (Addr × Obj)} {s : Shared} {Q : VK} {us ws us' : List Value} {vs : List V} (F : FnG X.prog X.w X.K X.mg X.base k f fd ps sp) (hr : Room k X.A) (hg : X.A.guards = some [])
    (hb : BindsTo s fd ⟨us, ks.zip ws⟩ (ps.zip us')) (I : Inv X pins σ H s) (r : Vals vs us') (h : sp vs H Q) :
    wpAny (model X.prog X.w) X.A (call (.ref f) us (ks.zip ws)) (EP X pins σ Q) X.xe s := by
  have c := F.run X.A X.stack s H ⟨us, ks.zip ws⟩ us' vs Q hr hg I.env0 hb r h
  refine wpAny_call (codeAny_mono c fun r s' hq => ?_)
  obtain ⟨u, rfl, hq⟩ := hq
  exact I.after hq

theorem permL_vals {vs : List V} {us : List Value} (r : Vals vs us) : ∀ {p : List Nat} {vs' : List V}, permL vs p = some vs' → ∃ us', permL us p = some us' ∧ Vals vs' us'
  | [], vs', h => by
    cases h
    exact ⟨[], rfl, .nil⟩
  | i :: p, vs', h => by
    unfold permL at h
    split at h
    · rename_i v ws e1 e2
      cases h
      obtain ⟨u, e3, r3⟩ := r.get e1
      obtain ⟨us', e4, r4⟩ := permL_vals r e2
      refine ⟨u :: us', ?_, .cons r3 r4⟩
      unfold permL
      rw [e3, e4]
    · cases h
/-- what a call's form binds -/
def BindEv (K : PySem.W.Frag) (fd : FuncData) (ps ks : List Str) (np : Nat) (perm : List Nat) : Prop :=
  ∀ (s : Shared) (us ws us' : List Value), K.In s.heap → us.length = np → ws.length = ks.length → permL (us ++ ws) perm = some us' → BindsTo s fd ⟨us, ks.zip ws⟩ (ps.zip us')

variable {x : Str} {p pos : Pos} {es : List Expr} {kws : List Keyword}
theorem starEach_length (env : Env) : ∀ es : List Expr, (starEach es env).length = es.length
  | [] => rfl
  | e :: es => by
    have ih := starEach_length env es
    cases e <;> (unfold starEach; rw [List.length_cons, List.length_cons, ih])
/-- the first argument stands plain -/
def plainArg : Expr → Bool
  | .Starred .. => false
  | _ => true
theorem starEach_plain (env : Env) {e : Expr} (h : plainArg e = true) (es : List Expr) : starEach (e :: es) env = (false, eval e env) :: starEach es env := by
  cases e <;> first | rfl | cases h
theorem backTo_plain (env : Env) (pos : Pos) : ∀ {es : List Expr}, es.all plainArg = true → (backTo pos (starEach es env)).any (·.1) = false
  | [], _ => rfl
  | e :: es, h => by
    rw [List.all_cons, Bool.and_eq_true] at h
    rw [starEach_plain env h.1]
    show (false || (backTo pos (starEach es env)).any (·.1)) = false
    rw [backTo_plain env pos h.2]
    rfl
def kwName : Keyword → Option Str
  | ⟨n, _, _⟩ => n
def kwVal : Keyword → Expr
  | ⟨_, e, _⟩ => e
theorem kw_names (env : Env) (pos : Pos) : ∀ kws : List Keyword, (backToKw pos (keywordEach kws env)).map (·.1) = kws.map kwName
  | [] => rfl
  | ⟨n, e, q⟩ :: r => by
    show n :: (backToKw pos (keywordEach r env)).map (·.1) = n :: r.map kwName
    rw [kw_names env pos r]
theorem kw_all (env : Env) (pos : Pos) {kws : List Keyword} {ks : List Str} (h : kws.map kwName = ks.map some) : (backToKw pos (keywordEach kws env)).all (·.1.isSome) = true := by
  have e := kw_names env pos kws
  rw [h] at e
  rw [List.all_eq_true]
  intro z hz
  have m : z.1 ∈ (backToKw pos (keywordEach kws env)).map (·.1) := List.mem_map_of_mem hz
  rw [e] at m
  obtain ⟨y, _, hy⟩ := List.mem_map.mp m
  rw [← hy]
  rfl
theorem kw_any (env : Env) (pos : Pos) {kws : List Keyword} {ks : List Str} (h : kws.map kwName = ks.map some) : (backToKw pos (keywordEach kws env)).any (·.1.isNone) = false := by
  have e := List.all_eq_true.mp (kw_all env pos h)
  rw [List.any_eq_false]
  intro z hz
  have := e z hz
  cases q : z.1 with
  | none => rw [q] at this; cases this
  | some _ => simp
theorem kw_filter (env : Env) (pos : Pos) {kws : List Keyword} {ks : List Str} (h : kws.map kwName = ks.map some) : (backToKw pos (keywordEach kws env)).filterMap (·.1) = ks := by
  have e := kw_names env pos kws
  rw [h] at e
  have : (backToKw pos (keywordEach kws env)).filterMap (·.1) = ((backToKw pos (keywordEach kws env)).map (·.1)).filterMap id := by
    rw [List.filterMap_map]
    rfl
  rw [this, e, List.filterMap_map]
  show ks.filterMap (fun x => some x) = ks
  exact List.filterMap_some
/-- a row of arguments; none: nothing runs -/
def wAs (X : Cx) : List Expr → TA
  | [] => tNil
  | e :: r => wA X (e :: r)
theorem pas_w {es : List Expr} : PA X es (wAs X es) := by
  cases es with
  | nil => exact pa_nil
  | cons e r => exact pa_w
theorem wAs.mono {Q Q' : List V → Hp → Prop} (h : wAs X es σ H Q) (f : ∀ v H', Q v H' → Q' v H') : wAs X es σ H Q' := by
  cases es with
  | nil => exact f _ _ h
  | cons e r => exact wA.mono h f
/-- a def is called by its name -/
theorem wE_call {Q : VK} {np : Nat} {perm : List Nat} (F : FnG X.prog X.w X.K X.mg X.base k f fd ps sp) (hr : Room k X.A) (hg : X.A.guards = some []) (gl : Gl X x) (hm : X.mg x = some (.ref f)) (hk : PySem.W.keepIn X.K (.ref f) = true)
    (hb : BindEv X.K fd ps ks np perm) (hes : es.all plainArg = true) (hkw : kws.map kwName = ks.map some) (hdb : (x == ("__debug__" : Str)) = false)
    (h : wAs X es σ H fun vs H1 => wK X kws σ H1 fun zs H2 => vs.length = np ∧ zs.length = ks.length ∧ ∃ vs', permL (vs ++ zs) perm = some vs' ∧ sp vs' H2 Q) :
    wE X (.Call (.Name x p) es kws pos) σ H Q := fun pins s I => by
  have go : ∀ {us ws : List Value} {vs zs : List V} {H2 : Hp} {s2 : Shared}, Inv X pins σ H2 s2 → Vals vs us → Vals zs ws → vs.length = np → zs.length = ks.length → (∃ vs', permL (vs ++ zs) perm = some vs' ∧ sp vs' H2 Q) →
      wpAny (model X.prog X.w) X.A (call (.ref f) us (ks.zip ws)) (EP X pins σ Q) X.xe s2 := fun {us ws vs zs H2 s2} I2 r rz l1 l2 ⟨vs', e, q⟩ => by
    obtain ⟨us', e', r'⟩ := permL_vals (r.append rz) e
    exact run_g F hr hg (hb s2 us ws us' I2.kIn (by rw [← r.length]; exact l1) (by rw [← rz.length]; exact l2) e') I2 r' q
  refine wpAny_Call_Name_kw (ld_glob I gl hm ?_ hdb)
  cases es with
  | nil =>
    refine PySem.W.callWith_KW0 (h₀ := X.base) I.ok.mod.kin hk (kw_all _ pos hkw) (thn (h pos pins s I) fun ws s2 ⟨zs, H2, I2, rz, l1, l2, q⟩ => ⟨I2.kIn, ?_⟩) (kw_any _ pos hkw)
    rw [kw_filter _ pos hkw]
    exact go I2 .nil rz l1 l2 q
  | cons e es =>
    have e1 := backTo_plain X.env pos hes
    have e2 : plainArg e = true := by
      rw [List.all_cons, Bool.and_eq_true] at hes
      exact hes.1
    refine PySem.W.callWith_KW (h₀ := X.base) I.ok.mod.kin hk (kw_all _ pos hkw) (thn (h pos pins s I) fun us s1 ⟨vs, H1, I1, r, q1⟩ => thn (q1 pos pins s1 I1) fun ws s2 ⟨zs, H2, I2, rz, l1, l2, q⟩ => ⟨I2.kIn, ?_⟩)
      (by rw [e1, kw_any _ pos hkw]; rfl) (starEach_plain X.env e2 es)
    rw [kw_filter _ pos hkw]
    exact go I2 r rz l1 l2 q
/-- the rows of arguments, from the left -/
theorem wA_cons {e : Expr} {Q : List V → Hp → Prop} (he : plainArg e = true) (h : wE X e σ H fun v H1 => wAs X es σ H1 fun vs H2 => Q (v :: vs) H2) : wAs X (e :: es) σ H Q :=
  wA.of (pa_cons pe_w pas_w (starEach_plain X.env he es)) h
theorem wK_nil {Q : List V → Hp → Prop} (h : Q [] H) : wK X [] σ H Q := wK.of pk_nil h
theorem wK_cons {n : Option Str} {e : Expr} {q : Pos} {Q : List V → Hp → Prop} (h : wE X e σ H fun v H1 => wK X kws σ H1 fun vs H2 => Q (v :: vs) H2) : wK X (⟨n, e, q⟩ :: kws) σ H Q := wK.of (pk_cons pe_w pk_w) h
end

/-! ### a body keeps its def's promise -/
/-- the context of a body from which nothing is raised -/
abbrev cxG (P : Program) (w : World) (K : PySem.W.Frag) (mg : Str → Option Value) (base : Heap) (N : List Str) (qual : Str) (scope : Scope) (f : Addr) (cd : Value) (A : Around) (outer : List Env) (s : Shared) (H : Hp) : Cx :=
  (cxOf (fun _ _ _ _ _ _ => False) P w K mg base N qual scope f cd A outer s H fun _ _ _ => False).nox
theorem fnG_of {P : Program} {w : World} {K : PySem.W.Frag} {mg : Str → Option Value} {base : Heap} {k : Nat} {f : Addr} {name qual : Str} {params : Arguments} {body : List Stmt} {scope : Scope} {dV kV doc pm cdv ct oc : Value} {an od : Option Addr} {osl : Array (Option Value)}
    {N ps : List Str} {sp : SpG} (lk : K.lookup f = some ⟨oc, od, .func (PySem.W.fnOf name qual params body scope dV kV doc pm an cdv ct), osl⟩) (hcd : PySem.W.codeIn K cdv qual = true) (S : FnScope N ps scope)
    (len : ∀ vs H Q, sp vs H Q → vs.length = ps.length)
    (hbody : ∀ (A : Around) (outer : List Env) (s : Shared) (H : Hp) (vs : List V) (Q : VK), Room k (A.deeper (envOfC qual scope s.heap.objs.size f cdv)) → (A.deeper (envOfC qual scope s.heap.objs.size f cdv)).guards = some [] → sp vs H Q →
      wB (cxG P w K mg base N qual scope f cdv A outer s H) body { nx := fun _ H' => Q .non H', rt := Q } (start N vs) H) :
    FnG P w K mg base (k + 1) f (PySem.W.fnOf name qual params body scope dV kV doc pm an cdv ct) ps sp := by
  refine ⟨len, fun A outer s H args us vs Q hr hgu e0 hb r hsp => ?_⟩
  have hl := len _ _ _ hsp
  have kin0 := e0.mod.kin.keeps (h' := s.heap) fun b o e => (e0.bs b o e).1
  have nl0 := e0.mod.nolimit.keeps (h' := s.heap) fun b o e => (e0.bs b o e).1
  refine codeAny_call_function hr.depth (kin0 _ _ lk) rfl S.co S.gen rfl (PySem.W.codeRec_of kin0 hcd) (hb _ _ _ _ ?_)
  refine wpAny_newFunctionEnv_cells S.kind (fun y hy => ?_) fun env he s1 x => ?_
  · rcases S.par y.1 (List.of_mem_zip hy).1 with q | q
    · exact .inl q
    · exact .inr ⟨q, PySem.W.cellsFrom_some _ _ _ (.inl q)⟩
  · subst he
    refine ⟨nl0.keeps x.toInCall.keep, codeAny_func ?_⟩
    have I0 := inv_start (CX := fun _ _ _ _ _ _ => False) (E := fun _ _ _ => False) S hr.hd e0 hl r x
    have hB := hbody A outer s H vs Q (hr.deeper _) hgu hsp [] s1 (I0.wish _)
    refine wpAny_mono hB (fun fl s' hs => ?_) fun _ _ z => z.elim
    have fin : ∀ {σ' : L2.St} {H' : Hp} {v : V} {u : Value}, Inv (cxG P w K mg base N qual scope f cdv A outer s H) [] σ' H' s' → RelV v u → Q v H' → CE outer P w H s Q u s' :=
      fun {σ' H' v u} J rv q => ⟨v, H', J.os, J.bare, J.base, J.hok, rv, q⟩
    cases fl with
    | ret u =>
      obtain ⟨v, σ', H', J, rv, q⟩ := hs
      exact ⟨u, rfl, fin J rv q⟩
    | next =>
      obtain ⟨σ', H', J, q⟩ := hs
      exact ⟨.none, rfl, fin (v := V.non) (u := Value.none) J rfl q⟩
    | brk =>
      obtain ⟨_, _, _, q⟩ := hs
      exact q.elim
    | cont =>
      obtain ⟨_, _, _, q⟩ := hs
      exact q.elim
end Mi

/-! The operations on values: each one's rule of the layer, said of the small language's values. -/
namespace Mi
open PySem L2 PySem.Spec PyProof.Rows

theorem lim_line {n : Nat} (h : n ≤ LIM) : n ≤ sizeLine := by
  rw [sizeLine_eq]
  have : LIM = 8000000 := rfl
  omega
theorem small_le {α : Type} {xs : List α} (h : small xs = true) : xs.length ≤ LIM := Nat.le_of_ble_eq_true h
theorem small_line {α : Type} {xs : List α} (h : small xs = true) : xs.length ≤ sizeLine := lim_line (small_le h)
theorem small_lt {α : Type} {xs : List α} (h : small xs = true) : xs.length < sizeLine := by
  have := small_le h
  rw [sizeLine_eq]
  have : LIM = 8000000 := rfl
  omega
theorem lim2 {a b : Nat} (h : a ≤ LIM) (h' : b ≤ LIM) : a + b ≤ sizeLine := by
  rw [sizeLine_eq]
  have : LIM = 8000000 := rfl
  omega

section
variable {X : Cx} {G : Nat → Addr} {m m' : Mem} {ι : Nat → Addr} {H : Hp} {Q : VK}

/-- what is wanted of a value v and a memory m' that come from m -/
def Post (X : Cx) (G : Nat → Addr) (m : Mem) (ι : Nat → Addr) (H : Hp) (m' : Mem) (v : Val) (Q : VK) : Prop :=
  ∀ ι' H' V, Rel X.K G m' ι' H' → Rep X.K G m'.n ι' H' v V → Ext X.K m.n ι H m'.n ι' H' → Q V H'
/-- the value stands already, nothing is written -/
theorem Post.same {v : Val} {V : V} (P : Post X G m ι H m v Q) (R : Rel X.K G m ι H) (r : Rep X.K G m.n ι H v V) : Q V H := P ι H V R r Ext.refl

/-- a tuple that is laid has no dict -/
theorem tup_new {pins : List (Addr × Obj)} {σ : L2.St} {s : Shared} {ys : List V} {its : List Value} (I : Inv X pins σ H s) (r : Vals ys its) (hz : ys.length ≤ sizeLine) :
    Inv X pins σ (upd H s.heap.objs.size (.frz { cls := .type "tuple", data := .seq its.toArray } (.tup ys))) { s with heap := s.heap.push { cls := .type "tuple", data := .seq its.toArray } } := by
  refine I.laid (t' := s.toks) (fun b o e => Heap.get?_push_of_some _ e) (Nat.le_refl _) ?_
  exact ⟨Heap.get?_push_size _ rfl, hz, its, r, ⟨_, Heap.get?_push_size _ rfl, rfl, _, rfl⟩⟩
theorem tup_new_tok {pins : List (Addr × Obj)} {σ : L2.St} {s : Shared} {ys : List V} {its : List Value} (t : Nat) (I : Inv X pins σ H s) (r : Vals ys its) (hz : ys.length ≤ sizeLine) :
    Inv X pins σ (upd H s.heap.objs.size (.frz { cls := .type "tuple", data := .seq its.toArray } (.tup ys))) { s with heap := s.heap.push { cls := .type "tuple", data := .seq its.toArray }, toks := t } := by
  refine I.laid (t' := t) (fun b o e => Heap.get?_push_of_some _ e) (Nat.le_refl _) ?_
  exact ⟨Heap.get?_push_size _ rfl, hz, its, r, ⟨_, Heap.get?_push_size _ rfl, rfl, _, rfl⟩⟩
theorem Post.tup {xs : List Val} {ys : List V} {p : Addr} {ob : Obj} (P : Post X G m ι H m (.tup xs) Q) (R : Rel X.K G m ι H) (r : Reps X.K G m.n ι H xs ys) (hp : H p = none) (hd : ob.dict = none) :
    Q (.ref p) (upd H p (.frz ob (.tup ys))) :=
  P ι _ _ (R.fresh hp) (.tup (.inl ⟨ob, upd_same, hd⟩) (r.ext (ext_fresh hp))) (ext_fresh hp)
theorem Post.lst {xs : List Val} {ys : List V} {p : Addr} (P : Post X G m ι H (m.new (.lst xs)) (.ref m.n) Q) (R : Rel X.K G m ι H) (r : Reps X.K G m.n ι H xs ys) (hp : H p = none) :
    Q (.ref p) (upd H p (.lst ys)) := by
  have R' : Rel X.K G (m.new (.lst xs)) (push ι m.n p) (upd H p (.lst ys)) := R.new hp rfl ⟨ys, upd_same, r.ext (ext_push hp)⟩
  have rr : Rep X.K G (m.new (.lst xs)).n (push ι m.n p) (upd H p (.lst ys)) (.ref m.n) (.ref (push ι m.n p m.n)) := .ref _ (Nat.lt_succ_self _)
  rw [push_at] at rr
  exact P _ _ _ R' rr (ext_push hp)
theorem Post.dk {p : Addr} (P : Post X G m ι H (m.new (.dk [])) (.ref m.n) Q) (R : Rel X.K G m ι H) (hp : H p = none) : Q (.ref p) (upd H p (.dK [])) := by
  have R' : Rel X.K G (m.new (.dk [])) (push ι m.n p) (upd H p (.dK [])) := R.new hp rfl ⟨[], upd_same, .nil⟩
  have rr : Rep X.K G (m.new (.dk [])).n (push ι m.n p) (upd H p (.dK [])) (.ref m.n) (.ref (push ι m.n p m.n)) := .ref _ (Nat.lt_succ_self _)
  rw [push_at] at rr
  exact P _ _ _ R' rr (ext_push hp)
/-- a list of ours is written -/
theorem Post.wr {a : Nat} {xs xs' : List Val} {ys ys' : List V} {v : Val} {V : V} (P : Post X G m ι H (m.put a (.lst xs')) v Q) (R : Rel X.K G m ι H) (h : m.get a = some (.lst xs)) (hy : H (ι a) = some (.lst ys))
    (r : Reps X.K G m.n ι H xs' ys') (rv : Rep X.K G m.n ι H v V) : Q V (upd H (ι a) (.lst ys')) := by
  have e : Ext X.K m.n ι H m.n ι (upd H (ι a) (.lst ys')) := ext_write hy True.intro
  exact P ι _ _ (R.put h hy True.intro rfl rfl ⟨ys', upd_same, r.ext e⟩) (rv.ext e) e
theorem Post.wrd {a : Nat} {xs xs' : List (Key × Val)} {ys ys' : List (Key × L2.V)} {v : Val} {V : V} (P : Post X G m ι H (m.put a (.dk xs')) v Q) (R : Rel X.K G m ι H) (h : m.get a = some (.dk xs)) (hy : H (ι a) = some (.dK ys))
    (r : KReps X.K G m.n ι H xs' ys') (rv : Rep X.K G m.n ι H v V) : Q V (upd H (ι a) (.dK ys')) := by
  have e : Ext X.K m.n ι H m.n ι (upd H (ι a) (.dK ys')) := ext_write hy True.intro
  exact P ι _ _ (R.put h hy True.intro rfl rfl ⟨ys', upd_same, r.ext e⟩) (rv.ext e) e

/-! ### numbers -/
theorem pv_ints {f : Value → Value → Sem Value} {g : Int → Int → V} {i j : Int} {x y : V} {v : Val} (ho : OpR X f (rI0 g)) (rx : Rep X.K G m.n ι H (.int i) x) (ry : Rep X.K G m.n ι H (.int j) y) (hv : Rep X.K G m.n ι H v (g i j))
    (R : Rel X.K G m ι H) (P : Post X G m ι H m v Q) : OpV X f x y H Q := by
  cases rx
  cases ry
  exact ⟨_, ho, i, j, rfl, rfl, P.same R hv⟩
theorem pv_intsC {f : Value → Value → Sem Value} {C : Int → Int → Prop} {g : Int → Int → V} {i j : Int} {x y : V} {v : Val} (ho : OpR X f (rI C g)) (hc : C i j) (rx : Rep X.K G m.n ι H (.int i) x) (ry : Rep X.K G m.n ι H (.int j) y) (hv : Rep X.K G m.n ι H v (g i j))
    (R : Rel X.K G m ι H) (P : Post X G m ι H m v Q) : OpV X f x y H Q := by
  cases rx
  cases ry
  exact ⟨_, ho, i, j, rfl, rfl, hc, P.same R hv⟩
theorem okMul_ok {i j : Int} (h : okMul i j = true) : CMul i j := by
  unfold okMul at h
  simp only [Bool.or_eq_true, Bool.and_eq_true, decide_eq_true_eq] at h
  exact h
theorem okPow_ok {i j : Int} (h : okPow i j = true) : CPow i j := by
  unfold okPow at h
  simp only [Bool.and_eq_true, decide_eq_true_eq] at h
  exact ⟨h.1.1, h.1.2, h.2⟩

/-! ### sums, products -/
theorem Inv.plT {pins : List (Addr × Obj)} {σ : L2.St} {s : Shared} {a : Addr} {ys : List V} (I : Inv X pins σ H s) (h : PlT X.K H a ys) : ∃ its : List Value, Vals ys its ∧ IsTup s.heap a its.toArray ∧ ys.length ≤ sizeLine := I.tuple h.sq
/-- t + u of any tuples -/
def rCatA (X : Cx) : R2 := fun x y H Q => ∃ a b xs ys, x = .ref a ∧ y = .ref b ∧ PlT X.K H a xs ∧ PlT X.K H b ys ∧ xs.length + ys.length ≤ sizeLine ∧ (xs = [] → Q (.ref b) H) ∧ (ys = [] → Q (.ref a) H) ∧
  ∀ p ob, H p = none → ob.dict = none → Q (.ref p) (upd H p (.frz ob (.tup (xs ++ ys))))
theorem op_catA : OpR X (binaryOp .Add) (rCatA X) := by
  intro pins s σ H x y v u Q I rx ry h
  obtain ⟨a, b, xs, ys, rfl, rfl, ha, hb, hz, q1, q2, q3⟩ := h
  cases rx
  cases ry
  obtain ⟨its, r1, p1, _⟩ := I.tuple ha.sq
  obtain ⟨its2, r2, p2, _⟩ := I.tuple hb.sq
  by_cases h0 : its = []
  · subst h0
    cases r1
    exact cat_tup0 p1 p2 ⟨.ref b, H, I, rfl, q1 rfl⟩
  · refine HT.cat_tup p1 p2 h0 (fun z => ?_) (fun z => ?_) (by rw [← r1.length, ← r2.length]; exact hz)
    · subst z
      cases r2
      exact ⟨.ref a, H, I, rfl, q2 rfl⟩
    · have I2 := tup_new I (r1.append r2) (by rw [List.length_append]; exact hz)
      exact ⟨.ref s.heap.objs.size, _, I2, rfl, q3 _ _ (I.hok.fresh (Nat.le_refl _)) rfl⟩
theorem pv_add {a b : Val} {v : Val} {x y : V} (h : addV m a b = some (v, m')) (R : Rel X.K G m ι H) (rx : Rep X.K G m.n ι H a x) (ry : Rep X.K G m.n ι H b y) (P : Post X G m ι H m' v Q) : OpV X (binaryOp .Add) x y H Q := by
  unfold addV at h
  split at h
  · cases h
    exact pv_ints op_add rx ry (.int _) R P
  · rename_i xs ys
    split at h
    · rename_i hs
      cases h
      rw [Bool.and_eq_true] at hs
      cases rx with
      | @tup p _ vs hp rp =>
        cases ry with
        | @tup q _ ws hq rq =>
          have l1 := small_le hs.1
          have l2 := small_le hs.2
          have e1 := rp.length
          have e2 := rq.length
          refine ⟨_, op_catA, p, q, vs, ws, rfl, rfl, hp, hq, ?_, fun z => ?_, fun z => ?_, fun r ob hr hd => P.tup R (rp.append rq) hr hd⟩
          · rw [← e1, ← e2]
            exact lim2 l1 l2
          · subst z
            cases rp
            exact P.same R (.tup hq rq)
          · subst z
            cases rq
            rw [List.append_nil] at P
            exact P.same R (.tup hp rp)
    · cases h
  · rename_i p q
    split at h
    · rename_i xs ys e1 e2
      split at h
      · rename_i hs
        cases h
        rw [Bool.and_eq_true] at hs
        cases rx
        cases ry
        obtain ⟨vs, h1, r1⟩ := R.lst e1
        obtain ⟨ws, h2, r2⟩ := R.lst e2
        exact ⟨_, op_cat, ι p, ι q, vs, ws, rfl, rfl, h1, h2, by rw [← r1.length, ← r2.length]; exact lim2 (small_le hs.1) (small_le hs.2), fun r hr => P.lst R (r1.append r2) hr⟩
      · cases h
    · cases h
  · cases h
theorem pv_mul {a b : Val} {v : Val} {x y : V} (h : mulV m a b = some (v, m')) (R : Rel X.K G m ι H) (rx : Rep X.K G m.n ι H a x) (ry : Rep X.K G m.n ι H b y) (P : Post X G m ι H m' v Q) : OpV X (binaryOp .Mult) x y H Q := by
  unfold mulV at h
  split at h
  · split at h
    · rename_i hs
      cases h
      exact pv_intsC op_mul (okMul_ok hs) rx ry (.int _) R P
    · cases h
  · split at h
    · rename_i k xs e1
      split at h
      · rename_i hs
        cases h
        simp only [Bool.and_eq_true, decide_eq_true_eq] at hs
        obtain ⟨⟨⟨h1, h2⟩, h3⟩, h4⟩ := hs
        cases rx
        cases ry
        obtain ⟨vs, h5, r1⟩ := R.lst e1
        refine ⟨_, op_rep, _, _, vs, rfl, rfl, h5, by omega, by omega, ?_, fun r hr => P.lst R (r1.rept _) hr⟩
        rw [← r1.length]
        exact lim_line (Nat.le_of_ble_eq_true h4)
      · cases h
    · cases h
  · cases h

/-! ### data -/
theorem Rel.dpLst {a : Nat} {xs : List Val} (R : Rel X.K G m ι H) (h : lstAt m a = some xs) : ∃ ys, SqL X.K H (ι a) ys ∧ Reps X.K G m.n ι H xs ys := R.sql h
theorem dp_all {f : Val → Option PyData} (hf : ∀ v x d, f v = some d → Rep X.K G m.n ι H v x → Dp X.K H x d) : ∀ {xs : List Val} {ys : List V} {ds : List PyData}, mapO f xs = some ds → Reps X.K G m.n ι H xs ys → DpAll X.K H ys ds
  | [], _, _, h, .nil => by
    cases h
    exact .nil
  | x :: xs, _, _, h, .cons r rs => by
    unfold mapO at h
    split at h
    · rename_i d e
      split at h
      · rename_i ds e2
        cases h
        exact .cons (hf _ _ _ e r) (dp_all hf e2 rs)
      · cases h
    · cases h
theorem dp_data (R : Rel X.K G m ι H) : ∀ (n : Nat) (v : Val) (x : V) (d : PyData), dataF m.h n v = some d → Rep X.K G m.n ι H v x → Dp X.K H x d
  | 0, v, x, d, h, r => by
    unfold dataF at h
    cases r <;> simp only at h <;> cases h
    · exact .non
    · exact .bl _
    · exact .int _
    · exact .str _
    · exact .str _
  | n + 1, v, x, d, h, r => by
    unfold dataF at h
    cases r with
    | non => cases h; exact .non
    | bl b => cases h; exact .bl _
    | int i => cases h; exact .int _
    | str s => cases h; exact .str _
    | rep d => cases h; exact .str _
    | ty t => cases h
    | glo g => cases h
    | @tup a xs ys hp rs =>
      simp only at h
      cases e : mapO (dataF m.h n) xs with
      | none => rw [e] at h; cases h
      | some ds =>
        rw [e] at h
        cases h
        exact .tup hp.sq (dp_all (fun v x d => dp_data R n v x d) e rs)
    | ref i hi =>
      simp only at h
      have go : ∀ xs, lstAt m i = some xs → ∀ ds, mapO (dataF m.h n) xs = some ds → Dp X.K H (.ref (ι i)) (.list ds) := fun xs e1 ds e2 => by
        obtain ⟨ys, hs, rs⟩ := R.sql e1
        exact .lst hs (dp_all (fun v x d => dp_data R n v x d) e2 rs)
      split at h
      · rename_i xs e1
        cases e : mapO (dataF m.h n) xs with
        | none => rw [e] at h; cases h
        | some ds =>
          rw [e] at h
          cases h
          exact go xs (by unfold lstAt Mem.get; rw [e1]) ds e
      · rename_i xs e1
        cases e : mapO (dataF m.h n) xs with
        | none => rw [e] at h; cases h
        | some ds =>
          rw [e] at h
          cases h
          exact go xs (by unfold lstAt Mem.get; rw [e1]) ds e
      · cases h
theorem depth_all {f : Val → Option PyData} {k : Nat} (hf : ∀ v d, f v = some d → d.depth ≤ k) : ∀ {xs : List Val} {ds : List PyData}, mapO f xs = some ds → PyData.depthAll ds ≤ k
  | [], _, h => by
    cases h
    simp [PyData.depthAll]
  | x :: xs, _, h => by
    unfold mapO at h
    split at h
    · rename_i d e
      split at h
      · rename_i ds e2
        cases h
        have h1 := hf _ _ e
        have h2 := depth_all hf e2
        simp only [PyData.depthAll]
        omega
      · cases h
    · cases h
theorem depth_data (hh : List (Nat × HObj)) : ∀ (n : Nat) (v : Val) (d : PyData), dataF hh n v = some d → d.depth ≤ n
  | 0, v, d, h => by
    unfold dataF at h
    cases v <;> simp only at h <;> cases h <;> simp [PyData.depth]
  | n + 1, v, d, h => by
    unfold dataF at h
    have tu : ∀ (xs : List Val) (c : List PyData → PyData), (∀ ds, (c ds).depth = PyData.depthAll ds + 1) → (mapO (dataF hh n) xs).map c = some d → d.depth ≤ n + 1 := fun xs c hc e => by
      cases q : mapO (dataF hh n) xs with
      | none => rw [q] at e; cases e
      | some ds =>
        rw [q] at e
        cases e
        rw [hc]
        have := depth_all (fun v d => depth_data hh n v d) q
        omega
    cases v with
    | tup xs => exact tu xs .tuple (fun _ => by simp [PyData.depth]) h
    | ref a =>
      simp only at h
      split at h
      · exact tu _ .list (fun _ => by simp [PyData.depth]) h
      · exact tu _ .list (fun _ => by simp [PyData.depth]) h
      · cases h
    | _ => simp only at h <;> cases h <;> simp [PyData.depth]
theorem shaped_data {hh : List (Nat × HObj)} {v : Val} {d : PyData} {n : Nat} (hn : n ≤ 64) (h : dataF hh n v = some d) (hc : d.canLay0 = true) : SeqAt.shaped d = true := by
  unfold SeqAt.shaped
  have := depth_data hh n v d h
  rw [hc, decide_eq_true (show d.depth ≤ 64 by omega)]
  rfl
theorem text_rep {a : Val} {t : Str} {x : V} (h : textOf a = some t) (r : Rep X.K G m.n ι H a x) : x = .str t := by
  unfold textOf at h
  split at h
  · cases h; cases r; rfl
  · cases h; cases r; rfl
  · cases h
theorem pv_eq {a b : Val} {c : Bool} {x y : V} (hu : X.A.units + 64 < cLine) (h : eqData m a b = some c) (R : Rel X.K G m ι H) (rx : Rep X.K G m.n ι H a x) (ry : Rep X.K G m.n ι H b y) (P : Post X G m ι H m (.bl c) Q) : OpV X (compareOp .Eq) x y H Q := by
  unfold eqData at h
  split at h
  · rename_i s t e1 e2
    cases h
    rw [text_rep e1 rx, text_rep e2 ry]
    refine ⟨_, op_eq, rfl, ?_⟩
    have e : decide (V.str s = V.str t) = decide (s = t) := by simp
    rw [e]
    exact P.same R (.bl _)
  · split at h
    · rename_i d e h1 h2
      split at h
      · rename_i hc
        cases h
        rw [Bool.and_eq_true] at hc
        exact ⟨_, op_eqD hu, d, e, dp_data R 8 a x d h1 rx, dp_data R 8 b y e h2 ry, shaped_data (by decide) h1 hc.1, shaped_data (by decide) h2 hc.2, P.same R (.bl _)⟩
      · cases h
    · cases h
theorem pv_ne {a b : Val} {c : Bool} {x y : V} (hu : X.A.units + 64 < cLine) (h : eqData m a b = some c) (R : Rel X.K G m ι H) (rx : Rep X.K G m.n ι H a x) (ry : Rep X.K G m.n ι H b y) (P : Post X G m ι H m (.bl (!c)) Q) : OpV X (compareOp .NotEq) x y H Q := by
  unfold eqData at h
  split at h
  · rename_i s t e1 e2
    cases h
    rw [text_rep e1 rx, text_rep e2 ry]
    refine ⟨_, op_ne, rfl, ?_⟩
    have e : decide (V.str s = V.str t) = decide (s = t) := by simp
    rw [e]
    exact P.same R (.bl _)
  · split at h
    · rename_i d e h1 h2
      split at h
      · rename_i hc
        cases h
        rw [Bool.and_eq_true] at hc
        exact ⟨_, op_neD hu, d, e, dp_data R 8 a x d h1 rx, dp_data R 8 b y e h2 ry, shaped_data (by decide) h1 hc.1, shaped_data (by decide) h2 hc.2, P.same R (.bl _)⟩
      · cases h
    · cases h

/-! ### in -/
theorem flat1_V {a : Val} {x : V} (h : flat1 a = true) (r : Rep X.K G m.n ι H a x) : flatV x = true := by
  cases r <;> first | rfl | cases h
theorem eq1_V {a b : Val} {x y : V} (ha : flat1 a = true) (hb : flat1 b = true) (rx : Rep X.K G m.n ι H a x) (ry : Rep X.K G m.n ι H b y) : eqV x y = eq1 a b := by
  cases rx <;> first | (cases ha; done) | (cases ry <;> first | (cases hb; done) | rfl)
theorem any_V {b : Val} {y : V} (hb : flat1 b = true) (ry : Rep X.K G m.n ι H b y) : ∀ {xs : List Val} {vs : List V}, xs.all flat1 = true → Reps X.K G m.n ι H xs vs → vs.all flatV = true ∧ (vs.any fun v => eqV v y) = xs.any fun x => eq1 x b
  | [], _, _, .nil => ⟨rfl, rfl⟩
  | x :: xs, _, h, .cons r rs => by
    rw [List.all_cons, Bool.and_eq_true] at h
    obtain ⟨i1, i2⟩ := any_V hb ry h.2 rs
    refine ⟨by rw [List.all_cons, flat1_V h.1 r, i1]; rfl, ?_⟩
    rw [List.any_cons, List.any_cons, eq1_V h.1 hb r ry, i2]
theorem key_V {a : Val} {k : Key} {x : V} (h : keyOf a = some k) (r : Rep X.K G m.n ι H a x) : x = kV k := by
  unfold keyOf at h
  split at h
  · cases h; cases r; rfl
  · cases h; cases r; rfl
  · cases h
theorem isSome_V {kvs : List (Key × Val)} {ys : List (Key × V)} {k : Key} (r : KReps X.K G m.n ι H kvs ys) : (valV ys k).isSome = (kget kvs k).isSome := by
  obtain ⟨g1, g2⟩ := r.get (k := k)
  cases q : kget kvs k with
  | none => rw [g2 q]; rfl
  | some z =>
    obtain ⟨w, hw, _⟩ := g1 z q
    rw [hw]
    rfl
/-- in and not in: c the answer of in -/
theorem pv_in {neg : Bool} {op : CmpOp} {a b : Val} {c : Bool} {x y : V} (ho : op = if neg then .NotIn else .In) (hu : X.A.units + 65 < cLine) (h : inV m a b = some c) (R : Rel X.K G m ι H) (rx : Rep X.K G m.n ι H a x) (ry : Rep X.K G m.n ι H b y)
    (P : Post X G m ι H m (.bl (if neg then !c else c)) Q) : OpV X (compareOp op) x y H Q := by
  unfold inV at h
  split at h
  · rename_i i
    split at h
    · rename_i kvs e
      split at h
      · rename_i k ek
        cases h
        obtain ⟨ys, hy, rk⟩ := R.dk e
        cases ry
        have ex := key_V ek rx
        subst ex
        have fin := P.same R (.bl _)
        rw [← isSome_V rk] at fin
        cases neg with
        | false =>
          subst ho
          refine ⟨fun x y H Q => ∃ p k kvs, x = kV k ∧ y = .ref p ∧ H p = some (.dK kvs) ∧ Q (.bl (valV kvs k).isSome) H, ?_, ι i, k, ys, rfl, rfl, hy, fin⟩
          intro pins s σ H x y v u Q I r1 r2 q
          obtain ⟨p, k, kvs, rfl, rfl, hp, q⟩ := q
          cases (show u = .ref p from r2)
          exact d_in (by omega) I (DGet.k hp) r1 fun s3 I3 => ⟨.bl _, H, I3, rfl, q⟩
        | true =>
          subst ho
          refine ⟨fun x y H Q => ∃ p k kvs, x = kV k ∧ y = .ref p ∧ H p = some (.dK kvs) ∧ Q (.bl (!(valV kvs k).isSome)) H, ?_, ι i, k, ys, rfl, rfl, hy, fin⟩
          intro pins s σ H x y v u Q I r1 r2 q
          obtain ⟨p, k, kvs, rfl, rfl, hp, q⟩ := q
          cases (show u = .ref p from r2)
          exact d_notIn (by omega) I (DGet.k hp) r1 fun s3 I3 => ⟨.bl _, H, I3, rfl, q⟩
      · cases h
    · split at h
      · rename_i d ds h1 h2
        split at h
        · rename_i hc
          cases h
          rw [Bool.and_eq_true] at hc
          have s1 := shaped_data (by decide) h1 hc.1
          have s2 : SeqAt.shaped (.list ds) = true := shaped_data (by decide) h2 (by simpa [PyData.canLay0] using hc.2)
          have p1 := dp_data R 8 a x d h1 rx
          have p2 := dp_data R 8 _ y _ h2 ry
          cases neg with
          | false => subst ho; exact ⟨_, op_inD hu, d, ds, p1, p2, s1, s2, P.same R (.bl _)⟩
          | true => subst ho; exact ⟨_, op_notInD hu, d, ds, p1, p2, s1, s2, P.same R (.bl _)⟩
        · cases h
      · cases h
  · rename_i ys
    split at h
    · rename_i hc
      cases h
      rw [Bool.and_eq_true] at hc
      cases ry with
      | @tup p _ vs hp rs =>
        obtain ⟨f1, f2⟩ := any_V hc.1 rx hc.2 rs
        have fin := P.same R (.bl _)
        rw [← f2] at fin
        cases neg with
        | false => subst ho; exact ⟨_, op_in_seq, p, vs, rfl, .inr hp.sq, flat1_V hc.1 rx, f1, fin⟩
        | true => subst ho; exact ⟨_, op_notIn_seq, p, vs, rfl, .inr hp.sq, flat1_V hc.1 rx, f1, fin⟩
    · cases h
  · cases h
end
end Mi

/-! More operations on values. -/
namespace Mi
open PySem L2 PySem.Spec PyProof.Rows

/-! ### a tuple turned about by a slice -/
section
variable {prog : Program} {w : World} {A : Around} {E : Value → Shared → Prop} {s : Shared}
theorem fm_congr {α β : Type} {f g : α → Option β} : ∀ {l : List α}, (∀ x ∈ l, f x = g x) → l.filterMap f = l.filterMap g
  | [], _ => rfl
  | x :: r, h => by rw [List.filterMap_cons, List.filterMap_cons, h x List.mem_cons_self, fm_congr fun y hy => h y (List.mem_cons_of_mem _ hy)]
theorem back_pick (xs : Array Value) : ((List.range xs.size).filterMap fun (m : Nat) => xs[(((xs.size : Int) - 1) + (m : Int) * (-1)).toNat]?).toArray = xs.toList.reverse.toArray := by
  have e : (List.range xs.size).filterMap (fun (m : Nat) => xs[(((xs.size : Int) - 1) + (m : Int) * (-1)).toNat]?) = ((List.range xs.size).map fun k => xs.size - 1 - k).filterMap (xs[·]?) := by
    rw [List.filterMap_map]
    refine fm_congr fun m hm => ?_
    have h1 := List.mem_range.mp hm
    show xs[(((xs.size : Int) - 1) + (m : Int) * (-1)).toNat]? = xs[xs.size - 1 - m]?
    rw [show (((xs.size : Int) - 1) + (m : Int) * (-1)).toNat = xs.size - 1 - m by omega]
  rw [e, PySem.W.krv_range, List.filterMap_reverse, PySem.W.krv_all]
theorem back_places (n : Nat) : Builtin.Slice.slicePlaces ((n : Int) - 1) (-1) (-1) = n := by
  unfold Builtin.Slice.slicePlaces
  rw [if_neg (by decide)]
  by_cases h : (n : Int) - 1 > -1
  · rw [if_pos h, show (- -1 : Int) = 1 by decide, Int.ediv_one]
    omega
  · rw [if_neg h]
    omega
theorem tuple_back {t sl : Addr} {items : Array Value} {tk : Tok} {Q : Value → Shared → Prop} (ht : IsTup s.heap t items) (hs : s.heap.IsSliceOf sl .none .none (.int (-1) tk))
    (h : Q (.ref s.heap.objs.size) { s with heap := s.heap.push { cls := .type "tuple", data := .seq items.toList.reverse.toArray } }) (hsz : items.size ≤ sizeLine) : wpAny (model prog w) A (getItem (.ref t) (.ref sl)) Q E s := by
  have htake : sizeOk (.seq items.toList.reverse.toArray) := by
    show items.toList.reverse.toArray.size ≤ sizeLine
    simpa using hsz
  obtain ⟨os, hos, hcs, hds⟩ := id hs
  have hTs : s.TypeIs (.ref sl) "slice" := ⟨os, hos, hcs⟩
  have app : ∀ {B : Around} {Q : Int × Int × Nat → Shared → Prop}, Q ((items.size : Int) - 1, -1, items.size) s → wpAny (model prog w) B (Builtin.Slice.sliceApplied (.ref sl) (pure (items.size : Int))) Q E s := fun {B Q} hq => by
    unfold Builtin.Slice.sliceApplied Builtin.Slice.sliceFields
    refine wpAny_bind (wpAny_bind (wpAny_field hos hds (x := .none) rfl (wpAny_bind (wpAny_field hos hds (x := .none) rfl (wpAny_bind (wpAny_field hos hds (x := .int (-1) tk) rfl (wpAny_pure ?_)))))))
    refine wpAny_bind (HT.slicePart_ (o := some (-1)) (.int _ _) ?_)
    show wpAny _ _ (if ((-1 : Int) == 0) = true then _ else _) _ _ s
    rw [if_neg (by decide)]
    refine wpAny_bind (HT.slicePart_ .none (wpAny_bind (HT.slicePart_ .none (wpAny_bind (wpAny_pure ?_)))))
    show wpAny _ _ (pure ((items.size : Int) - 1, (-1 : Int), Builtin.Slice.slicePlaces ((items.size : Int) - 1) (-1) (-1))) _ _ s
    rw [back_places]
    exact wpAny_pure hq
  unfold getItem
  try with_reducible refine wpAny_holding ?_
  first | refine wpAny_bind (wpAny_pure ?_) | skip
  refine wpAny_bind (wpAny_sequenceKey ht.typeIs (by decide) ?_)
  refine wpAny_bind (wpAny_callSpecial?_slot (name := Str.ofString "__getitem__") ht.typeIs PyProof.Rows.slot_tuple_getitem
    (wpAny_call_entry PyProof.Rows.slot_tuple_getitem ht.typeIs entry_tuple_getitem ?_ (args_tuple_getitem _ _)))
  show wpAny _ _ (Builtin.Tuple.tupleItemsOf (.ref t) >>= _) _ _ s
  refine wpAny_bind (tupleItemsOf_ ht ?_)
  refine wpAny_bind (wpAny_typeOf hTs ?_)
  rw [if_pos (by decide)]
  refine wpAny_bind (app ?_)
  have hno : ¬ ((((items.size : Int) - 1) == 0 && (-1 : Int) == 1 && items.size == items.size) = true) := by simp
  show wpAny _ _ (if (((items.size : Int) - 1) == 0 && (-1 : Int) == 1 && items.size == items.size) = true then _ else _) _ _ s
  rw [if_neg hno, back_pick]
  first
    | exact wpAny_bind (m := Builtin.Tuple.tupleExact _) (wpAny_newObj_type (wpAny_pure ⟨_, rfl, wpAny_pure h⟩) htake)
    | exact wpAny_bind (m := Builtin.Tuple.tupleExact _) (wpAny_newObj_type (wpAny_bind (wpAny_pure (wpAny_pure ⟨_, rfl, wpAny_pure h⟩))) htake)
    | exact wpAny_bind (wpAny_bind (m := Builtin.Tuple.tupleExact _) (wpAny_newObj_type (wpAny_pure (wpAny_pure ⟨_, rfl, wpAny_pure h⟩)) htake))
    | exact wpAny_bind (wpAny_bind (m := Builtin.Tuple.tupleExact _) (wpAny_newObj_type (wpAny_pure ⟨_, rfl, wpAny_pure h⟩) htake))
end

section
variable {X : Cx} {G : Nat → Addr} {m m' : Mem} {ι : Nat → Addr} {H : Hp} {Q : VK} {σ : L2.St} {e : Expr} {pos p2 : Pos}

/-! ### displays -/
theorem wE_tup {es : List Expr} {k : Nat} (h : wAs X es σ H fun ys H1 => ys.length ≤ sizeLine ∧ ∀ p ob, H1 p = none → ob.dict = none → Q (.ref p) (upd H1 p (.frz ob (.tup ys)))) : wE X (.Tuple es k pos) σ H Q := fun pins s I => by
  refine wpAny_Tuple_spliced (thn (pas_w.run pos pins s σ H _ I h) fun us s1 ⟨ys, H1, I1, r, z, q⟩ => ⟨by rw [← r.length]; exact z, ?_⟩)
  exact ⟨.ref s1.heap.objs.size, _, tup_new I1 r z, rfl, q _ _ (I1.hok.fresh (Nat.le_refl _)) rfl⟩

/-! ### slices of tuples -/
def rSlP (X : Cx) : V → Option Int → Option Int → Hp → VK → Prop := fun x lo hi H Q => ∃ a xs, x = .ref a ∧ PlT X.K H a xs ∧ (cut xs lo hi = xs → Q (.ref a) H) ∧ ∀ p ob, H p = none → ob.dict = none → Q (.ref p) (upd H p (.frz ob (.tup (cut xs lo hi))))
theorem sl_P : SlR X (rSlP X) := by
  intro pins s σ H x v vl vu lo hi sl Q I rx hs pl pu h
  obtain ⟨a, xs, rfl, hx, q1, q2⟩ := h
  cases rx
  obtain ⟨its, r, ht, hz⟩ := I.tuple hx.sq
  have hlen : its.toArray.size = xs.length := by rw [List.size_toArray]; exact r.length.symm
  refine ⟨"tuple", _, PyProof.Rows.slot_tuple_getitem.lookup, ht.typeIs, ?_⟩
  by_cases hw : HT.sIx xs.length 0 lo = 0 ∧ HT.sIx xs.length xs.length hi = xs.length
  · refine getItem_tuple_whole ht hs pl pu (by rw [hlen]; exact hw) ⟨.ref a, H, I, rfl, q1 ?_⟩
    unfold cut
    rw [hw.1, hw.2]
    simp
  · refine HT.getItem_tuple_cut ht hs pl pu (by rw [hlen]; exact hw) ?_ (by rw [hlen]; exact hz)
    rw [hlen]
    have rc : Vals (cut xs lo hi) ((its.drop (HT.sIx xs.length 0 lo)).take (HT.sIx xs.length xs.length hi - HT.sIx xs.length 0 lo)) := (r.drop _).take _
    have hc : (cut xs lo hi).length ≤ sizeLine := by
      unfold cut
      rw [List.length_take, List.length_drop]
      omega
    exact ⟨.ref s.heap.objs.size, _, tup_new I rc hc, rfl, q2 _ _ (I.hok.fresh (Nat.le_refl _)) rfl⟩
theorem Reps.cut {n : Nat} {K : PySem.W.Frag} {xs : List Val} {ys : List V} (r : Reps K G n ι H xs ys) (lo hi : Option Int) : Reps K G n ι H (cut xs lo hi) (Mi.cut ys lo hi) := by
  unfold Mi.cut
  rw [r.length]
  exact (r.drop _).take _
theorem reps_inj_len {n : Nat} {K : PySem.W.Frag} {xs : List Val} {ys : List V} (r : Reps K G n ι H xs ys) {lo hi : Option Int} (h : Mi.cut ys lo hi = ys) : Mi.cut xs lo hi = xs := by
  have e := congrArg List.length h
  have l := r.length
  unfold Mi.cut at e ⊢
  rw [List.length_take, List.length_drop, ← l] at e
  have b1 := HT.sIx_le xs.length 0 (Nat.zero_le _) lo
  have b2 := HT.sIx_le xs.length xs.length (Nat.le_refl _) hi
  by_cases z : xs.length = 0
  · have : xs = [] := List.eq_nil_of_length_eq_zero z
    subst this
    simp
  · have h1 : HT.sIx xs.length 0 lo = 0 := by omega
    have h2 : HT.sIx xs.length xs.length hi = xs.length := by omega
    rw [h1, h2]
    simp
/-- a slice of a tuple of ours -/
theorem pv_cut {xs : List Val} {x : V} {lo hi : Option Int} (rx : Rep X.K G m.n ι H (.tup xs) x) (R : Rel X.K G m ι H) (P : Post X G m ι H m (.tup (cut xs lo hi)) Q) : rSlP X x lo hi H Q := by
  cases rx with
  | @tup a _ ys hp rs =>
    refine ⟨a, ys, rfl, hp, fun z => ?_, fun p ob h0 hd => P.tup R (rs.cut lo hi) h0 hd⟩
    rw [reps_inj_len rs z] at P
    exact P.same R (.tup hp rs)
/-- a[::-1] -/
theorem wE_rev {st : Expr} (h : wE X e σ H fun x H1 => wE X st σ H1 fun y H2 => y = .int (-1) ∧ ∃ a xs, x = .ref a ∧ PlT X.K H2 a xs ∧ ∀ p ob, H2 p = none → ob.dict = none → Q (.ref p) (upd H2 p (.frz ob (.tup xs.reverse)))) :
    wE X (.Subscript e (.Slice none none (some st) p2) pos) σ H Q := fun pins s I => by
  refine Subscript_ (thn (h pins s I) fun v s1 ⟨x, H1, I1, r1, q1⟩ => ?_)
  refine wpAny_Slice ?_
  rw [evalPart_none]
  refine wpAny_pure ?_
  refine wpAny_pure ?_
  rw [evalPart_some]
  refine thn (q1 pins s1 I1) fun u s2 ⟨y, H2, I2, r2, ey, a, xs, ex, hx, q⟩ => ?_
  subst ey ex
  obtain ⟨tk, rfl⟩ := (show ∃ t, u = Value.int (-1) t from r2)
  cases (show v = Value.ref a from r1)
  obtain ⟨its, r, ht, hz⟩ := I2.tuple hx.sq
  have hs : (s2.heap.push { cls := .type "slice", data := .fields #[.none, .none, .int (-1) tk] }).IsSliceOf s2.heap.objs.size .none .none (.int (-1) tk) := Heap.IsSliceOf.new ..
  have I3 : Inv X pins σ H2 { s2 with heap := s2.heap.push { cls := .type "slice", data := .fields #[.none, .none, .int (-1) tk] } } := I2.kept (t' := s2.toks) fun b ob q => Heap.get?_push_of_some _ q
  have ht3 : IsTup (s2.heap.push { cls := .type "slice", data := .fields #[.none, .none, .int (-1) tk] }) a its.toArray := by
    obtain ⟨o, ho, r⟩ := ht
    exact ⟨o, Heap.get?_push_of_some _ ho, r⟩
  have rr : Vals xs.reverse its.toArray.toList.reverse := by
    have : ∀ {xs : List V} {us : List Value}, Vals xs us → Vals xs.reverse us.reverse := fun {xs us} r => by
      induction r with
      | nil => exact .nil
      | cons a _ ih =>
        rw [List.reverse_cons, List.reverse_cons]
        exact ih.append (.cons a .nil)
    exact this r
  refine tail_any (ops := [.ref a, .ref s2.heap.objs.size]) ht3.typeIs PyProof.Rows.slot_tuple_getitem.lookup (tuple_back ht3 hs ?_ (by rw [List.size_toArray, ← r.length]; exact hz)) (by with_unfolding_all rfl)
  have I4 := tup_new I3 rr (by rw [List.length_reverse]; exact hz)
  exact ⟨.ref _, _, I4, rfl, q _ _ (I3.hok.fresh (Nat.le_refl _)) rfl⟩
end
end Mi

/-! Calls of built-ins and methods by values. -/
namespace Mi
open PySem L2 PySem.Spec PyProof.Rows

section
variable {X : Cx} {G : Nat → Addr} {m m' : Mem} {ι : Nat → Addr} {H : Hp} {Q : VK}

theorem pv_len {a : Val} {n : Nat} {x : V} (h : lenV m a = some n) (R : Rel X.K G m ι H) (rx : Rep X.K G m.n ι H a x) (P : Post X G m ι H m (.int (Int.ofNat n)) Q) : CallV X (.builtin "len") [x] H Q := by
  have fin := P.same R (.int _)
  unfold lenV at h
  split at h
  · cases h
    cases rx with
    | @tup p _ ys hp rs => exact ⟨_, call_len, _, ys.length, rfl, .inr ⟨ys, hp.sq, rfl⟩, by rw [← rs.length]; exact fin⟩
  · rename_i i
    cases rx
    split at h
    · rename_i xs e
      cases h
      obtain ⟨ys, hy, rs⟩ := R.lst e
      exact ⟨_, call_len, _, ys.length, rfl, .inl ⟨ys, SqL.of hy, rfl⟩, by rw [← rs.length]; exact fin⟩
    · rename_i xs e
      cases h
      obtain ⟨ys, hy, rs⟩ := R.rol e
      exact ⟨_, call_len, _, ys.length, rfl, .inl ⟨ys, hy.sq, rfl⟩, by rw [← rs.length]; exact fin⟩
    · rename_i xs e
      cases h
      obtain ⟨ys, hy, rs⟩ := R.dk e
      exact ⟨_, call_lenD, ι i, ys, rfl, hy, by rw [← rs.length]; exact fin⟩
    · cases h
  · cases h
theorem bools_V : ∀ {xs : List Val} {ys : List V} {bs : List Bool}, boolsOf xs = some bs → Reps X.K G m.n ι H xs ys → ys = bs.map V.bl
  | [], _, _, h, .nil => by cases h; rfl
  | x :: xs, _, bs, h, .cons r rs => by
    cases x <;> first | (simp only [boolsOf] at h; cases h; done) | skip
    rename_i b
    simp only [boolsOf] at h
    cases e : boolsOf xs with
    | none => rw [e] at h; cases h
    | some cs =>
      rw [e] at h
      cases h
      cases r
      rw [bools_V e rs]
      rfl
theorem pv_all {a : Nat} {xs : List Val} {bs : List Bool} {x : V} (hc : X.calm = true) (h : m.get a = some (.lst xs)) (hb : boolsOf xs = some bs) (R : Rel X.K G m ι H) (rx : Rep X.K G m.n ι H (.ref a) x) (P : Post X G m ι H m (.bl (bs.all id)) Q) : CallV X (.builtin "all") [x] H Q := by
  cases rx
  obtain ⟨ys, hy, rs⟩ := R.lst h
  have e := bools_V hb rs
  subst e
  exact ⟨_, cr_all hc, ι a, bs, rfl, SqL.of hy, P.same R (.bl _)⟩
theorem pv_any {a : Nat} {xs : List Val} {bs : List Bool} {x : V} (hc : X.calm = true) (h : m.get a = some (.lst xs)) (hb : boolsOf xs = some bs) (R : Rel X.K G m ι H) (rx : Rep X.K G m.n ι H (.ref a) x) (P : Post X G m ι H m (.bl (bs.any id)) Q) : CallV X (.builtin "any") [x] H Q := by
  cases rx
  obtain ⟨ys, hy, rs⟩ := R.lst h
  have e := bools_V hb rs
  subst e
  exact ⟨_, cr_any hc, ι a, bs, rfl, SqL.of hy, P.same R (.bl _)⟩
/-- divmod: the tuple has no dict -/
theorem call_divmodF : CallR X (.builtin "divmod") (fun xs H Q => ∃ i j, xs = [.int i, .int j] ∧ CDiv i j ∧ ∀ p ob, H p = none → ob.dict = none → Q (.ref p) (upd H p (.frz ob (.tup [.int (i / j), .int (i % j)])))) := by
  intro pins s σ H xs us Q I r h
  obtain ⟨i, j, rfl, ⟨h1, h2⟩, q⟩ := h
  obtain ⟨u, w', rfl, ⟨t, rfl⟩, ⟨t', rfl⟩⟩ := vals2 r
  refine divmod_int (by omega) ?_ (.inl (PyProof.noPylong_small (by omega)))
  rw [Int.fdiv_eq_ediv_of_nonneg i (by omega), Int.fmod_eq_emod_of_nonneg i (by omega)]
  have rv : Vals [V.int (i / j), V.int (i % j)] [Value.int (i / j) s.toks, Value.int (i % j) (s.toks + 1)] := .cons ⟨_, rfl⟩ (.cons ⟨_, rfl⟩ .nil)
  have I2 := tup_new_tok (s.toks + 2) I rv (by rw [sizeLine_eq]; show 2 ≤ 16777216; decide)
  exact ⟨.ref s.heap.objs.size, _, I2, rfl, q _ _ (I.hok.fresh (Nat.le_refl _)) rfl⟩
theorem pv_divmod {i j : Int} {x y : V} (h1 : 0 < j) (h2 : j < 1073741824) (R : Rel X.K G m ι H) (rx : Rep X.K G m.n ι H (.int i) x) (ry : Rep X.K G m.n ι H (.int j) y) (P : Post X G m ι H m (.tup [.int (i / j), .int (i % j)]) Q) : CallV X (.builtin "divmod") [x, y] H Q := by
  cases rx
  cases ry
  exact ⟨_, call_divmodF, i, j, rfl, ⟨h1, h2⟩, fun p ob h0 hd => P.tup R (.cons (.int _) (.cons (.int _) .nil)) h0 hd⟩
/-- tuple(xs) -/
theorem call_tupleF : CallR X (.type "tuple") (fun xs H Q => ∃ p ys, xs = [.ref p] ∧ ((SqL X.K H p ys ∧ ∀ l ob, H l = none → ob.dict = none → Q (.ref l) (upd H l (.frz ob (.tup ys)))) ∨ (PlT X.K H p ys ∧ Q (.ref p) H))) := by
  intro pins s σ H xs us Q I r h
  obtain ⟨p, ys, rfl, h⟩ := h
  obtain ⟨u, rfl, rx⟩ := vals1 r
  cases rx
  rcases h with ⟨hq, q⟩ | ⟨hq, q⟩
  · obtain ⟨its, r', pl, hz⟩ := I.list hq
    refine call_tuple_list pl.isList (fun h' kp => ?_) (by rw [List.size_toArray, ← r'.length]; exact hz)
    have I1 : Inv X pins σ H { s with heap := h' } := I.kept (t' := s.toks) kp
    exact ⟨.ref h'.objs.size, _, tup_new I1 r' hz, rfl, q _ _ (I1.hok.fresh (Nat.le_refl _)) rfl⟩
  · obtain ⟨its, r', pl, hz⟩ := I.tuple hq.sq
    exact call_tuple_same pl ⟨.ref p, H, I, rfl, q⟩
theorem seq_V {a : Val} {xs : List Val} {x : V} (h : seqOf m a = some xs) (R : Rel X.K G m ι H) (rx : Rep X.K G m.n ι H a x) : ∃ p ys, x = .ref p ∧ Reps X.K G m.n ι H xs ys ∧ ((SqL X.K H p ys ∧ ∀ zs, a ≠ .tup zs) ∨ (PlT X.K H p ys ∧ a = .tup xs)) := by
  unfold seqOf at h
  split at h
  · cases h
    cases rx with
    | @tup p _ ys hp rs => exact ⟨p, ys, rfl, rs, .inr ⟨hp, rfl⟩⟩
  · rename_i i
    cases rx
    split at h
    · rename_i zs e
      cases h
      obtain ⟨ys, hy, rs⟩ := R.lst e
      exact ⟨_, ys, rfl, rs, .inl ⟨SqL.of hy, fun _ z => by cases z⟩⟩
    · rename_i zs e
      cases h
      obtain ⟨ys, hy, rs⟩ := R.rol e
      exact ⟨_, ys, rfl, rs, .inl ⟨hy.sq, fun _ z => by cases z⟩⟩
    · cases h
  · cases h
theorem pv_tuple {a : Val} {xs : List Val} {x : V} (h : seqOf m a = some xs) (R : Rel X.K G m ι H) (rx : Rep X.K G m.n ι H a x) (P : Post X G m ι H m (.tup xs) Q) : CallV X (.type "tuple") [x] H Q := by
  obtain ⟨p, ys, rfl, rs, q⟩ := seq_V h R rx
  rcases q with ⟨hs, _⟩ | ⟨hp, e⟩
  · exact ⟨_, call_tupleF, p, ys, rfl, .inl ⟨hs, fun l ob h0 hd => P.tup R rs h0 hd⟩⟩
  · exact ⟨_, call_tupleF, p, ys, rfl, .inr ⟨hp, P.same R (.tup hp rs)⟩⟩
theorem pv_list {a : Val} {xs : List Val} {x : V} (h : seqOf m a = some xs) (R : Rel X.K G m ι H) (rx : Rep X.K G m.n ι H a x) (P : Post X G m ι H (m.new (.lst xs)) (.ref m.n) Q) : CallV X (.type "list") [x] H Q := by
  obtain ⟨p, ys, rfl, rs, q⟩ := seq_V h R rx
  refine ⟨_, call_list_of, p, ys, rfl, ?_, fun l h0 => P.lst R rs h0⟩
  rcases q with ⟨hs, _⟩ | ⟨hp, e⟩
  · exact .inl hs
  · exact .inr hp.sq

/-! ### isinstance -/
theorem kit_kinds (K : PySem.W.Frag) (k t : Kind) : PySem.W.kitOne K (.type k.name) (.type t.name) = some (isKind k t) := by
  cases k <;> cases t <;> kernel_rfl
end
end Mi

/-! Calls of built-ins and methods by values, more. -/
namespace Mi
open PySem L2 PySem.Spec PyProof.Rows

section
variable {X : Cx} {G : Nat → Addr} {m m' : Mem} {ι : Nat → Addr} {H : Hp} {Q : VK}
theorem kind_V {a : Val} {k : Kind} {x : V} (h : kindOf m a = some k) (R : Rel X.K G m ι H) (rx : Rep X.K G m.n ι H a x) : TyX X.K H x (.type k.name) := by
  unfold kindOf at h
  split at h
  · cases h; cases rx; exact .base .non
  · cases h; cases rx; exact .base (.bl _)
  · cases h; cases rx; exact .base (.int _)
  · cases h; cases rx; exact .base (.str _)
  · cases h; cases rx; exact .base (.str _)
  · cases h
    cases rx with
    | @tup p _ ys hp rs =>
      rcases hp with ⟨o, h, _⟩ | ⟨o, its, n, h1, h2, _⟩
      · exact .fTuple h
      · exact .kTuple h1 h2
  · rename_i i
    cases rx
    split at h
    · rename_i xs e
      cases h
      obtain ⟨ys, hy, _⟩ := R.lst e
      exact .base (.lst hy)
    · rename_i xs e
      cases h
      obtain ⟨ys, hy, _⟩ := R.rol e
      rcases hy with ⟨o, h⟩ | ⟨o, its, n, h1, h2, _⟩
      · exact .base (.frz h)
      · exact .kList h1 h2
    · rename_i xs e
      cases h
      obtain ⟨ys, hy, _⟩ := R.dk e
      exact .base (.dK hy)
    · cases h
  · cases h
theorem pv_isinst {a : Val} {k t : Kind} {x : V} (h : kindOf m a = some k) (R : Rel X.K G m ι H) (rx : Rep X.K G m.n ι H a x) (P : Post X G m ι H m (.bl (isKind k t)) Q) : CallV X (.builtin "isinstance") [x, .ty t.name] H Q := by
  have ty := kind_V h R rx
  exact ⟨_, call_isi, x, .ty t.name, .type k.name, .type t.name, _, rfl, .ty _, ty, kit_kinds X.K k t, P.same R (.bl _)⟩

/-! ### numbers -/
theorem pv_abs {i : Int} {x : V} (R : Rel X.K G m ι H) (rx : Rep X.K G m.n ι H (.int i) x) (P : Post X G m ι H m (.int (if i < 0 then -i else i)) Q) : CallV X (.builtin "abs") [x] H Q := by
  cases rx
  exact ⟨_, call_abs, i, rfl, P.same R (.int _)⟩
theorem pv_int {i : Int} {x : V} (R : Rel X.K G m ι H) (rx : Rep X.K G m.n ι H (.int i) x) (P : Post X G m ι H m (.int i) Q) : CallV X (.type "int") [x] H Q := by
  cases rx
  exact ⟨_, call_int1, .inl ⟨i, rfl, P.same R (.int _)⟩⟩
theorem pv_max2 {i j : Int} {x y : V} (hc : X.calm = true) (R : Rel X.K G m ι H) (rx : Rep X.K G m.n ι H (.int i) x) (ry : Rep X.K G m.n ι H (.int j) y) (P : Post X G m ι H m (.int (if j > i then j else i)) Q) : CallV X (.builtin "max") [x, y] H Q := by
  cases rx
  cases ry
  exact ⟨_, call_max2 hc, i, j, rfl, P.same R (.int _)⟩
theorem pv_min2 {i j : Int} {x y : V} (hc : X.calm = true) (R : Rel X.K G m ι H) (rx : Rep X.K G m.n ι H (.int i) x) (ry : Rep X.K G m.n ι H (.int j) y) (P : Post X G m ι H m (.int (if j < i then j else i)) Q) : CallV X (.builtin "min") [x, y] H Q := by
  cases rx
  cases ry
  exact ⟨_, call_min2 hc, i, j, rfl, P.same R (.int _)⟩

/-! ### repr -/
mutual
theorem nodict_data {hh : List (Nat × HObj)} : ∀ (n : Nat) (v : Val) (d : PyData), dataF hh n v = some d → d.hasDict = false
  | 0, v, d, h => by
    unfold dataF at h
    cases v <;> simp only at h <;> cases h <;> simp [PyData.hasDict]
  | n + 1, v, d, h => by
    unfold dataF at h
    have tu : ∀ (xs : List Val) (c : List PyData → PyData), (∀ ds, (c ds).hasDict = PyData.hasDictAll ds) → (mapO (dataF hh n) xs).map c = some d → d.hasDict = false := fun xs c hc e => by
      cases q : mapO (dataF hh n) xs with
      | none => rw [q] at e; cases e
      | some ds =>
        rw [q] at e
        cases e
        rw [hc]
        exact nodict_all n xs ds q
    cases v with
    | tup xs => exact tu xs .tuple (fun _ => by simp [PyData.hasDict]) h
    | ref a =>
      simp only at h
      split at h
      · exact tu _ .list (fun _ => by simp [PyData.hasDict]) h
      · exact tu _ .list (fun _ => by simp [PyData.hasDict]) h
      · cases h
    | _ => simp only at h <;> cases h <;> simp [PyData.hasDict]
theorem nodict_all {hh : List (Nat × HObj)} : ∀ (n : Nat) (xs : List Val) (ds : List PyData), mapO (dataF hh n) xs = some ds → PyData.hasDictAll ds = false
  | _, [], _, h => by
    cases h
    simp [PyData.hasDictAll]
  | n, x :: xs, _, h => by
    unfold mapO at h
    split at h
    · rename_i d e
      split at h
      · rename_i ds e2
        cases h
        simp only [PyData.hasDictAll, nodict_data n x d e, nodict_all n xs ds e2, Bool.or_false]
      · cases h
    · cases h
end
def rRepr (X : Cx) : List V → Hp → VK → Prop := fun xs H Q => ∃ x d, xs = [x] ∧ Dp X.K H x d ∧ d.showable = true ∧ d.shown.length ≤ sizeLine ∧ d.hasDict = false ∧ d.depth ≤ 8 ∧ Q (.str d.shown) H
theorem call_reprD {k : Nat} (hg : X.A.guards = some []) (hr : Room k X.A) : CallR X (.builtin "repr") (rRepr X) := by
  intro pins s σ H xs us Q I r h
  obtain ⟨x, d, rfl, hd, h1, h2, h3, h5, q⟩ := h
  obtain ⟨u, rfl, rx⟩ := vals1 r
  have hu := hr.units
  have big : ∀ a, x = .ref a → wpAny (model X.prog X.w) X.A (call (.builtin "repr") [.ref a]) (EP X pins σ Q) X.xe s := fun a e => by
    subst e
    obtain ⟨as, rd⟩ := Dp.reads I d _ _ hd (show RelV (.ref a) (.ref a) from rfl)
    exact repr_of_reads' rd h1 (fun z => by rw [h3] at z; cases z) hg (by omega) (fun _ _ e => e) (fun h' u tk hk => ⟨.str _, H, I.kept (t' := tk) hk, ⟨u, rfl⟩, q⟩) h2
  cases hd with
  | non =>
    cases rx
    exact P.repr_of_none ⟨.str _, H, I.tok _, ⟨_, rfl⟩, q⟩
  | bl b =>
    cases rx
    exact P.repr_of_bool ⟨.str _, H, I.tok _, ⟨_, rfl⟩, by simpa [PyData.shown] using q⟩
  | int i =>
    obtain ⟨t, rfl⟩ := rx
    exact P.repr_of_int (by simpa [PyData.showable] using h1) ⟨.str _, H, I.tok _, ⟨_, rfl⟩, by simpa [PyData.shown] using q⟩
  | str z =>
    obtain ⟨t, rfl⟩ := rx
    exact P.repr_of_str ⟨.str _, H, I.tok _, ⟨_, rfl⟩, by simpa [PyData.shown] using q⟩ (by simpa [PyData.shown] using h2)
  | lst hs hd =>
    cases rx
    exact big _ rfl
  | tup hs hd =>
    cases rx
    exact big _ rfl
theorem pv_repr {k : Nat} {a : Val} {d : PyData} {x : V} (hg : X.A.guards = some []) (hr : Room k X.A) (h : m.data a = some d) (hs : d.showable = true) (hl : d.shown.length ≤ sizeLine) (R : Rel X.K G m ι H) (rx : Rep X.K G m.n ι H a x)
    (P : Post X G m ι H m (.rep d) Q) : CallV X (.builtin "repr") [x] H Q :=
  ⟨_, call_reprD hg hr, x, d, rfl, dp_data R 8 a x d h rx, hs, hl, nodict_data 8 a d h, depth_data m.h 8 a d h, P.same R (.rep _)⟩

/-! ### items -/
theorem Reps.len_eq {n : Nat} {K : PySem.W.Frag} {xs : List Val} {ys : List V} (r : Reps K G n ι H xs ys) : ys.length = xs.length := r.length.symm
theorem Reps.atI {n : Nat} {K : PySem.W.Frag} {xs : List Val} {ys : List V} {i : Int} {v : Val} (r : Reps K G n ι H xs ys) (h : L2.atI xs i = some v) : ∃ y, L2.atI ys i = some y ∧ Rep K G n ι H v y := by
  unfold L2.atI at h ⊢
  rw [← r.length]
  cases e : ixN xs.length i with
  | none => rw [e] at h; cases h
  | some j =>
    rw [e] at h
    exact r.get h
theorem pv_item {k : Nat} {a b v : Val} {x y : V} (hr : Room k X.A) (h : itemV m a b = some v) (R : Rel X.K G m ι H) (rx : Rep X.K G m.n ι H a x) (ry : Rep X.K G m.n ι H b y) (P : Post X G m ι H m v Q) : IxV X x y H Q := by
  have hu := hr.units
  unfold itemV at h
  split at h
  · rename_i xs i
    cases ry
    cases rx with
    | @tup p _ ys hp rs =>
      obtain ⟨z, e, rz⟩ := rs.atI h
      exact IxV.of ix_tup ⟨p, ys, i, z, rfl, rfl, hp.sq, e, P.same R rz⟩
  · rename_i j
    cases rx
    have lst : ∀ xs, lstAt m j = some xs → ∀ i, b = .int i → atI xs i = some v → IxV X (.ref (ι j)) y H Q := fun xs e i eb hv => by
      obtain ⟨ys, hs, rs⟩ := R.sql e
      subst eb
      cases ry
      obtain ⟨z, e, rz⟩ := rs.atI hv
      exact IxV.of ix_list ⟨_, ys, i, z, rfl, rfl, hs, e, P.same R rz⟩
    split at h
    · rename_i xs e
      split at h
      · exact lst xs (by unfold lstAt; rw [e]) _ rfl h
      · cases h
    · rename_i xs e
      split at h
      · exact lst xs (by unfold lstAt; rw [e]) _ rfl h
      · cases h
    · rename_i kvs e
      split at h
      · rename_i key ek
        obtain ⟨ys, hy, rk⟩ := R.dk e
        have ey := key_V ek ry
        subst ey
        obtain ⟨z, hz, rz⟩ := rk.get.1 v h
        have fin := P.same R rz
        intro value slice pins s σ v u I r1 r2 hs
        cases (show v = .ref (ι j) from r1)
        have g : DGet H (ι j) (kV key) (some z) := by
          rw [← hz]
          exact DGet.k hy
        exact tail_any (dict_typeIs I g) PySem.F.slot_dict_getitem.lookup (d_getItem (by omega) I g r2 fun w' s3 I3 rw' => ⟨z, H, I3, rw', fin⟩) hs
      · cases h
    · cases h
  · cases h
end
end Mi

/-! Methods of built-in types by values. -/
namespace Mi
open PySem L2 PySem.Spec PyProof.Rows

/-- the method's name and its built-in, by the kind of its object -/
def methId : Prim → Option (Str × String)
  | .append => some ("append", "list.append")
  | .extend => some ("extend", "list.extend")
  | .popAt => some ("pop", "list.pop")
  | .pop => some ("pop", "list.pop")
  | .count => some ("count", "tuple.count")
  | .index => some ("index", "tuple.index")
  | .index2 => some ("index", "tuple.index")
  | .setdefault => some ("setdefault", "dict.setdefault")
  | _ => none
theorem meth_ok {p : Prim} {k : Kind} {nm : Str} {id : String} (h : methOk p k = true) (hi : methId p = some (nm, id)) : MethT k.name nm id := by
  cases p <;> cases k <;> first | (cases h; done) | (cases hi; done) | (cases hi; first
    | exact ⟨PySem.F.plainAttrs_list, PySem.F.slot_list_append, PySem.F.type_list_append⟩
    | exact ⟨PySem.F.plainAttrs_list, PySem.F.slot_list_extend, PySem.F.type_list_extend⟩
    | exact ⟨PySem.F.plainAttrs_list, PySem.F.slot_list_pop, PySem.F.type_list_pop⟩
    | exact ⟨PySem.F.plainAttrs_tuple, PySem.F.slot_tuple_count, PySem.F.type_tuple_count⟩
    | exact ⟨PySem.F.plainAttrs_tuple, PySem.F.slot_tuple_index, PySem.F.type_tuple_index⟩
    | exact ⟨PySem.F.plainAttrs_dict, PySem.F.slot_dict_setdefault, PySem.F.type_dict_setdefault⟩)

section
variable {X : Cx} {G : Nat → Addr} {m m' : Mem} {ι : Nat → Addr} {H : Hp} {Q : VK}
theorem kind_tyM {a : Val} {k : Kind} {x : V} (hk : k = .list ∨ k = .tuple ∨ k = .dict ∨ k = .str) (h : kindOf m a = some k) (R : Rel X.K G m ι H) (rx : Rep X.K G m.n ι H a x) : TyM X k.name x H := by
  unfold kindOf at h
  split at h
  · cases h; simp at hk
  · cases h; simp at hk
  · cases h; simp at hk
  · cases h; cases rx; exact TyM.of rfl
  · cases h; cases rx; exact TyM.of rfl
  · cases h
    cases rx with
    | @tup p _ ys hp rs => exact TyM.tup hp
  · rename_i i
    cases rx
    split at h
    · rename_i xs e
      cases h
      obtain ⟨ys, hy, _⟩ := R.lst e
      exact TyM.of (.inl ⟨rfl, ys, SqL.of hy⟩)
    · rename_i xs e
      cases h
      obtain ⟨ys, hy, _⟩ := R.rol e
      exact TyM.of (.inl ⟨rfl, ys, hy.sq⟩)
    · rename_i xs e
      cases h
      obtain ⟨ys, hy, _⟩ := R.dk e
      exact TyM.of (.inr (.inr (.inl ⟨rfl, .inl ⟨ys, hy⟩⟩)))
    · cases h
  · cases h

theorem pm_append {a : Nat} {xs : List Val} {v : Val} {x y : V} (h : m.get a = some (.lst xs)) (hs : small xs = true) (R : Rel X.K G m ι H) (rx : Rep X.K G m.n ι H (.ref a) x) (ry : Rep X.K G m.n ι H v y)
    (P : Post X G m ι H (m.put a (.lst (xs ++ [v]))) .non Q) : MtV X "list.append" x [y] H Q := by
  cases rx
  obtain ⟨ys, hy, rs⟩ := R.lst h
  exact MtV.of mt_append ⟨ι a, ys, y, rfl, rfl, hy, by rw [← rs.length]; exact small_lt hs, P.wr R h hy (rs.snoc ry) .non⟩
theorem pm_extend {a b : Nat} {xs zs : List Val} {x y : V} (h : m.get a = some (.lst xs)) (h' : m.get b = some (.lst zs)) (hs : small xs = true) (hs' : small zs = true) (R : Rel X.K G m ι H) (rx : Rep X.K G m.n ι H (.ref a) x) (ry : Rep X.K G m.n ι H (.ref b) y)
    (P : Post X G m ι H (m.put a (.lst (xs ++ zs))) .non Q) : MtV X "list.extend" x [y] H Q := by
  cases rx
  cases ry
  obtain ⟨ys, hy, rs⟩ := R.lst h
  obtain ⟨ws, hw, rs'⟩ := R.lst h'
  exact MtV.of mt_extend ⟨ι a, ι b, ys, ws, rfl, rfl, hy, hw, by rw [← rs.length, ← rs'.length]; exact lim2 (small_le hs) (small_le hs'), P.wr R h hy (rs.append rs') .non⟩
theorem pm_pop {a : Nat} {xs : List Val} {v : Val} {x : V} (h : m.get a = some (.lst xs)) (hv : xs[xs.length - 1]? = some v) (R : Rel X.K G m ι H) (rx : Rep X.K G m.n ι H (.ref a) x)
    (P : Post X G m ι H (m.put a (.lst xs.dropLast)) v Q) : MtV X "list.pop" x [] H Q := by
  cases rx
  obtain ⟨ys, hy, rs⟩ := R.lst h
  obtain ⟨y, hy', ry⟩ := rs.get hv
  have rd : Reps X.K G m.n ι H xs.dropLast ys.dropLast := by
    rw [List.dropLast_eq_take, List.dropLast_eq_take, rs.length]
    exact rs.take _
  exact MtV.of mt_pop ⟨ι a, ys, y, rfl, rfl, hy, by rw [← rs.length]; exact hy', P.wr R h hy rd ry⟩
theorem pm_popAt {a : Nat} {i : Int} {xs : List Val} {v : Val} {x y : V} (h : m.get a = some (.lst xs)) (h0 : 0 ≤ i) (hs : small xs = true) (hv : xs[i.toNat]? = some v) (R : Rel X.K G m ι H) (rx : Rep X.K G m.n ι H (.ref a) x) (ry : Rep X.K G m.n ι H (.int i) y)
    (P : Post X G m ι H (m.put a (.lst (xs.eraseIdx i.toNat))) v Q) : MtV X "list.pop" x [y] H Q := by
  cases rx
  cases ry
  obtain ⟨ys, hy, rs⟩ := R.lst h
  obtain ⟨z, hz, rz⟩ := rs.get hv
  have hlt : i.toNat < xs.length := (List.getElem?_eq_some_iff.mp hv).1
  have := small_le hs
  have : LIM = 8000000 := rfl
  refine MtV.of mt_popAt ⟨ι a, ys, i, i.toNat, z, rfl, rfl, hy, by omega, by omega, ?_, hz, P.wr R h hy (rs.erase _) rz⟩
  exact seqIndex_of h0 (by rw [← rs.length]; omega)
theorem ints_V : ∀ {xs : List Val} {ys : List V} {ns : List Int}, intsOf xs = some ns → Reps X.K G m.n ι H xs ys → ys = ns.map V.int
  | [], _, _, h, .nil => by cases h; rfl
  | x :: xs, _, ns, h, .cons r rs => by
    cases x <;> first | (simp only [intsOf] at h; cases h; done) | skip
    rename_i b
    simp only [intsOf] at h
    cases e : intsOf xs with
    | none => rw [e] at h; cases h
    | some cs =>
      rw [e] at h
      cases h
      cases r
      rw [ints_V e rs]
      rfl
def rTCnt (X : Cx) : V → List V → Hp → VK → Prop := fun x xs H Q => ∃ (p : Addr) (ns : List Int) (k : Int), x = .ref p ∧ xs = [.int k] ∧ SqT X.K H p (ns.map V.int) ∧ Q (.int (ns.count k : Nat)) H
theorem mt_tcount : MtR X "tuple.count" (rTCnt X) := by
  intro pins s σ H x xs v us Q I rx rxs h
  obtain ⟨p, ns, k, rfl, rfl, hs, q⟩ := h
  cases rx
  obtain ⟨u, rfl, ru⟩ := rxs.one
  obtain ⟨t, rfl⟩ := ru
  obtain ⟨its, rv, ⟨⟨cls, dd, data, sl⟩, ho, hc, n, hd⟩, hlen⟩ := I.tuple hs
  simp only at hc hd
  subst hc hd
  have hi := ints_of_vals rv
  refine call_meets PySem.F.slot_tuple_count ⟨_, ho, rfl⟩ PySem.F.entry_tuple_count (PySem.F.args_tuple_count_2 _ _)
    (SeqAt.tuple_countAt p its.toArray n dd sl (.int k t) (eqk k)) ⟨ho, fun y hy => (eqk_gives hi y (by simpa using hy)).at _ _, ?_⟩
  have ec : its.toArray.toList.countP (eqk k) = ns.count k := eqk_count hi
  refine ⟨.int (ns.count k : Nat), H, I.tok _, ⟨s.toks, ?_⟩, q⟩
  show Value.int ((its.toArray.toList.countP (eqk k) : Nat) : Int) s.toks = _
  rw [ec]
theorem pm_count {i : Int} {xs : List Val} {ns : List Int} {x y : V} (hn : intsOf xs = some ns) (R : Rel X.K G m ι H) (rx : Rep X.K G m.n ι H (.tup xs) x) (ry : Rep X.K G m.n ι H (.int i) y)
    (P : Post X G m ι H m (.int (Int.ofNat (ns.count i))) Q) : MtV X "tuple.count" x [y] H Q := by
  cases ry
  cases rx with
  | @tup p _ ys hp rs =>
    have e := ints_V hn rs
    subst e
    exact MtV.of mt_tcount ⟨p, ns, i, rfl, rfl, hp.sq, P.same R (.int _)⟩
theorem pm_setd {a : Nat} {kvs : List (Key × Val)} {kv dv : Val} {key : Key} {x y z : V} (h : m.get a = some (.dk kvs)) (hk : keyOf kv = some key) (R : Rel X.K G m ι H) (rx : Rep X.K G m.n ι H (.ref a) x) (ry : Rep X.K G m.n ι H kv y) (rz : Rep X.K G m.n ι H dv z)
    (P1 : ∀ w, kget kvs key = some w → Post X G m ι H m w Q) (P2 : kget kvs key = none → Post X G m ι H (m.put a (.dk (kset kvs key dv))) dv Q) (hl : kvs.length < sizeLine) : MtV X "dict.setdefault" x [y, z] H Q := by
  cases rx
  obtain ⟨ys, hy, rk⟩ := R.dk h
  have ey := key_V hk ry
  subst ey
  intro pins s σ v us I r1 rs
  cases (show v = .ref (ι a) from r1)
  obtain ⟨u1, u2, rfl, ru1, ru2⟩ := vals2 rs
  refine d_setd I hy ru1 ru2 (by rw [← rk.length]; exact hl) (fun w hw w' s' I' rw' => ?_) fun hn w' s' I' rw' => ?_
  · cases e : kget kvs key with
    | none =>
      rw [rk.get.2 e] at hw
      cases hw
    | some w0 =>
      obtain ⟨y0, h1, r0⟩ := rk.get.1 w0 e
      rw [h1] at hw
      cases hw
      exact ⟨_, H, I', rw', (P1 w0 e).same R r0⟩
  · cases e : kget kvs key with
    | none =>
      exact ⟨z, _, I', rw', (P2 e).wrd R h hy (rk.put rz) rz⟩
    | some w0 =>
      obtain ⟨y0, h1, r0⟩ := rk.get.1 w0 e
      rw [h1] at hn
      cases hn
end
end Mi

/-! Lists and sets of tuples of ints: min, sorted. -/
namespace Mi
open PySem L2 PySem.Spec PyProof.Rows

/-! ### their order -/
abbrev intD (k : List Int) : PyData := .tuple (k.map PyData.int)
theorem toks_nil : PySem.W.keyToksAll [] = [.inl 0] := by rw [PySem.W.keyToksAll]
theorem lex_ints : ∀ a b : List Int, PyProof.Rows.lexLt PyProof.Rows.itemOrd (PySem.W.keyToksAll (a.map PyData.int)) (PySem.W.keyToksAll (b.map PyData.int)) = lexLt a b
  | [], [] => by
    rw [List.map_nil, toks_nil, PySem.W.lex_one]
    rfl
  | [], y :: b => by
    rw [List.map_nil, List.map_cons, toks_nil, PySem.W.toks_all_cons, PyProof.Rows.lex_diff (by simp)]
    rfl
  | x :: a, [] => by
    rw [List.map_nil, List.map_cons, toks_nil, PySem.W.toks_all_cons, PyProof.Rows.lex_diff (by simp)]
    rfl
  | x :: a, y :: b => by
    rw [List.map_cons, List.map_cons]
    by_cases e : x = y
    · subst e
      rw [PySem.W.dataLt_all_yes (by simp [PySem.W.alike]) (by simp [PyData.eqv]), lex_ints a b]
      show _ = if x = x then _ else _
      rw [if_pos rfl]
    · rw [PySem.W.dataLt_all_no (by simp [PySem.W.alike]) (by simp [PyData.eqv, e]), PySem.W.dataLt_int]
      show _ = if x = y then _ else _
      rw [if_neg e]
theorem lt_intD (a b : List Int) : PySem.W.dataLt (intD a) (intD b) = lexLt a b := by
  rw [PySem.W.dataLt_tuple]
  exact lex_ints a b
theorem alike_ints : ∀ a b : List Int, PySem.W.alikeAll (a.map PyData.int) (b.map PyData.int) = true
  | [], b => by simp [PySem.W.alikeAll]
  | x :: a, [] => by simp [PySem.W.alikeAll]
  | x :: a, y :: b => by
    rw [List.map_cons, List.map_cons, PySem.W.alikeAll, alike_ints a b]
    simp [PySem.W.alike]
theorem alike_intD (a b : List Int) : PySem.W.alike (intD a) (intD b) = true := by
  rw [PySem.W.alike]
  exact alike_ints a b
theorem ints_inj : ∀ {a b : List Int}, a.map PyData.int = b.map PyData.int → a = b
  | [], [], _ => rfl
  | [], _ :: _, h => by cases h
  | _ :: _, [], h => by cases h
  | x :: a, y :: b, h => by
    rw [List.map_cons, List.map_cons] at h
    injection h with h1 h2
    injection h1 with h1
    rw [h1, ints_inj h2]
theorem intD_inj {a b : List Int} (h : intD a = intD b) : a = b := by
  injection h with h
  exact ints_inj h

section
variable {X : Cx} {G : Nat → Addr} {m : Mem} {ι : Nat → Addr} {H : Hp} {Q : VK}
theorem CallV.raw {f : Value} {xs : List V} (h : ∀ pins s (σ : L2.St) us, Inv X pins σ H s → Vals xs us → wpAny (model X.prog X.w) X.A (call f us) (EP X pins σ Q) X.xe s) : CallV X f xs H Q :=
  ⟨fun xs H Q => ∀ pins s (σ : L2.St) us, Inv X pins σ H s → Vals xs us → wpAny (model X.prog X.w) X.A (call f us) (EP X pins σ Q) X.xe s, fun pins s σ H xs us Q I r h => h pins s σ us I r, h⟩

theorem ints_dp {K : PySem.W.Frag} {n : Nat} : ∀ {xs : List Val} {ns : List Int} {ys : List V}, intsOf xs = some ns → Reps K G n ι H xs ys → DpAll K H ys (ns.map PyData.int) ∧ xs = ns.map Val.int
  | [], ns, _, h, r => by
    cases h
    cases r
    exact ⟨.nil, rfl⟩
  | x :: xs, ns, ys, h, r => by
    cases x <;> first | (simp [intsOf] at h; done) | skip
    rename_i i
    simp only [intsOf] at h
    cases e : intsOf xs with
    | none => rw [e] at h; cases h
    | some k =>
      rw [e] at h
      cases h
      cases r with
      | cons r1 rs =>
        obtain ⟨d, hx⟩ := ints_dp e rs
        cases r1
        exact ⟨.cons (.int i) d, by rw [hx]; rfl⟩
/-- the rows of ints that a list's values are -/
theorem keys_dp {K : PySem.W.Frag} {n : Nat} : ∀ {xs : List Val} {ks : List (List Int)} {ys : List V}, keysT xs = some ks → Reps K G n ι H xs ys → DpAll K H ys (ks.map intD) ∧ xs = ks.map tupI
  | [], ks, _, h, r => by
    cases h
    cases r
    exact ⟨.nil, rfl⟩
  | x :: xs, ks, ys, h, r => by
    cases x <;> first | (simp [keysT] at h; done) | skip
    rename_i us
    simp only [keysT] at h
    split at h <;> first | (cases h; done) | skip
    rename_i k hk
    split at h <;> first | (cases h; done) | skip
    rename_i ks' hks
    cases h
    cases r with
    | cons r1 rs =>
      obtain ⟨d, hx⟩ := keys_dp hks rs
      cases r1 with
      | tup hp rt =>
        obtain ⟨d1, h1⟩ := ints_dp hk rt
        exact ⟨.cons (.tup hp.sq d1) d, by rw [hx, h1]; rfl⟩
theorem readsAll_get {h : Heap} : ∀ {vs : List Value} {ds : List PyData} {as : List Addr}, ReadsAll h vs ds as → ∀ {i : Nat} {v : Value}, vs[i]? = some v → ∃ d bs, ds[i]? = some d ∧ Reads h v d bs
  | _, _, _, .nil, i, v, e => by simp at e
  | _, _, _, .cons r rs, 0, v, e => by
    have e' := Option.some.inj (show some _ = some v from e)
    subst e'
    exact ⟨_, _, rfl, r⟩
  | _, _, _, .cons r rs, i + 1, v, e => readsAll_get rs (show _ = some v from e)
theorem minK_fold (k : List Int) : ∀ ks : List (List Int), PySem.W.minD (intD k) (ks.map intD) = intD (minK k ks) := by
  intro ks
  unfold PySem.W.minD
  induction ks generalizing k with
  | nil => rfl
  | cons x r ih =>
    rw [List.map_cons, List.foldl_cons, lt_intD]
    show _ = intD (minK (if lexLt x k = true then x else k) r)
    rw [← ih]
    split <;> rfl
theorem depth_ints : ∀ k : List Int, PyData.depthAll (k.map PyData.int) = 0
  | [] => by simp [PyData.depthAll]
  | x :: r => by
    rw [List.map_cons]
    simp [PyData.depthAll, PyData.depth, depth_ints r]
theorem depth_intDs : ∀ ks : List (List Int), PyData.depthAll (ks.map intD) ≤ 1
  | [] => by simp [PyData.depthAll]
  | x :: r => by
    have ih := depth_intDs r
    have h1 := depth_ints x
    rw [List.map_cons]
    simp only [PyData.depthAll, PyData.depth]
    omega
theorem pv_minT {a : Nat} {xs : List Val} {k : List Int} {ks : List (List Int)} {x : V} (hc : X.calm = true) (hu : X.A.units + 64 < cLine) (hl : lstAt m a = some xs) (hk : keysT xs = some (k :: ks)) (R : Rel X.K G m ι H) (r : Rep X.K G m.n ι H (.ref a) x)
    (P : Post X G m ι H m (tupI (minK k ks)) Q) : CallV X (.builtin "min") [x] H Q := CallV.raw fun pins s σ us I rv => by
  cases r
  obtain ⟨ys, hy, rs⟩ := R.sql hl
  obtain ⟨its, rI, pl, hz⟩ := I.list hy
  obtain ⟨dp, hx⟩ := keys_dp hk rs
  rw [Vals.ref1 rv]
  obtain ⟨as, rd⟩ := Dp.readsAll I _ _ _ dp rI
  have hal : PySem.W.AlikeAll ((k :: ks).map intD) := ⟨fun d hd e he => by
    obtain ⟨k1, _, rfl⟩ := List.mem_map.mp hd
    obtain ⟨k2, _, rfl⟩ := List.mem_map.mp he
    exact alike_intD k1 k2, fun d hd e => by
    obtain ⟨k1, _, rfl⟩ := List.mem_map.mp hd
    cases e⟩
  refine PySem.W.min_list_data (I.ok.hd hc) pl.isList (by simpa using rd) hal (by have := depth_intDs (k :: ks); rw [List.map_cons] at this; omega) fun i v h' tk bs hv hr hkeep => ?_
  have hv' : its[i]? = some v := by simpa using hv
  obtain ⟨d, bs', hd, hr'⟩ := readsAll_get rd hv'
  rw [minK_fold] at hr
  rw [List.getElem?_map] at hd
  cases hki : (k :: ks)[i]? with
  | none => rw [hki] at hd; cases hd
  | some ki =>
    rw [hki] at hd
    cases hd
    have ek : ki = minK k ks := intD_inj (PySem.W.alike_unique _ _ _ _ _ (alike_intD _ _) (PyProof.Rows.Reads.keeps hkeep hr') hr)
    have hxi : xs[i]? = some (tupI ki) := by rw [hx, List.getElem?_map, hki]; rfl
    obtain ⟨V, hV, rV⟩ := rs.get hxi
    obtain ⟨v', hv2, rv2⟩ := rI.get hV
    rw [hv'] at hv2
    cases hv2
    rw [ek] at rV
    exact ⟨V, H, I.kept (t' := tk) hkeep, rv2, P.same R rV⟩
end
/-! ### sorted -/
theorem lexLt_irrefl : ∀ a : List Int, lexLt a a = false
  | [] => rfl
  | x :: a => by
    show (if x = x then lexLt a a else decide (x < x)) = false
    rw [if_pos rfl, lexLt_irrefl a]
theorem lexLt_trans : ∀ {a b c : List Int}, lexLt a b = true → lexLt b c = true → lexLt a c = true
  | [], _ :: _, _ :: _, _, _ => rfl
  | x :: a, y :: b, z :: c, h1, h2 => by
    have h1 : (if x = y then lexLt a b else decide (x < y)) = true := h1
    have h2 : (if y = z then lexLt b c else decide (y < z)) = true := h2
    show (if x = z then lexLt a c else decide (x < z)) = true
    split at h1 <;> split at h2
    · rename_i e1 e2
      rw [if_pos (e1.trans e2)]
      exact lexLt_trans h1 h2
    · rename_i e1 e2
      subst e1
      rw [if_neg e2]
      exact h2
    · rename_i e1 e2
      subst e2
      rw [if_neg e1]
      exact h1
    · rename_i e1 e2
      have q1 := of_decide_eq_true h1
      have q2 := of_decide_eq_true h2
      rw [if_neg (by omega)]
      exact decide_eq_true (by omega)
theorem lexLt_total : ∀ {a b : List Int}, lexLt a b = false → lexLt b a = false → a = b
  | [], [], _, _ => rfl
  | [], _ :: _, h, _ => by cases h
  | _ :: _, [], _, h => by cases h
  | x :: a, y :: b, h1, h2 => by
    have h1 : (if x = y then lexLt a b else decide (x < y)) = false := h1
    have h2 : (if y = x then lexLt b a else decide (y < x)) = false := h2
    by_cases e : x = y
    · subst e
      rw [if_pos rfl] at h1 h2
      rw [lexLt_total h1 h2]
    · rw [if_neg e] at h1
      rw [if_neg (fun z => e z.symm)] at h2
      have q1 := of_decide_eq_false h1
      have q2 := of_decide_eq_false h2
      omega
/-- not behind -/
abbrev LeK (a b : List Int) : Prop := lexLt b a = false
theorem leK_trans {a b c : List Int} (h1 : LeK a b) (h2 : LeK b c) : LeK a c := by
  unfold LeK at *
  cases h : lexLt c a with
  | false => rfl
  | true =>
    cases h3 : lexLt b c with
    | true =>
      rw [lexLt_trans h3 h] at h1
      cases h1
    | false =>
      have := lexLt_total h3 h2
      subst this
      rw [h] at h1
      cases h1
theorem leK_total (a b : List Int) : LeK a b ∨ LeK b a := by
  unfold LeK
  cases h : lexLt b a with
  | false => exact .inl rfl
  | true =>
    refine .inr ?_
    cases h2 : lexLt a b with
    | false => rfl
    | true =>
      have := lexLt_trans h h2
      rw [lexLt_irrefl] at this
      cases this
theorem sorted_uniq : ∀ {l m : List (List Int)}, l.Perm m → l.Pairwise LeK → m.Pairwise LeK → l = m
  | [], m, p, _, _ => p.nil_eq
  | x :: l, m, p, hl, hm => by
    cases m with
    | nil => exact absurd p.length_eq (by simp)
    | cons y m =>
      have hx : ∀ z ∈ y :: m, LeK y z := fun z hz => by
        rcases List.mem_cons.mp hz with e | e
        · rw [e]; exact lexLt_irrefl y
        · exact (List.pairwise_cons.mp hm).1 z e
      have hy : ∀ z ∈ x :: l, LeK x z := fun z hz => by
        rcases List.mem_cons.mp hz with e | e
        · rw [e]; exact lexLt_irrefl x
        · exact (List.pairwise_cons.mp hl).1 z e
      have e : x = y := lexLt_total (hx x (p.mem_iff.mp List.mem_cons_self)) (hy y (p.mem_iff.mpr List.mem_cons_self))
      subst e
      rw [sorted_uniq (p.cons_inv) (List.pairwise_cons.mp hl).2 (List.pairwise_cons.mp hm).2]
theorem insK_perm (k : List Int) : ∀ l, (insK k l).Perm (k :: l)
  | [] => .refl _
  | x :: l => by
    show (if lexLt k x = true then k :: x :: l else x :: insK k l).Perm _
    split
    · exact .refl _
    · exact ((insK_perm k l).cons x).trans (.swap k x l)
theorem insK_sorted (k : List Int) : ∀ l, l.Pairwise LeK → (insK k l).Pairwise LeK
  | [], _ => List.pairwise_singleton _ _
  | x :: l, h => by
    show (if lexLt k x = true then k :: x :: l else x :: insK k l).Pairwise LeK
    have hx := List.pairwise_cons.mp h
    split
    · rename_i e
      have le : LeK k x := by
        rcases leK_total k x with z | z
        · exact z
        · unfold LeK at z
          rw [z] at e
          cases e
      refine List.pairwise_cons.mpr ⟨fun z hz => ?_, h⟩
      rcases List.mem_cons.mp hz with q | q
      · rw [q]; exact le
      · exact leK_trans le (hx.1 z q)
    · rename_i e
      refine List.pairwise_cons.mpr ⟨fun z hz => ?_, insK_sorted k l hx.2⟩
      rcases List.mem_cons.mp ((insK_perm k l).mem_iff.mp hz) with q | q
      · rw [q]
        unfold LeK
        simpa using e
      · exact hx.1 z q
theorem sortK_perm : ∀ l, (sortK l).Perm l
  | [] => .refl _
  | x :: l => (insK_perm x _).trans ((sortK_perm l).cons x)
theorem sortK_sorted : ∀ l, (sortK l).Pairwise LeK
  | [] => .nil
  | x :: l => insK_sorted x _ (sortK_sorted l)
section
variable {X : Cx} {G : Nat → Addr} {m : Mem} {ι : Nat → Addr} {H : Hp} {Q : VK}
/-- a value of a row of ints -/
abbrev BackR (X : Cx) (G : Nat → Addr) (n : Nat) (ι : Nat → Addr) (H : Hp) (v : Value) (b : List Int × V) : Prop := RelV b.2 v ∧ Rep X.K G n ι H (tupI b.1) b.2
theorem back_each {n : Nat} {h : Heap} : ∀ {ks : List (List Int)} {ys : List V} {its : List Value} {as : List Addr}, Reps X.K G n ι H (ks.map tupI) ys → Vals ys its → ReadsAll h its (ks.map intD) as →
    PySem.W.EachIs (BackR X G n ι H) its (ks.zip ys) ∧ PySem.W.EachIs (fun v b => ∃ as, Reads h v (intD b.1) as) its (ks.zip ys)
  | [], _, _, _, r, v, rd => by
    cases r
    cases v
    exact ⟨.nil, .nil⟩
  | k :: ks, _, _, _, r, v, rd => by
    cases r with
    | cons r1 rs =>
      cases v with
      | cons v1 vs =>
        cases rd with
        | cons d1 ds =>
          obtain ⟨h1, h2⟩ := back_each rs vs ds
          exact ⟨.cons ⟨v1, r1⟩ h1, .cons ⟨_, d1⟩ h2⟩
theorem back_out {n : Nat} : ∀ {out : List Value} {bs : List (List Int × V)}, PySem.W.EachIs (BackR X G n ι H) out bs → Vals (bs.map (·.2)) out ∧ Reps X.K G n ι H ((bs.map (·.1)).map tupI) (bs.map (·.2))
  | _, _, .nil => ⟨.nil, .nil⟩
  | _, _, .cons h t => by
    obtain ⟨h1, h2⟩ := back_out t
    exact ⟨.cons h.1 h1, .cons h.2 h2⟩
theorem zip_fst {α β : Type} : ∀ {a : List α} {b : List β}, a.length = b.length → (a.zip b).map (·.1) = a
  | [], _, _ => by simp
  | x :: a, [], h => by simp at h
  | x :: a, y :: b, h => by
    rw [List.zip_cons_cons, List.map_cons, zip_fst (by simpa using h)]
theorem merge_keys (bs : List (List Int × V)) : (bs.mergeSort (PySem.W.dataLe false fun b => intD b.1)).map (·.1) = sortK (bs.map (·.1)) := by
  have hle : ∀ a b : List Int × V, PySem.W.dataLe false (fun b : List Int × V => intD b.1) a b = !lexLt b.1 a.1 := fun a b => by
    rw [PySem.W.dataLe_eq]
    show (!PySem.W.dataLt (intD b.1) (intD a.1)) = _
    rw [lt_intD]
  have pw := List.pairwise_mergeSort (le := PySem.W.dataLe false fun b : List Int × V => intD b.1) (fun a b c h1 h2 => by
    rw [hle, Bool.not_eq_true'] at h1 h2 ⊢
    exact leK_trans h1 h2) (fun a b => by
    rw [hle, hle]
    rcases leK_total a.1 b.1 with z | z
    · unfold LeK at z; rw [z]; rfl
    · unfold LeK at z; rw [z]; simp) bs
  refine sorted_uniq (((List.mergeSort_perm _ _).map _).trans (sortK_perm _).symm) ?_ (sortK_sorted _)
  refine List.pairwise_map.mpr (pw.imp fun {a b} h => ?_)
  rw [hle, Bool.not_eq_true'] at h
  exact h
theorem perm_short {α : Type} {a b : List α} (h : a.Perm b) (hl : b.length < 2) : a = b := by
  match b, hl with
  | [], _ => exact h.eq_nil
  | [x], _ => exact List.perm_singleton.mp h
theorem pv_sortT {a : Nat} {xs : List Val} {ks : List (List Int)} {x : V} (hc : X.calm = true) (hu : X.A.units + 64 < cLine) (hl : lstAt m a = some xs) (hk : keysT xs = some ks) (hs : small ks = true) (he : (ks.all fun k => !k.isEmpty || Nat.blt ks.length 2) = true) (R : Rel X.K G m ι H) (r : Rep X.K G m.n ι H (.ref a) x)
    (P : Post X G m ι H (m.new (.lst ((sortK ks).map tupI))) (.ref m.n) Q) : CallV X (.builtin "sorted") [x] H Q := CallV.raw fun pins s σ us I rv => by
  cases r
  obtain ⟨ys, hy, rs⟩ := R.sql hl
  obtain ⟨its, rI, pl, hz⟩ := I.list hy
  obtain ⟨dp, hx⟩ := keys_dp hk rs
  rw [Vals.ref1 rv]
  obtain ⟨as, rd⟩ := Dp.readsAll I _ _ _ dp rI
  rw [hx] at rs
  have l1 : ks.length = ys.length := by
    rw [← rs.length, List.length_map]
  have l2 : its.length = ks.length := by rw [← rI.length, l1]
  have l3 : its.length ≤ sizeLine := by rw [l2]; exact small_line hs
  have fin : ∀ (out : List Value) (zs : List V), out.length ≤ sizeLine → Vals zs out → Reps X.K G m.n ι H ((sortK ks).map tupI) zs → EP X pins σ Q (.ref (s.heap.objs.size + 1)) { s with heap := PyProof.Rows.sortedAll s.heap its out.toArray } := fun out zs hz' hv hr => by
    obtain ⟨ep, he'⟩ := PyProof.Rows.sortedAll_at s.heap its out.toArray
    have h0 : H (s.heap.objs.size + 1) = none := I.hok.fresh (Nat.le_succ _)
    exact ⟨.ref _, upd H (s.heap.objs.size + 1) (.lst zs), I.laid (t' := s.toks) (fun _ _ => PyProof.Rows.sortedAll_old) (Nat.le_succ _) ⟨by rw [hv.length]; exact hz', out, ep, hv, he'⟩, rfl, P.lst R hr h0⟩
  by_cases h2 : ks.length < 2
  · refine SrtO.sorted_ord SrtO.swo_int pl.isList l3 (fun h => absurd h (by omega)) fun out h1 hb => ?_
    have e := perm_short hb.perm (by omega)
    subst e
    refine fin _ ys l3 rI ?_
    rw [perm_short (sortK_perm ks) h2]
    exact rs
  · obtain ⟨e1, e2⟩ := back_each rs rI rd
    refine PySem.W.sorted_data (R := BackR X G m.n ι H) (enc := fun b => intD b.1) (bs := ks.zip ys) pl.isList e1 e2 (.of fun b b' => alike_intD _ _) ?_ (by rw [List.length_zip]; have := small_line hs; omega) (fun b _ => ?_) fun out ho hR => ?_
    · refine .inl fun d hd => ?_
      obtain ⟨b, hb, rfl⟩ := List.mem_map.mp hd
      have hb1 : b.1 ∈ ks := (List.of_mem_zip hb).1
      have := List.all_eq_true.mp he b.1 hb1
      have hn : Nat.blt ks.length 2 = false := by
        cases z : Nat.blt ks.length 2 with
        | false => rfl
        | true => exact absurd (Nat.le_of_ble_eq_true z) (by omega)
      rw [hn, Bool.or_false] at this
      cases hb2 : b.1 with
      | nil => rw [hb2] at this; cases this
      | cons y t => exact ⟨_, _, rfl⟩
    · have : (intD b.1).depth ≤ 1 := by
        have := depth_ints b.1
        simp only [PyData.depth]
        omega
      omega
    · obtain ⟨q1, q2⟩ := back_out hR
      rw [merge_keys, zip_fst l1] at q2
      exact fin out _ (by rw [ho, List.length_zip]; have := small_line hs; omega) q1 q2
end
end Mi

/-! Sets of tuples of ints, from lists of any length; sorted. -/
namespace Mi
open PySem L2 PySem.Spec PyProof.Rows

/-- rows without a repetition are few -/
def Few (ks : List (Addr × List Int)) : Prop := ∀ L : List (Addr × List Int), (L.map (·.2)).Nodup → (∀ p ∈ L, p ∈ ks) → L.length < 63
section
variable {P : Program} {w : World} {A : Around} {E : Value → Shared → Prop} {s : Shared}
theorem fill_set {I : Addr} {fp wr : List Addr} {G : Array GenState → Array GenState → Prop} {n : Nat} {Pv : Nat → Value → Prop} {St : Nat → Shared → Prop} {R : Result → Shared → Prop}
    (Wk : WalksS P w A.in1 I fp wr G n Pv St) {D : Addr} (nf : D ∉ fp) {ks : List (Addr × List Int)} (hn : n = ks.length) (few : Few ks) (val : ∀ i v, Pv i v → ∃ p, ks[i]? = some p ∧ v = .ref p.1)
    {g0 : Heap} (tk : ∀ p ∈ ks, IsT P w g0 p.2 p.1) (gD : g0.get? D = none) (gw : ∀ b ∈ wr, g0.get? b = none) (hu : A.in1.units < cLine) :
    ∀ (j i : Nat) (st : Shared) (L : List (Addr × List Int)) (es : Array (Int × Value)) (ep : Nat) (t : SetTable), i + j = n → St i st → (∀ b o, g0.get? b = some o → st.heap.get? b = some o) → SetTR P w st.heap D L es ep t → Got ks i L →
      (∀ st' L es ep t, Moved (D :: wr) G st st' → SetTR P w st'.heap D L es ep t → Got ks n L → (∀ b o, g0.get? b = some o → st'.heap.get? b = some o) → R (.ok (.ret .none)) st') →
      codeAny (model P w) A (.builtin "set.update.loop" ⟨[.ref D, .ref I], []⟩) R st := by
  have Dw : D ∉ wr := fun z => nf (Wk.sub _ z)
  have wide : ∀ b ∈ wr, b ∈ D :: wr := fun b z => List.mem_cons_of_mem _ z
  have held : ∀ {u u' : Shared}, Moved wr G u u' → (∀ b o, g0.get? b = some o → u.heap.get? b = some o) → ∀ b o, g0.get? b = some o → u'.heap.get? b = some o := fun {u u'} mv hh b o e =>
    mv.heap b o (fun z => by rw [gw b z] at e; cases e) (hh b o e)
  intro j
  induction j with
  | zero =>
    intro i st L es ep t hij hst hh TR g fin
    obtain rfl : i = n := hij
    refine codeAny_builtin PyProof.Rows.F.entry_set_update_loop ?_
    rw [Around.under_plainId PyProof.Rows.F.plain_set_update_loop _]
    show wpAny _ A.in1 (pyNext (.ref I) >>= _) _ _ st
    refine wpAny_bind (Wk.done st _ _ hst fun u mv => ?_)
    show wpAny _ A.in1 (ret Value.none) _ _ u
    have hh' := held mv hh
    exact wpAny_pure (fin u L es ep t (mv.mono wide) (TR.keep (fun o e => mv.heap D o Dw e) fun p hp => isT_keep (tk p (List.mem_of_mem_take (g.sub p hp))) hh') g hh')
  | succ j next =>
    intro i st L es ep t hij hst hh TR g fin
    have lt : i < n := by omega
    refine codeAny_builtin PyProof.Rows.F.entry_set_update_loop ?_
    rw [Around.under_plainId PyProof.Rows.F.plain_set_update_loop _]
    show wpAny _ A.in1 (pyNext (.ref I) >>= _) _ _ st
    refine wpAny_bind (Wk.item i st _ _ lt hst fun v u hv hst' mv => ?_)
    obtain ⟨p, hp, ev⟩ := val i v hv
    subst ev
    have hh' := held mv hh
    have inKs : ∀ q ∈ L, q ∈ ks := fun q hq => List.mem_of_mem_take (g.sub q hq)
    have TR' : SetTR P w u.heap D L es ep t := TR.keep (fun o e => mv.heap D o Dw e) fun q hq => isT_keep (tk q (inKs q hq)) hh'
    have px : IsT P w u.heap p.2 p.1 := isT_keep (tk p (List.mem_of_getElem? hp)) hh'
    show wpAny _ A.in1 (holding [Value.ref p.1] (setAdd D (.ref p.1)) >>= _) _ _ u
    refine wpAny_bind (wpAny_holding ?_)
    unfold setAdd
    refine wpAny_holding (wpAny_bind (wpAny_pyHash_tuple hu px ?_))
    have room : L.length + 1 < 64 := by
      have := few L TR.nd inKs
      omega
    refine add_at (s := { u with toks := u.toks + (p.2.length + 1) }) TR' px hu room fun b h' L2 es2 ep2 t2 same TR2 old new => ?_
    have g2 : Got ks (i + 1) L2 := by
      by_cases c : p.2 ∈ L.map (·.2)
      · rw [old c]
        exact g.same hp c
      · exact g.more hp (new c)
    have away : ∀ b, b ≠ D → h'.get? b = u.heap.get? b := fun b z => same.2 b z
    have hh2 : ∀ b o, g0.get? b = some o → h'.get? b = some o := fun b o e => by
      rw [away b (fun z => by rw [z, gD] at e; cases e)]
      exact hh' b o e
    refine wpAny_pure ⟨plainId_quiet PyProof.Rows.F.plain_set_update_loop _, next (i + 1) _ L2 es2 ep2 t2 (by omega) (Wk.frame _ u _ _ hst' (Nat.le_add_right _ _) fun b hb o e => ?_) hh2 TR2 g2 fun z L3 es3 ep3 t3 mv3 TR3 g3 hh3 => ?_⟩
    · rw [away b (fun z => nf (z ▸ hb))]
      exact e
    · refine fin z L3 es3 ep3 t3 (Moved.trans Wk.gtrans ((mv.mono wide).then_heap (Nat.le_add_right _ _) fun b o hb e => ?_) mv3) TR3 g3 hh3
      rw [away b (fun z => hb (z ▸ List.mem_cons_self))]
      exact e

/-- a set that has nothing yet -/
abbrev bareSet (w : World) : Obj := { cls := .type "set", dict := none, data := .set #[] 0 (.fresh 0 0 (!w.params.followText "set-order")) }
theorem none_above {h : Heap} {b : Addr} (hb : h.objs.size ≤ b) : h.get? b = none := by
  cases q : h.get? b with
  | none => rfl
  | some o =>
    exact absurd (Nat.lt_of_lt_of_le (Heap.lt_size q) hb) (Nat.lt_irrefl _)
set_option maxHeartbeats 3200000 in
theorem call_setU {l : Addr} {its : Array Value} {ks : List (Addr × List Int)} {Q : Value → Shared → Prop} (hh : A.handled = none) (hl : s.heap.IsList l its) (hit : its.toList = ks.map fun p => Value.ref p.1)
    (hk : ∀ p ∈ ks, IsT P w s.heap p.2 p.1) (few : Few ks) (hu : A.units + 3 < cLine)
    (fin : ∀ (h' : Heap) (tk : Nat) (L : List (Addr × List Int)) (es : Array (Int × Value)) (ep : Nat) (t : SetTable), SetTR P w h' s.heap.objs.size L es ep t → Got ks ks.length L → (∀ b o, s.heap.get? b = some o → h'.get? b = some o) → Q (.ref s.heap.objs.size) { s with heap := h', toks := tk }) :
    wpAny (model P w) A (call (.type "set") [.ref l]) Q E s := by
  have size_eq : its.size = ks.length := by rw [← Array.length_toList, hit, List.length_map]
  obtain ⟨c0, t0, mro0⟩ := F.called_set.mro
  have m1 := F.called_set.made; have m2 := F.called_set.sub
  refine wpAny_call (codeAny_of_tree (show wpAny _ _ (callAny (.type "set") _) _ _ _ from ?_))
  refine wpAny_pure ⟨Code.quiet_builtin _ (by decide +kernel), codeAny_builtin F.entry_type_call ?_⟩
  rw [Around.under_plain (weight_type_call_type "set" [Value.ref l] []) rfl]
  have m3 := F.called_set.notType; have m4 := F.called_set.canCreate; have m5 := F.typeCall_set_1 (Value.ref l)
  repeat (any_goals (first | assumption | wp_step))
  refine codeAny_mono (code_set_led1 (Value.ref l) (E := E) (Q₁ := fun v u => v = .ref s.heap.objs.size ∧ u = { s with heap := s.heap.push (bareSet w) }) ⟨rfl, rfl⟩) fun r u hr => ?_
  cases r with
  | error e => exact hr
  | ok fl =>
    cases fl with
    | next => exact hr.elim
    | brk => exact hr.elim
    | cont => exact hr.elim
    | ret v =>
      obtain ⟨ev, eu⟩ := hr
      subst ev
      subst eu
      have at_ : (s.heap.push (bareSet w)).get? s.heap.objs.size = some (bareSet w) := Heap.get?_push_size _ rfl
      have ty : Shared.TypeIs { s with heap := s.heap.push (bareSet w) } (.ref s.heap.objs.size) "set" := ⟨_, at_, rfl⟩
      have i1 := F.called_set.init.lookup; have i2 := F.called_set.init.bind (.ref s.heap.objs.size)
      repeat (any_goals (first | assumption | wp_step))
      refine codeAny_mono (codeAny_call_builtin (R := wants (fun v u => v = .none ∧ ∃ h' tk L es ep t, u = { s with heap := h', toks := tk } ∧ SetTR P w h' s.heap.objs.size L es ep t ∧ Got ks ks.length L ∧ ∀ b o, s.heap.get? b = some o → h'.get? b = some o) E)
        F.called_set.init.plain F.entry_set_init (check_set_init_1 ty ?_)) fun r2 u2 h2 => ?_
      · obtain ⟨lo, e1, e2, n0, e3⟩ := hl
        obtain ⟨lc, ld, ldata, lsl⟩ := lo
        simp only at e2 e3
        subst e2
        subst e3
        have e1' : (s.heap.push (bareSet w)).get? l = some { cls := .type "list", dict := ld, data := .seq its n0, slots := lsl } := Heap.get?_push_of_some _ e1
        have no1 := F.sub_list_set; have no2 := F.sub_list_frozenset
        have no3 : (Value.type "list" == Value.type "dict") = false := by decide
        have isl : (s.heap.push (bareSet w)).IsList l its := ⟨_, e1', rfl, n0, rfl⟩
        unfold Builtin.«set.__init__» noKeywords Builtin.Frozenset.updateFrom
        generalize hz : pyIter = pyIter'
        wp_walk
        subst hz
        have lb : l < s.heap.objs.size := Heap.lt_size e1
        have sz : (s.heap.push (bareSet w)).objs.size = s.heap.objs.size + 1 := Heap.size_push ..
        refine wpAny_pyIter_list isl (wpAny_bind (wpAny_runValue ?_))
        have ne_l : l ≠ (s.heap.push (bareSet w)).objs.size := by
          rw [sz]
          exact Nat.ne_of_lt (Nat.lt_succ_of_lt lb)
        have away : s.heap.objs.size ∉ [(s.heap.push (bareSet w)).objs.size, l] := by
          rw [sz]
          intro z
          rcases List.mem_cons.mp z with q | q
          · exact absurd q (Nat.ne_of_lt (Nat.lt_succ_self _))
          · rw [List.mem_singleton] at q
            exact absurd q (Nat.ne_of_gt lb)
        have val : ∀ (i : Nat) (v : Value), its[i]? = some v → ∃ p, ks[i]? = some p ∧ v = .ref p.1 := fun i v hv => by
          rw [← Array.getElem?_toList, hit, List.getElem?_map] at hv
          cases q : ks[i]? with
          | none =>
            rw [q] at hv
            cases hv
          | some p =>
            rw [q] at hv
            exact ⟨p, rfl, (Option.some.inj hv).symm⟩
        have h3 : A.in1.in1.in1.handled = none := by simp [hh]
        have fresh_at : ((s.heap.push (bareSet w)).push { cls := .type "list_iterator", data := .fields #[.ref l, .int 0 0] }).get? s.heap.objs.size = some (bareSet w) := Heap.get?_push_of_some _ at_
        refine fill_set ((Walks.list h3 _ l ne_l its).toS) away size_eq few val hk (none_above (Nat.le_refl _)) (fun b hb => none_above (by
            rw [List.mem_singleton.mp hb, sz]
            exact Nat.le_succ _)) hu its.size 0 _ [] #[] 0 _ (by omega) ⟨⟨_, Heap.get?_push_size _ rfl, rfl, rfl⟩, isl.push _⟩ (fun b o e => Heap.get?_push_of_some _ (Heap.get?_push_of_some _ e)) (setTR_fresh fresh_at) (Got.zero ks) fun u L es ep t mv TR g keep => ?_
        obtain ⟨h', q1, q2, tk', q3⟩ := u
        obtain rfl : q1 = s.gens := mv.gens
        obtain rfl : q2 = s.drawn := mv.drawn
        obtain rfl : q3 = s.os := mv.os
        rw [size_eq] at g
        show wpAny _ _ _ _ _ _
        refine wpAny_pure (show wpAny _ _ (ret Value.none) _ _ _ from ?_)
        exact wpAny_pure ⟨rfl, h', tk', L, es, ep, t, rfl, TR, g, keep⟩
      · cases r2 with
        | error e => exact h2
        | ok f2 =>
          cases f2 with
          | next => exact h2.elim
          | brk => exact h2.elim
          | cont => exact h2.elim
          | ret v =>
            obtain ⟨e1, h', tk, L, es, ep, t, e2, TR, g, keep⟩ := h2
            subst e1
            subst e2
            repeat (any_goals (first | assumption | wp_step))
            exact fin _ _ _ _ _ _ TR g keep
end
theorem perm_unmap {α β : Type} {f : α → β} {l k : List β} (h : l.Perm k) : ∀ {m : List α}, k = m.map f → ∃ m' : List α, m'.Perm m ∧ l = m'.map f := by
  induction h with
  | nil =>
    intro m e
    exact ⟨m, .refl _, e⟩
  | cons x _ ih =>
    intro m e
    cases m with
    | nil => cases e
    | cons y m =>
      rw [List.map_cons] at e
      injection e with e1 e2
      obtain ⟨m', p, q⟩ := ih e2
      exact ⟨y :: m', p.cons y, by rw [List.map_cons, e1, q]⟩
  | swap x y l =>
    intro m e
    match m, e with
    | a :: b :: m, e =>
      rw [List.map_cons, List.map_cons] at e
      injection e with e1 e2
      injection e2 with e2 e3
      exact ⟨b :: a :: m, .swap a b m, by rw [List.map_cons, List.map_cons, e1, e2, e3]⟩
  | trans _ _ ih1 ih2 =>
    intro m e
    obtain ⟨m2, p2, e2⟩ := ih2 e
    obtain ⟨m1, p1, e1⟩ := ih1 e2
    exact ⟨m1, p1.trans p2, e1⟩
section
variable {P : Program} {w : World} {A : Around} {E : Value → Shared → Prop} {s : Shared}
theorem readsInts {h : Heap} : ∀ {k : List Int} {vs : List Value}, IntsAre vs k → ReadsAll h vs (k.map PyData.int) []
  | _, _, .nil => .nil
  | _, _, .cons n t r => ReadsAll.cons (as := []) (bs := []) (.int n t) (readsInts r)
theorem isT_reads {h : Heap} {k : List Int} {b : Addr} (x : IsT P w h k b) : Reads h (.ref b) (intD k) [] := by
  obtain ⟨o, items, n, ho, hc, hd, hi⟩ := x
  exact .tuple ho hc hd (readsInts (ints_of_items hi))
theorem each_rows {h : Heap} {a : Addr} : ∀ {L : List (Addr × List Int)}, (∀ p ∈ L, IsT P w h p.2 p.1) → PySem.W.EachIs (fun v (b : Addr × List Int) => v = Value.ref b.1) (L.map fun p => Value.ref p.1) L ∧ PySem.W.EachIs (fun v (b : Addr × List Int) => ∃ as, Reads h v (intD b.2) as ∧ a ∉ as) (L.map fun p => Value.ref p.1) L
  | [], _ => ⟨.nil, .nil⟩
  | p :: L, h => by
    obtain ⟨i1, i2⟩ := each_rows (a := a) fun q hq => h q (List.mem_cons_of_mem _ hq)
    exact ⟨.cons rfl i1, .cons ⟨[], isT_reads (h p List.mem_cons_self), by simp⟩ i2⟩
theorem each_refs : ∀ {out : List Value} {L : List (Addr × List Int)}, PySem.W.EachIs (fun v (b : Addr × List Int) => v = Value.ref b.1) out L → out = L.map fun p => Value.ref p.1
  | _, _, .nil => rfl
  | _, _, .cons h t => by rw [List.map_cons, ← each_refs t, h]
theorem merge_rows (L : List (Addr × List Int)) : (L.mergeSort (PySem.W.dataLe false fun b => intD b.2)).map (·.2) = sortK (L.map (·.2)) := by
  have hle : ∀ a b : Addr × List Int, PySem.W.dataLe false (fun b : Addr × List Int => intD b.2) a b = !lexLt b.2 a.2 := fun a b => by
    rw [PySem.W.dataLe_eq]
    show (!PySem.W.dataLt (intD b.2) (intD a.2)) = _
    rw [lt_intD]
  have pw := List.pairwise_mergeSort (le := PySem.W.dataLe false fun b : Addr × List Int => intD b.2) (fun a b c h1 h2 => by
    rw [hle, Bool.not_eq_true'] at h1 h2 ⊢
    exact leK_trans h1 h2) (fun a b => by
    rw [hle, hle]
    rcases leK_total a.2 b.2 with z | z
    · unfold LeK at z; rw [z]; rfl
    · unfold LeK at z; rw [z]; simp) L
  refine sorted_uniq (((List.mergeSort_perm _ _).map _).trans (sortK_perm _).symm) ?_ (sortK_sorted _)
  refine List.pairwise_map.mpr (pw.imp fun {a b} h => ?_)
  rw [hle, Bool.not_eq_true'] at h
  exact h
theorem sortK_congr {a b : List (List Int)} (h : a.Perm b) : sortK a = sortK b := sorted_uniq ((sortK_perm a).trans (h.trans (sortK_perm b).symm)) (sortK_sorted a) (sortK_sorted b)
set_option maxHeartbeats 4000000 in
/-- sorted(a set) -/
theorem sorted_set {a : Addr} {L : List (Addr × List Int)} {es : Array (Int × Value)} {ep : Nat} {t : SetTable} {Q : Value → Shared → Prop} (TR : SetTR P w s.heap a L es ep t) (hh : A.handled = none) (hu : A.units + 8 < cLine) (ne : L.length < 2 ∨ ∀ p ∈ L, p.2 ≠ [])
    (fin : ∀ (u : Shared) (p : Addr) (M : List (Addr × List Int)) (c : Nat), (∀ b o, s.heap.get? b = some o → u.heap.get? b = some o) → u.gens = s.gens → u.os = s.os → s.heap.objs.size ≤ p → u.heap.get? p = some (PyProof.Rows.seqObj "list" (M.map fun q => Value.ref q.1).toArray c) →
      M.Perm L → M.map (·.2) = sortK (L.map (·.2)) → Q (.ref p) u) :
    wpAny (model P w) A (call (.builtin "sorted") [.ref a]) Q E s := by
  obtain ⟨o, ho, ex, hd⟩ := TR.ob
  have n1 := TR.size
  have n2 := TR.few
  refine Calls.call_function_entry PyProof.Rows.kind_sorted PyProof.Rows.plain_sorted PyProof.Rows.entry_sorted (PyProof.Rows.args_sorted1 _) ?_
  unfold Builtin.«sorted»
  refine wpAny_bind (m := checkCount "sorted" 1 1 _) (wpAny_pure (wpAny_bind (collect_set (A := A.in1) hh ⟨o, ho, ex.1, hd⟩ TR.fits (by unfold scanBound; omega) TR.tab.ris TR.led fun u vs keep up eg eo pm => ?_)))
  have ees : es.toList.map (·.2) = L.map fun q => Value.ref q.1 := by
    rw [TR.rows, rowsOf, List.map_map]
    rfl
  rw [ees] at pm
  obtain ⟨M, pM, eM⟩ := perm_unmap pm rfl
  subst eM
  have lM : M.length < 64 := by rw [pM.length_eq]; exact n2
  refine wpAny_bind (wpAny_newList ?_ (by rw [List.length_map, sizeLine_eq]; omega))
  have at_ : (u.heap.push (PyProof.Rows.seqObj "list" (M.map fun q => Value.ref q.1).toArray 0)).get? u.heap.objs.size = some (PyProof.Rows.seqObj "list" (M.map fun q => Value.ref q.1).toArray 0) := Heap.get?_push_size _ rfl
  have tups : ∀ q ∈ M, IsT P w (u.heap.push (PyProof.Rows.seqObj "list" (M.map fun q => Value.ref q.1).toArray 0)) q.2 q.1 := fun q hq => isT_keep (TR.tup q (pM.mem_iff.mp hq)) fun b o e => Heap.get?_push_of_some _ (keep b o e)
  have zM : (M.map fun q => Value.ref q.1).length ≤ sizeLine := by rw [List.length_map, sizeLine_eq]; omega
  have close : ∀ (N : List (Addr × List Int)), N.Perm M → N.map (·.2) = sortK (L.map (·.2)) → wpAny (model P w) A.in1 (ret (Value.ref u.heap.objs.size)) (fun f s' => ∃ v, f = .done (.ret v) ∧ Q v s') E
      { u with heap := PyProof.Rows.sortedHeap (u.heap.push (PyProof.Rows.seqObj "list" (M.map fun q => Value.ref q.1).toArray 0)) u.heap.objs.size (M.map fun q => Value.ref q.1) (N.map fun q => Value.ref q.1).toArray } := fun N pN eN => by
    obtain ⟨c, hc⟩ := PyProof.Rows.sortedHeap_at (vs := M.map fun q => Value.ref q.1) (out := (N.map fun q => Value.ref q.1).toArray) at_
    refine wpAny_pure ⟨_, rfl, fin _ u.heap.objs.size N c (fun b o e => ?_) eg eo up hc (pN.trans pM) eN⟩
    have lt := Heap.lt_size (keep b o e)
    show (PyProof.Rows.sortedHeap _ u.heap.objs.size _ _).get? b = some o
    rw [PyProof.Rows.sortedHeap_old (Nat.ne_of_lt lt) (by rw [PyProof.Rows.size_push']; exact Nat.lt_succ_of_lt lt)]
    exact Heap.get?_push_of_some _ (keep b o e)
  by_cases h2 : L.length < 2
  · refine wpAny_bind (wpAny_holding (wpAny_call_entry PyProof.Rows.slot_list_sort ⟨_, at_, rfl⟩ PyProof.Rows.entry_list_sort (SrtO.list_sort_ord (s := { u with heap := u.heap.push (PyProof.Rows.seqObj "list" (M.map fun q => Value.ref q.1).toArray 0) }) SrtO.swo_int at_ zM (fun h => absurd h (by rw [List.length_map, pM.length_eq]; omega)) fun out _ hb => ⟨_, rfl, ?_⟩) (PyProof.Rows.args_list_sort _)))
    have e := perm_short hb.perm (by rw [List.length_map, pM.length_eq]; exact h2)
    rw [e]
    refine close M (.refl _) ?_
    have : M = L := perm_short pM h2
    rw [this, perm_short (sortK_perm _) (by rw [List.length_map]; exact h2)]
  · obtain ⟨r1, r2⟩ := each_rows (a := u.heap.objs.size) tups
    have all_ne : ∀ p ∈ M, p.2 ≠ [] := fun p hp => by
      rcases ne with z | z
      · exact absurd z h2
      · exact z p (pM.mem_iff.mp hp)
    refine wpAny_bind (wpAny_holding (PySem.W.list_sort_data (s := { u with heap := u.heap.push (PyProof.Rows.seqObj "list" (M.map fun q => Value.ref q.1).toArray 0) }) at_ r1 r2 (.of fun b b' => alike_intD _ _) (.inl fun d hd => ?_) (by rw [sizeLine_eq]; omega) (fun b _ => ?_) fun out _ hR => ?_))
    · obtain ⟨b, hb, rfl⟩ := List.mem_map.mp hd
      cases hb2 : b.2 with
      | nil => exact absurd hb2 (all_ne b hb)
      | cons y r => exact ⟨_, _, rfl⟩
    · have : (intD b.2).depth ≤ 1 := by
        have := depth_ints b.2
        simp only [PyData.depth]
        omega
      have hin : A.in1.units = A.units + 1 := rfl
      omega
    · rw [each_refs hR]
      refine close _ (List.mergeSort_perm _ _) ?_
      rw [merge_rows]
      exact sortK_congr (pM.map _)
end
end Mi

/-! sorted(set(..)) by values. -/
namespace Mi
open PySem L2 PySem.Spec PyProof.Rows
theorem insU_mem (k : List Int) : ∀ (l : List (List Int)) (x : List Int), x ∈ insU k l ↔ x = k ∨ x ∈ l
  | [], x => by
    show x ∈ [k] ↔ _
    simp
  | y :: l, x => by
    show x ∈ (if lexLt k y = true then k :: y :: l else if lexLt y k = true then y :: insU k l else y :: l) ↔ _
    split
    · simp
    · split
      · have ih := insU_mem k l x
        simp only [List.mem_cons, ih]
        constructor
        · rintro (h | h | h)
          · exact .inr (.inl h)
          · exact .inl h
          · exact .inr (.inr h)
        · rintro (h | h | h)
          · exact .inr (.inl h)
          · exact .inl h
          · exact .inr (.inr h)
      · rename_i h1 h2
        have e : k = y := lexLt_total (by simpa using h1) (by simpa using h2)
        subst e
        simp
theorem insU_sorted (k : List Int) : ∀ l : List (List Int), l.Pairwise (fun a b => lexLt a b = true) → (insU k l).Pairwise fun a b => lexLt a b = true
  | [], _ => List.pairwise_singleton _ _
  | y :: l, h => by
    show (if lexLt k y = true then k :: y :: l else if lexLt y k = true then y :: insU k l else y :: l).Pairwise _
    have hy := List.pairwise_cons.mp h
    split
    · rename_i e
      refine List.pairwise_cons.mpr ⟨fun z hz => ?_, h⟩
      rcases List.mem_cons.mp hz with q | q
      · rw [q]; exact e
      · exact lexLt_trans e (hy.1 z q)
    · split
      · rename_i e
        refine List.pairwise_cons.mpr ⟨fun z hz => ?_, insU_sorted k l hy.2⟩
        rcases (insU_mem k l z).mp hz with q | q
        · rw [q]; exact e
        · exact hy.1 z q
      · exact h
theorem sortU_mem : ∀ (l : List (List Int)) (x : List Int), x ∈ sortU l ↔ x ∈ l
  | [], x => .rfl
  | y :: l, x => by
    show x ∈ insU y (sortU l) ↔ _
    rw [insU_mem, sortU_mem l x, List.mem_cons]
theorem sortU_sorted : ∀ l : List (List Int), (sortU l).Pairwise fun a b => lexLt a b = true
  | [] => .nil
  | y :: l => insU_sorted y _ (sortU_sorted l)
theorem lt_ne {a b : List Int} (h : lexLt a b = true) : a ≠ b := fun e => by
  rw [e, lexLt_irrefl] at h
  cases h
theorem lt_le {a b : List Int} (h : lexLt a b = true) : LeK a b := by
  rcases leK_total a b with z | z
  · exact z
  · unfold LeK at z
    rw [z] at h
    cases h
theorem sortU_nodup (l : List (List Int)) : (sortU l).Nodup := (sortU_sorted l).imp lt_ne
/-- the sorted rows of a set -/
theorem sortK_set {l u : List (List Int)} (h1 : l.Nodup) (h2 : ∀ x, x ∈ l ↔ x ∈ u) : sortK l = sortU u := by
  refine sorted_uniq ((sortK_perm l).trans ((List.perm_ext_iff_of_nodup h1 (sortU_nodup u)).mpr fun x => ?_)) (sortK_sorted l) ((sortU_sorted u).imp lt_le)
  rw [h2, sortU_mem]
theorem nodup_le {α : Type} [DecidableEq α] : ∀ {l D : List α}, l.Nodup → (∀ x ∈ l, x ∈ D) → l.length ≤ D.length
  | [], _, _, _ => Nat.zero_le _
  | x :: l, D, hn, hs => by
    have hx := List.nodup_cons.mp hn
    have hm := hs x List.mem_cons_self
    have := nodup_le (D := D.erase x) hx.2 fun y hy => (List.mem_erase_of_ne (fun (e : y = x) => hx.1 (e ▸ hy))).mpr (hs y (List.mem_cons_of_mem _ hy))
    rw [List.length_erase_of_mem hm] at this
    have := List.length_pos_of_mem hm
    rw [List.length_cons]
    omega
section
variable {X : Cx} {G : Nat → Addr} {m : Mem} {ι : Nat → Addr} {H : Hp} {Q : VK}
theorem reps_int_inv {n : Nat} : ∀ {k : List Int} {ys : List V}, Reps X.K G n ι H (k.map Val.int) ys → ys = k.map V.int
  | [], _, r => by cases r; rfl
  | x :: k, _, r => by
    cases r with
    | cons r1 rs =>
      cases r1
      rw [reps_int_inv rs]
      rfl
/-- the places of the rows -/
theorem rows_of {n : Nat} : ∀ {ks : List (List Int)} {ys : List V}, Reps X.K G n ι H (ks.map tupI) ys → ∃ rows : List (Addr × List Int), ys = rows.map (fun p => V.ref p.1) ∧ rows.map (·.2) = ks ∧ ∀ p ∈ rows, PlT X.K H p.1 (p.2.map V.int)
  | [], _, r => by
    cases r
    exact ⟨[], rfl, rfl, fun p h => by cases h⟩
  | k :: ks, _, r => by
    cases r with
    | cons r1 rs =>
      obtain ⟨rows, e1, e2, e3⟩ := rows_of rs
      cases r1 with
      | @tup a _ us hp ru =>
        have eu := reps_int_inv ru
        subst eu
        refine ⟨(a, k) :: rows, by rw [e1]; rfl, by rw [List.map_cons, e2], fun p hp' => ?_⟩
        rcases List.mem_cons.mp hp' with q | q
        · rw [q]; exact hp
        · exact e3 p q
theorem reps_rows {n : Nat} : ∀ {M : List (Addr × List Int)}, (∀ p ∈ M, PlT X.K H p.1 (p.2.map V.int)) → Reps X.K G n ι H ((M.map (·.2)).map tupI) (M.map fun p => V.ref p.1)
  | [], _ => .nil
  | p :: M, h => .cons (.tup (h p List.mem_cons_self) (reps_ints2 p.2)) (reps_rows fun q hq => h q (List.mem_cons_of_mem _ hq))
where
  reps_ints2 : ∀ k : List Int, Reps X.K G n ι H (k.map Val.int) (k.map V.int)
  | [] => .nil
  | x :: k => .cons (.int x) (reps_ints2 k)
theorem Post.from' {m1 : Mem} {ι1 : Nat → Addr} {H1 : Hp} {m' : Mem} {v : Val} (P : Post X G m ι H m' v Q) (e : Ext X.K m.n ι H m1.n ι1 H1) : Post X G m1 ι1 H1 m' v Q := fun ι' H' V R r e' => P ι' H' V R r (e.trans e')
theorem pv_ssetT {a : Nat} {xs : List Val} {ks : List (List Int)} {x : V} (hc : X.calm = true) (hu : X.A.units + 64 < cLine) (hl : lstAt m a = some xs) (hk : keysT xs = some ks) (h6 : Nat.blt (sortU ks).length 60 = true) (hs : small ks = true) (he : ((sortU ks).all fun k => !k.isEmpty || Nat.blt (sortU ks).length 2) = true) (R : Rel X.K G m ι H) (r : Rep X.K G m.n ι H (.ref a) x)
    (P : Post X G m ι H (m.new (.lst ((sortU ks).map tupI))) (.ref m.n) Q) : CallV X (.type "set") [x] H fun y H1 => CallV X (.builtin "sorted") [y] H1 Q := CallV.raw fun pins s σ us I rv => by
  cases r
  obtain ⟨ys, hy, rs⟩ := R.sql hl
  obtain ⟨its, rI, pl, hz⟩ := I.list hy
  obtain ⟨_, hx⟩ := keys_dp hk rs
  rw [hx] at rs
  rw [Vals.ref1 rv]
  obtain ⟨rows, e1, e2, e3⟩ := rows_of rs
  subst e1
  have h60 : (sortU ks).length < 60 := Nat.le_of_ble_eq_true h6
  have few : Few rows := fun L nd sub => by
    have := nodup_le (D := sortU ks) nd fun z hz => by
      obtain ⟨p, hp, e⟩ := List.mem_map.mp hz
      rw [sortU_mem, ← e2, ← e]
      exact List.mem_map.mpr ⟨p, sub p hp, rfl⟩
    rw [List.length_map] at this
    omega
  have n0 : H s.heap.objs.size = none := I.hok.fresh (Nat.le_refl _)
  refine call_setU (I.ok.hd hc) pl.isList (by simpa using refs_of_vals rI) (fun p hp => I.isT (e3 p hp).sq) few (by omega) fun h' tk L es ep t TR g keep => ?_
  have sub : ∀ p ∈ L, p ∈ rows := fun p hp => List.mem_of_mem_take (g.sub p hp)
  have plL : ∀ p ∈ L, PlT X.K (upd H s.heap.objs.size (SetTO X.prog X.w s.heap.objs.size L)) p.1 (p.2.map V.int) := fun p hp => (e3 p (sub p hp)).fresh n0
  have eL : sortK (L.map (·.2)) = sortU ks := sortK_set TR.nd fun z => by
    rw [← e2]
    constructor
    · intro hz
      obtain ⟨p, hp, e⟩ := List.mem_map.mp hz
      exact List.mem_map.mpr ⟨p, sub p hp, e⟩
    · intro hz
      obtain ⟨p, hp, e⟩ := List.mem_map.mp hz
      rw [← e]
      exact g.all p (by rw [List.take_length]; exact hp)
  have lenL : (sortU ks).length = L.length := by
    rw [← eL, (sortK_perm _).length_eq, List.length_map]
  refine ⟨.ref s.heap.objs.size, upd H s.heap.objs.size (SetTO X.prog X.w s.heap.objs.size L), I.laid (t' := tk) keep (Nat.le_refl _) (setTO_new TR.t0), rfl, CallV.raw fun pins2 s2 σ2 us2 I2 rv2 => ?_⟩
  rw [Vals.ref1 rv2]
  have T0 : SetT0 X.prog X.w s2.heap s.heap.objs.size L := (I2.hok _ _ upd_same).1
  obtain ⟨es2, ep2, t2, TR2⟩ := T0.full fun p hp => I2.isT (plL p hp).sq
  refine sorted_set TR2 (I2.ok.hd hc) (by omega) ?_ fun u p M c k2 g2 o2 up hp pM eM => ?_
  · by_cases h2 : L.length < 2
    · exact .inl h2
    · refine .inr fun p hp e => ?_
      have hm : p.2 ∈ sortU ks := by
        rw [sortU_mem, ← e2]
        exact List.mem_map.mpr ⟨p, sub p hp, rfl⟩
      have := List.all_eq_true.mp he p.2 hm
      have hb : Nat.blt (sortU ks).length 2 = false := by
        cases z : Nat.blt (sortU ks).length 2 with
        | false => rfl
        | true =>
          have := Nat.le_of_ble_eq_true z
          omega
      rw [e, hb] at this
      cases this
  · have nP : upd H s.heap.objs.size (SetTO X.prog X.w s.heap.objs.size L) p = none := I2.hok.fresh up
    have hlen : (M.map fun q => V.ref q.1).length ≤ sizeLine := by
      rw [List.length_map, pM.length_eq, ← lenL, sizeLine_eq]
      omega
    have ok : ObjOk X.prog X.w (upd (upd H s.heap.objs.size (SetTO X.prog X.w s.heap.objs.size L)) p (.lst (M.map fun q => V.ref q.1))) u.heap p (.lst (M.map fun q => V.ref q.1)) := ⟨hlen, _, c, vals_of_refs M, hp⟩
    have J : Inv X pins2 σ2 (upd (upd H s.heap.objs.size (SetTO X.prog X.w s.heap.objs.size L)) p (.lst (M.map fun q => V.ref q.1))) { s2 with heap := u.heap, gens := u.gens, drawn := u.drawn, toks := u.toks } :=
      I2.call (ch := []) (Un.laid k2 up nP) (I2.hok.laid k2 up ok) (by rw [g2]; exact I2.bare) (fun _ z => nomatch z)
    have eu : u = { s2 with heap := u.heap, gens := u.gens, drawn := u.drawn, toks := u.toks } := by
      cases u
      cases s2
      cases o2
      rfl
    rw [eu]
    refine ⟨.ref p, _, J, rfl, ?_⟩
    have ex : Ext X.K m.n ι H m.n ι (upd H s.heap.objs.size (SetTO X.prog X.w s.heap.objs.size L)) := ext_fresh n0
    refine Post.lst (P.from' ex) (R.fresh n0) ?_ nP
    rw [← eL, ← eM]
    exact reps_rows fun q hq => plL q (pM.mem_iff.mp hq)
end
end Mi

/-! Which text of the program a term of the small language stands for. -/
namespace Mi
open PySem L2 PySem.Spec PyProof.Rows

structure Ck where
  N : List Str
  bs : List Str
  nm : List Str
  sg : List (Nat × Nat × List Str × List Nat)
  gs : List (Str × Val)

mutual
def vsame : Val → Val → Bool
  | .non, .non => true
  | .bl a, .bl b => a == b
  | .int a, .int b => a == b
  | .str a, .str b => decide (a = b)
  | .tup a, .tup b => vsames a b
  | _, _ => false
def vsames : List Val → List Val → Bool
  | [], [] => true
  | x :: xs, y :: ys => vsame x y && vsames xs ys
  | _, _ => false
end
mutual
theorem vsame_eq : ∀ (a b : Val), vsame a b = true → a = b
  | .non, b, h => by cases b <;> first | rfl | (simp [vsame] at h)
  | .bl x, b, h => by cases b <;> first | (simp [vsame] at h; done) | (simp [vsame] at h; rw [h])
  | .int x, b, h => by cases b <;> first | (simp [vsame] at h; done) | (simp [vsame] at h; rw [h])
  | .str x, b, h => by cases b <;> first | (simp [vsame] at h; done) | (simp [vsame] at h; rw [h])
  | .tup x, b, h => by
    cases b with
    | tup y => rw [vsames_eq x y (by simpa [vsame] using h)]
    | _ => simp [vsame] at h
  | .rep x, b, h => by cases b <;> simp [vsame] at h
  | .ref x, b, h => by cases b <;> simp [vsame] at h
  | .ty x, b, h => by cases b <;> simp [vsame] at h
  | .glo x, b, h => by cases b <;> simp [vsame] at h
theorem vsames_eq : ∀ (a b : List Val), vsames a b = true → a = b
  | [], b, h => by cases b <;> first | rfl | (simp [vsames] at h)
  | x :: xs, b, h => by
    cases b with
    | nil => simp [vsames] at h
    | cons y ys =>
      simp only [vsames, Bool.and_eq_true] at h
      rw [vsame_eq x y h.1, vsames_eq xs ys h.2]
end

def isVis (sc : Scope) (x : Str) : Bool :=
  (match sc.names.lookup x with
    | some .local => true
    | some .cell => true
    | some .free => true
    | _ => false) && !(x == ("__debug__" : Str)) && !(x == ("__classdict__" : Str))
def isLoc (sc : Scope) (x : Str) : Bool :=
  match sc.names.lookup x with
  | some .local => true
  | some .cell => true
  | _ => false
def isGlo (sc : Scope) (x : Str) : Bool := decide (sc.names.lookup x = some .globalImplicit) && !(x == ("__debug__" : Str))
def isBlt (C : Ck) (sc : Scope) (x : Str) : Bool := isGlo sc x && C.bs.contains x && !(x == ("__name__" : Str))
def at0 (N : List Str) (i : Nat) (x : Str) : Bool := decide (N[i]? = some x)

/-- BoolOp of one value is the value -/
def strip : Expr → Expr
  | .BoolOp _ [a] _ => a
  | e => e
def constIs : Val → Const → Bool
  | .non, .none => true
  | .bl a, .bool b => a == b
  | .int a, .int b => a == b
  | .str a, .str b => decide (a = b)
  | _, _ => false
def noSlice : Expr → Bool
  | .Slice .. => false
  | _ => true
def binOf : Prim → Option Operator
  | .add => some .Add | .sub => some .Sub | .mul => some .Mult | .mod => some .Mod | .fdiv => some .FloorDiv | .pow => some .Pow
  | _ => none
def cmpOf : Prim → Option CmpOp
  | .eq => some .Eq | .ne => some .NotEq | .lt => some .Lt | .le => some .LtE | .gt => some .Gt | .ge => some .GtE | .in_ => some .In | .notIn => some .NotIn
  | _ => none
/-- a built-in function, a built-in class, by its name; how many arguments -/
def bltOf : Prim → Option (Str × Nat)
  | .len => some ("len", 1) | .abs => some ("abs", 1) | .all => some ("all", 1) | .any => some ("any", 1) | .divmod => some ("divmod", 2) | .repr => some ("repr", 1) | .max2 => some ("max", 2) | .min2 => some ("min", 2)
  | .minT => some ("min", 1) | .sortT => some ("sorted", 1)
  | _ => none
def tyOf : Prim → Option (Str × Nat)
  | .int => some ("int", 1) | .tuple => some ("tuple", 1) | .list => some ("list", 1)
  | _ => none

/-- the expressions whose values the operation takes, if e is such an operation's text -/
def synP (C : Ck) (sc : Scope) (p : Prim) (e : Expr) : Option (List Expr) :=
  match e with
  | .BinOp a op b _ => if binOf p = some op then some [a, b] else none
  | .Compare a [op] [b] _ =>
    if cmpOf p = some op && !behindInMarks op b then some [a, b] else
    match p, op, b with
    | .isN, .Is, .Constant .none _ _ => some [a]
    | .notN, .IsNot, .Constant .none _ _ => some [a]
    | _, _, _ => none
  | .UnaryOp .USub a _ => match p with
    | .neg => some [a]
    | _ => none
  | .Tuple es _ _ => match p with
    | .tupD => if es.all plainArg then some es else none
    | _ => none
  | .List es _ => match p with
    | .lstD => if es.all plainArg then some es else none
    | _ => none
  | .Dict [] [] _ => match p with
    | .dkD => some []
    | _ => none
  | .Subscript a (.Slice lo hi st _) _ => match p, lo, hi, st with
    | .slc false true, none, some j, none => some [a, j]
    | .slc true false, some i, none, none => some [a, i]
    | .slc true true, some i, some j, none => some [a, i, j]
    | .rev, none, none, some (.UnaryOp .USub (.Constant (.int 1) _ _) _) => some [a]
    | _, _, _, _ => none
  | .Subscript a b _ => match p with
    | .item => if noSlice b then some [a, b] else none
    | _ => none
  | .Call (.Name x _) es [] _ =>
    if es.all plainArg then
      match p, es with
      | .listRange, [.Call (.Name y _) [a] [] _] => if decide (x = ("list" : Str)) && decide (y = ("range" : Str)) && isBlt C sc x && isBlt C sc y && plainArg a then some [a] else none
      | .ssetT, [.Call (.Name y _) [a] [] _] => if decide (x = ("sorted" : Str)) && decide (y = ("set" : Str)) && isBlt C sc x && isBlt C sc y && plainArg a then some [a] else none
      | .isinst t, [a, .Name y _] => if decide (t ≠ .non) && decide (x = ("isinstance" : Str)) && decide (y = Str.ofString t.name) && isBlt C sc x && isBlt C sc y then some [a] else none
      | p, es => match bltOf p with
        | some (n, k) => if decide (x = n) && isBlt C sc x && decide (es.length = k) then some es else none
        | none => match tyOf p with
          | some (n, k) => if decide (x = n) && isBlt C sc x && decide (es.length = k) then some es else none
          | none => none
    else none
  | _ => none
/-- a method's call: the object, the arguments -/
def synM (p : Prim) (e : Expr) : Option (Expr × List Expr) :=
  match e with
  | .Call (.Attribute o nm apos) es [] pos => match methId p with
    | some (n, _) => if decide (nm = n) && es.all plainArg && (apos.endLine == pos.line) && decide (es.length < 20) then
        (match o with
          | .Call .. => none
          | _ => some (o, es))
      else none
    | none => none
  | _ => none
/-- what is walked: the argument expressions -/
def synI (C : Ck) (sc : Scope) (k : ItK) (e : Expr) : Option (List Expr) :=
  match k with
  | .plain => (match e with
    | .Set .. => none
    | .Call .. => some [e]
    | _ => some [e])
  | .range1 => (match e with
    | .Call (.Name x _) [a] [] _ => if decide (x = ("range" : Str)) && isBlt C sc x && plainArg a then some [a] else none
    | _ => none)
  | .range2 => (match e with
    | .Call (.Name x _) [a, b] [] _ => if decide (x = ("range" : Str)) && isBlt C sc x && plainArg a && plainArg b then some [a, b] else none
    | _ => none)
  | .enum => (match e with
    | .Call (.Name x _) [a] [] _ => if decide (x = ("enumerate" : Str)) && isBlt C sc x && plainArg a then some [a] else none
    | _ => none)
  | .zip => (match e with
    | .Call (.Name x _) [a, b] [] _ => if decide (x = ("zip" : Str)) && isBlt C sc x && plainArg a && plainArg b then some [a, b] else none
    | _ => none)
def isPair : ItK → Bool
  | .enum => true
  | .zip => true
  | _ => false
/-- a loop's target -/
def chkT (C : Ck) (sc : Scope) (k : ItK) (t : Pt) (e : Expr) : Bool :=
  match t, e with
  | .one i, .Name x _ => at0 C.N i x && isLoc sc x && !isPair k
  | .two i j, .Tuple [.Name x _, .Name y _] _ _ => at0 C.N i x && isLoc sc x && at0 C.N j y && isLoc sc y
  | _, _ => false
def ownOf (N : List Str) : List Nat → Option (List (Str × Nat))
  | [] => some []
  | i :: r => match N[i]?, ownOf N r with
    | some x, some l => some ((x, i) :: l)
    | _, _ => none
def Pt.mem (own : List Nat) : Pt → Bool
  | .one i => own.contains i
  | .two i j => own.contains i && own.contains j

mutual
def chkE (C : Ck) : E → Scope → Expr → Bool
  | .var i, sc, e => match strip e with
    | .Name x _ => at0 C.N i x && isVis sc x
    | _ => false
  | .cst v, sc, e => match strip e with
    | .Constant c _ _ => constIs v c
    | .Name x _ => isGlo sc x && C.gs.any fun g => decide (g.1 = x) && vsame g.2 v
    | _ => false
  | .prim p as, sc, e => match synP C sc p (strip e) with
    | some es => chkL C as sc es
    | none => false
  | .meth p o as, sc, e => match synM p (strip e) with
    | some (oe, es) => chkE C o sc oe && chkL C as sc es
    | none => false
  | .and a b, sc, e => match strip e with
    | .BoolOp .And (x :: y :: r) pos => chkE C a sc x && chkE C b sc (.BoolOp .And (y :: r) pos)
    | _ => false
  | .or a b, sc, e => match strip e with
    | .BoolOp .Or (x :: y :: r) pos => chkE C a sc x && chkE C b sc (.BoolOp .Or (y :: r) pos)
    | _ => false
  | .not a, sc, e => match strip e with
    | .UnaryOp .Not x _ => chkE C a sc x
    | _ => false
  | .ite c a b, sc, e => match strip e with
    | .IfExp x y z _ => chkE C c sc x && chkE C a sc y && chkE C b sc z
    | _ => false
  | .chain p q a b c, sc, e => match strip e with
    | .Compare x [o1, o2] [y, z] _ => decide (cmpOf p = some o1) && decide (cmpOf q = some o2) && decide (o1 ≠ .In) && decide (o1 ≠ .NotIn) && decide (o2 ≠ .In) && decide (o2 ≠ .NotIn) && chkE C a sc x && chkE C b sc y && chkE C c sc z
    | _ => false
  | .call f perm as, sc, e => match strip e with
    | .Call (.Name x _) es kws _ => isGlo sc x && decide (C.nm[f]? = some x) && es.all plainArg && (C.sg.any fun s => s.1 == f && s.2.1 == es.length && decide (kws.map kwName = s.2.2.1.map some) && decide (s.2.2.2 = perm))
        && chkL C as sc (es ++ kws.map kwVal)
    | _ => false
  | .lcomp own k tg it cond elt, sc, e => match strip e with
    | .ListComp ex [⟨te, ie, ifs, 0⟩] scope _ => match synI C sc k ie, ownOf C.N own with
      | some is, some ow => blkC C.N sc scope ow && chkL C it sc is && chkT C scope k tg te && tg.mem own && (match ifs with
          | [] => (match cond with
            | .yes => true
            | _ => false)
          | [c] => chkE C cond scope c
          | _ => false) && chkE C elt scope ex
      | _, _ => false
    | _ => false
  | .yes, _, _ => false
  | .nil, _, _ => false
  | .cons _ _, _, _ => false
def chkL (C : Ck) : E → Scope → List Expr → Bool
  | .nil, _, [] => true
  | .cons a r, sc, e :: es => chkE C a sc e && chkL C r sc es
  | _, _, _ => false
end
def chkG (C : Ck) (sc : Scope) : Tg → Expr → Bool
  | .name i, .Name x _ => at0 C.N i x && isLoc sc x
  | .item o i, .Subscript a b _ => chkE C o sc a && chkE C i sc b && noSlice b
  | .two a b, .Tuple [x, y] _ _ => plainArg x && plainArg y && chkG C sc a x && chkG C sc b y
  | _, _ => false
def isComp : Expr → Bool
  | .ListComp .. => true
  | .SetComp .. => true
  | .DictComp .. => true
  | _ => false
def isTup : Expr → Bool
  | .Tuple .. => true
  | .List .. => true
  | _ => false
end Mi

/-! An expression of the program does what its term computes. -/
namespace Mi
open PySem L2 PySem.Spec PyProof.Rows

/-- the slots -/
structure StaR (K : PySem.W.Frag) (G : Nat → Addr) (n : Nat) (ι : Nat → Addr) (H : Hp) (σ : Sta) (ρ : L2.St) : Prop where
  len : σ.length = ρ.length
  at_ : ∀ i v, getS σ i = some v → ∃ V, ρ[i]? = some (some V) ∧ Rep K G n ι H v V
section
variable {K : PySem.W.Frag} {G : Nat → Addr} {n n' : Nat} {ι ι' : Nat → Addr} {H H' : Hp} {σ : Sta} {ρ : L2.St}
theorem StaR.ext (s : StaR K G n ι H σ ρ) (e : Ext K n ι H n' ι' H') : StaR K G n' ι' H' σ ρ := ⟨s.len, fun i v h => let ⟨V, a, b⟩ := s.at_ i v h; ⟨V, a, b.ext e⟩⟩
theorem setS_length : ∀ (σ : Sta) (i : Nat) (v : Option Val), (setS σ i v).length = σ.length
  | [], _, _ => rfl
  | _ :: r, 0, _ => rfl
  | x :: r, i + 1, v => by
    show (setS r i v).length + 1 = r.length + 1
    rw [setS_length r i v]
theorem getS_set : ∀ (σ : Sta) (i j : Nat) (v : Option Val), getS (setS σ i v) j = if i = j then (if j < σ.length then v else none) else getS σ j
  | [], i, j, v => by
    show none = _
    split
    · rfl
    · rfl
  | x :: r, 0, 0, v => by simp [setS, getS]
  | x :: r, 0, j + 1, v => by simp [setS, getS]
  | x :: r, i + 1, 0, v => by simp [setS, getS]
  | x :: r, i + 1, j + 1, v => by
    show getS (setS r i v) j = _
    rw [getS_set r i j v]
    simp [getS]
theorem getS_lt : ∀ {σ : Sta} {i : Nat} {v : Val}, getS σ i = some v → i < σ.length
  | [], _, _, h => by cases h
  | _ :: r, 0, _, _ => Nat.succ_pos _
  | _ :: r, i + 1, v, h => Nat.succ_lt_succ (getS_lt (σ := r) (i := i) (v := v) h)
theorem StaR.set {i : Nat} {v : Val} {V : V} (s : StaR K G n ι H σ ρ) (r : Rep K G n ι H v V) : StaR K G n ι H (setS σ i (some v)) (ρ.set i (some V)) := by
  refine ⟨by rw [setS_length, List.length_set]; exact s.len, fun j w h => ?_⟩
  rw [getS_set] at h
  by_cases e : i = j
  · subst e
    rw [if_pos rfl] at h
    split at h
    · rename_i hl
      cases h
      exact ⟨V, by rw [List.getElem?_set_self (by rw [← s.len]; exact hl)], r⟩
    · cases h
  · rw [if_neg e] at h
    obtain ⟨W, a, b⟩ := s.at_ j w h
    exact ⟨W, by rw [List.getElem?_set_ne e]; exact a, b⟩
theorem wipe_len (ρ : L2.St) (is : List Nat) : (wipe ρ is).length = ρ.length := wipe_length ρ is
theorem StaR.wipe (s : StaR K G n ι H σ ρ) : ∀ is : List Nat, StaR K G n ι H (wipeS σ is) (L2.wipe ρ is)
  | [] => s
  | i :: is => by
    have ih := s.wipe is
    refine ⟨?_, fun j w h => ?_⟩
    · show (setS (wipeS σ is) i none).length = ((L2.wipe ρ is).set i none).length
      rw [setS_length, List.length_set]
      exact ih.len
    · have h' : getS (setS (wipeS σ is) i none) j = some w := h
      rw [getS_set] at h'
      by_cases e : i = j
      · rw [if_pos e] at h'
        split at h' <;> cases h'
      · rw [if_neg e] at h'
        obtain ⟨W, a, b⟩ := ih.at_ j w h'
        refine ⟨W, ?_, b⟩
        show ((L2.wipe ρ is).set i none)[j]? = _
        rw [List.getElem?_set_ne e]
        exact a
end

/-- the promise of the def f at level k: what its run computes -/
def spEv (K : PySem.W.Frag) (G : Nat → Addr) (Pm : List Fn) (k f : Nat) : SpG := fun vs H Q => ∃ (m : Mem) (ι : Nat → Addr) (args : List Val) (v : Val) (m' : Mem),
  Rel K G m ι H ∧ Reps K G m.n ι H args vs ∧ run Pm k f args m = .val v m' ∧
  ∀ ι' H' V, Rel K G m' ι' H' → Rep K G m'.n ι' H' v V → Ext K m.n ι H m'.n ι' H' → Q V H'

/-- what a context must offer -/
structure XOk (C : Ck) (G : Nat → Addr) (ad : Nat → Addr) (fd : Nat → FuncData) (psf : Nat → List Str) (Pm : List Fn) (k : Nat) (X : Cx) : Prop where
  N : X.N = C.N
  nd : X.N.Nodup
  room : Room k X.A
  gd : X.A.guards = some []
  calm : X.calm = true
  bs : ∀ x ∈ C.bs, X.mg x = none
  nm : ∀ f x, C.nm[f]? = some x → X.mg x = some (.ref (ad f)) ∧ PySem.W.keepIn X.K (.ref (ad f)) = true ∧ FnG X.prog X.w X.K X.mg X.base k (ad f) (fd f) (psf f) (spEv X.K G Pm k f)
  sg : ∀ s ∈ C.sg, BindEv X.K (fd s.1) (psf s.1) s.2.2.1 s.2.1 s.2.2.2
  gs : ∀ g ∈ C.gs, ∃ u V, X.mg g.1 = some u ∧ RelV V u ∧ ∀ n ι H, Rep X.K G n ι H g.2 V
/-- the written scope and the one that runs -/
structure ScOk (sc : Scope) (X : Cx) : Prop where
  at_ : ∀ x k, sc.names.lookup x = some k → X.env.scope.names.lookup x = some k ∨ (k = .free ∧ X.env.scope.names.lookup x = some .cell)
  fn : ∀ x, sc.names.lookup x = some .cell → X.fn x = true
section
variable {X : Cx} {sc : Scope} {x : Str}
theorem ScOk.vis (s : ScOk sc X) (h : isVis sc x = true) : Vis X.env.scope x ∧ (x == ("__debug__" : Str)) = false ∧ (x == ("__classdict__" : Str)) = false := by
  unfold isVis at h
  simp only [Bool.and_eq_true, Bool.not_eq_true'] at h
  refine ⟨?_, h.1.2, h.2⟩
  have h1 := h.1.1
  split at h1
  · rename_i e
    rcases s.at_ _ _ e with q | ⟨q, _⟩
    · exact .inl q
    · cases q
  · rename_i e
    rcases s.at_ _ _ e with q | ⟨q, _⟩
    · exact .inr (.inl q)
    · cases q
  · rename_i e
    rcases s.at_ _ _ e with q | ⟨_, q⟩
    · exact .inr (.inr q)
    · exact .inr (.inl q)
  · cases h1
theorem ScOk.loc (s : ScOk sc X) (h : isLoc sc x = true) : Loc X.env.scope x ∧ (X.fn x = true ∨ X.env.scope.names.lookup x = some .local) := by
  unfold isLoc at h
  split at h
  · rename_i e
    rcases s.at_ _ _ e with q | ⟨q, _⟩
    · exact ⟨.inl q, .inr q⟩
    · cases q
  · rename_i e
    rcases s.at_ _ _ e with q | ⟨q, _⟩
    · exact ⟨.inr q, .inl (s.fn _ e)⟩
    · cases q
  · cases h
theorem ScOk.glo (s : ScOk sc X) (h : isGlo sc x = true) : Gl X x ∧ (x == ("__debug__" : Str)) = false := by
  unfold isGlo at h
  simp only [Bool.and_eq_true, Bool.not_eq_true', decide_eq_true_eq] at h
  rcases s.at_ _ _ h.1 with q | ⟨q, _⟩
  · exact ⟨q, h.2⟩
  · cases q
end

section
variable {C : Ck} {G : Nat → Addr} {ad : Nat → Addr} {fd : Nat → FuncData} {psf : Nat → List Str} {Pm : List Fn} {k : Nat} {X : Cx} {sc : Scope}
theorem XOk.blt (o : XOk C G ad fd psf Pm k X) (s : ScOk sc X) {x : Str} (h : isBlt C sc x = true) : Gl X x ∧ X.mg x = none ∧ x ≠ "__name__" ∧ (x == ("__debug__" : Str)) = false := by
  unfold isBlt at h
  simp only [Bool.and_eq_true, Bool.not_eq_true', List.contains_iff_mem] at h
  obtain ⟨g, d⟩ := s.glo h.1.1
  exact ⟨g, o.bs x h.1.2, fun e => by rw [e] at h; exact absurd h.2 (by decide), d⟩

/-! ### what is to be shown of a term -/
def SE (X : Cx) (G : Nat → Addr) (call : Nat → List Val → Mem → Res) (t : E) (e : Expr) : Prop :=
  ∀ (σ : Sta) (m : Mem) (v : Val) (m' : Mem) (ρ : L2.St) (H : Hp) (ι : Nat → Addr) (Q : VK), t.ev call σ m = .val v m' → Rel X.K G m ι H → StaR X.K G m.n ι H σ ρ → Post X G m ι H m' v Q → wE X e ρ H Q
def PostT (X : Cx) (G : Nat → Addr) (m : Mem) (ι : Nat → Addr) (H : Hp) (m' : Mem) (b : Bool) (Q : Bool → Hp → Prop) : Prop := ∀ ι' H', Rel X.K G m' ι' H' → Ext X.K m.n ι H m'.n ι' H' → Q b H'
def ST (X : Cx) (G : Nat → Addr) (call : Nat → List Val → Mem → Res) (t : E) (e : Expr) : Prop :=
  ∀ (σ : Sta) (m : Mem) (v : Val) (m' : Mem) (b : Bool) (ρ : L2.St) (H : Hp) (ι : Nat → Addr) (Q : Bool → Hp → Prop), t.ev call σ m = .val v m' → truth m' v = some b → Rel X.K G m ι H → StaR X.K G m.n ι H σ ρ → PostT X G m ι H m' b Q → wT X e ρ H Q
def SW (X : Cx) (G : Nat → Addr) (call : Nat → List Val → Mem → Res) (t : E) (e : Expr) : Prop :=
  ∀ (σ : Sta) (m : Mem) (v : Val) (m' : Mem) (b : Bool) (ρ : L2.St) (H : Hp) (ι : Nat → Addr) (Q : Bool → Hp → Prop), t.ev call σ m = .val v m' → truth m' v = some b → Rel X.K G m ι H → StaR X.K G m.n ι H σ ρ → PostT X G m ι H m' b Q → wW X e ρ H Q
def PostL (X : Cx) (G : Nat → Addr) (m : Mem) (ι : Nat → Addr) (H : Hp) (m' : Mem) (vs : List Val) (Q : List V → Hp → Prop) : Prop :=
  ∀ ι' H' Vs, Rel X.K G m' ι' H' → Reps X.K G m'.n ι' H' vs Vs → Ext X.K m.n ι H m'.n ι' H' → Q Vs H'
/-- one expression behind another -/
def wEs (X : Cx) : List Expr → TA
  | [] => tNil
  | e :: r => fun σ H Q => wE X e σ H fun v H1 => wEs X r σ H1 fun vs H2 => Q (v :: vs) H2
def SL (X : Cx) (G : Nat → Addr) (call : Nat → List Val → Mem → Res) (t : E) (es : List Expr) : Prop :=
  ∀ (σ : Sta) (m : Mem) (vs : List Val) (m' : Mem) (ρ : L2.St) (H : Hp) (ι : Nat → Addr) (Q : List V → Hp → Prop), t.ev call σ m = .vals vs m' → Rel X.K G m ι H → StaR X.K G m.n ι H σ ρ → PostL X G m ι H m' vs Q → wEs X es ρ H Q
theorem wEs.as {es : List Expr} {ρ : L2.St} : ∀ {H : Hp} {Q : List V → Hp → Prop}, es.all plainArg = true → wEs X es ρ H Q → wAs X es ρ H Q := by
  induction es with
  | nil => exact fun _ h => h
  | cons e r ih =>
    intro H Q hp h
    rw [List.all_cons, Bool.and_eq_true] at hp
    exact wA_cons hp.1 (wE.mono h fun v H1 q => ih hp.2 q)
theorem wEs.append {a b : List Expr} {ρ : L2.St} : ∀ {H : Hp} {Q : List V → Hp → Prop}, wEs X (a ++ b) ρ H Q → wEs X a ρ H fun vs H1 => wEs X b ρ H1 fun ws H2 => Q (vs ++ ws) H2 := by
  induction a with
  | nil => exact fun h => h
  | cons e r ih => exact fun h => wE.mono h fun v H1 q => ih q
theorem wEs.mono {es : List Expr} {ρ : L2.St} : ∀ {H : Hp} {Q Q' : List V → Hp → Prop}, wEs X es ρ H Q → (∀ vs H', Q vs H' → Q' vs H') → wEs X es ρ H Q' := by
  induction es with
  | nil => exact fun h f => f _ _ h
  | cons e r ih => exact fun h f => wE.mono h fun v H1 q => ih q fun vs H' => f _ _
theorem wEs.kw {kws : List Keyword} {ρ : L2.St} : ∀ {H : Hp} {Q : List V → Hp → Prop}, wEs X (kws.map kwVal) ρ H Q → wK X kws ρ H Q := by
  induction kws with
  | nil => exact fun h => wK_nil h
  | cons z r ih =>
    obtain ⟨n, e, q⟩ := z
    exact fun h => wK_cons (wE.mono h fun v H1 q => ih q)

/-! ### truth -/
theorem tru_V {m : Mem} {ι : Nat → Addr} {H : Hp} {v : Val} {b : Bool} {x : V} (h : truth m v = some b) (R : Rel X.K G m ι H) (r : Rep X.K G m.n ι H v x) : TruV X.K x H b := by
  unfold truth at h
  split at h
  · cases h; cases r; rfl
  · cases h; cases r; rfl
  · cases h; cases r; rfl
  · cases h
    cases r with
    | @tup p _ ys hp rs => exact .inr (.inl ⟨ys, hp.sq, by rw [rs.isEmpty]⟩)
  · rename_i i
    cases r
    split at h
    · rename_i xs e
      cases h
      obtain ⟨ys, hy, rs⟩ := R.lst e
      exact .inl ⟨ys, SqL.of hy, by rw [rs.isEmpty]⟩
    · rename_i xs e
      cases h
      obtain ⟨ys, hy, rs⟩ := R.rol e
      exact .inl ⟨ys, hy.sq, by rw [rs.isEmpty]⟩
    · rename_i xs e
      cases h
      obtain ⟨ys, hy, rs⟩ := R.dk e
      refine .inr (.inr ⟨ys, hy, ?_⟩)
      cases rs <;> rfl
    · cases h
  · cases h
/-- a test that is a value's truth -/
theorem ST.of_SE {call : Nat → List Val → Mem → Res} {t : E} {e : Expr} (h : SE X G call t e) (he : ∀ wh, isTrue e X.env wh = (do let v ← wh; standAt e.pos; holding [v] (truthy v))) : ST X G call t e :=
  fun σ m v m' b ρ H ι Q ev tr R S P => wT.of (pt_truth pe_w he) (h σ m v m' ρ H ι _ ev R S fun ι' H' V R' r E => ⟨b, tru_V tr R' r, P ι' H' R' E⟩)

/-! ### operations -/
section
variable {m m' : Mem} {ι : Nat → Addr} {H : Hp} {Q : VK} {x y : Val} {V W : L2.V} {v : Val}
theorem prim_bin {p : Prim} {op : Operator} (hb : binOf p = some op) (h : prim p [x, y] m = some (v, m')) (R : Rel X.K G m ι H) (rx : Rep X.K G m.n ι H x V) (ry : Rep X.K G m.n ι H y W) (P : Post X G m ι H m' v Q) : OpV X (binaryOp op) V W H Q := by
  cases p <;> first | (cases hb; done) | (injection hb with hb; subst hb)
  · exact pv_add h R rx ry P
  · cases x <;> cases y <;> first | (simp [prim] at h; done) | skip
    simp only [prim] at h
    cases h
    exact pv_ints op_sub rx ry (.int _) R P
  · exact pv_mul h R rx ry P
  · cases x <;> cases y <;> first | (simp [prim] at h; done) | skip
    simp only [prim] at h
    split at h
    · rename_i hc
      cases h
      exact pv_intsC op_mod (of_decide_eq_true hc) rx ry (.int _) R P
    · cases h
  · cases x <;> cases y <;> first | (simp [prim] at h; done) | skip
    simp only [prim] at h
    split at h
    · rename_i hc
      cases h
      rw [Bool.and_eq_true, decide_eq_true_eq, decide_eq_true_eq] at hc
      exact pv_intsC op_fdiv hc rx ry (.int _) R P
    · cases h
  · cases x <;> cases y <;> first | (simp [prim] at h; done) | skip
    simp only [prim] at h
    split at h
    · rename_i hc
      cases h
      exact pv_intsC op_pow (okPow_ok hc) rx ry (.int _) R P
    · cases h
theorem prim_cmp_bl {p : Prim} {op : CmpOp} (hb : cmpOf p = some op) (h : prim p [x, y] m = some (v, m')) : ∃ c, v = .bl c := by
  cases p <;> first | (cases hb; done) | skip
  · simp only [prim] at h
    split at h <;> cases h
    exact ⟨_, rfl⟩
  · simp only [prim] at h
    split at h <;> cases h
    exact ⟨_, rfl⟩
  · cases x <;> cases y <;> first | (simp [prim] at h; done) | (simp only [prim] at h; cases h; exact ⟨_, rfl⟩)
  · cases x <;> cases y <;> first | (simp [prim] at h; done) | (simp only [prim] at h; cases h; exact ⟨_, rfl⟩)
  · cases x <;> cases y <;> first | (simp [prim] at h; done) | (simp only [prim] at h; cases h; exact ⟨_, rfl⟩)
  · cases x <;> cases y <;> first | (simp [prim] at h; done) | (simp only [prim] at h; cases h; exact ⟨_, rfl⟩)
  · simp only [prim] at h
    split at h <;> cases h
    exact ⟨_, rfl⟩
  · simp only [prim] at h
    split at h <;> cases h
    exact ⟨_, rfl⟩
theorem prim_cmp {j : Nat} (hr : Room j X.A) {p : Prim} {op : CmpOp} (hb : cmpOf p = some op) (h : prim p [x, y] m = some (v, m')) (R : Rel X.K G m ι H) (rx : Rep X.K G m.n ι H x V) (ry : Rep X.K G m.n ι H y W) (P : Post X G m ι H m' v Q) : OpV X (compareOp op) V W H Q := by
  have hu := hr.un
  cases p <;> first | (cases hb; done) | (injection hb with hb; subst hb)
  · simp only [prim] at h
    split at h <;> cases h
    exact pv_eq (by omega) (by assumption) R rx ry P
  · simp only [prim] at h
    split at h <;> cases h
    exact pv_ne (by omega) (by assumption) R rx ry P
  · cases x <;> cases y <;> first | (simp [prim] at h; done) | skip
    simp only [prim] at h
    cases h
    exact pv_ints op_lt rx ry (.bl _) R P
  · cases x <;> cases y <;> first | (simp [prim] at h; done) | skip
    simp only [prim] at h
    cases h
    exact pv_ints op_le rx ry (.bl _) R P
  · cases x <;> cases y <;> first | (simp [prim] at h; done) | skip
    simp only [prim] at h
    cases h
    exact pv_ints op_gt rx ry (.bl _) R P
  · cases x <;> cases y <;> first | (simp [prim] at h; done) | skip
    simp only [prim] at h
    cases h
    exact pv_ints op_ge rx ry (.bl _) R P
  · simp only [prim] at h
    split at h <;> cases h
    exact pv_in (neg := false) rfl (by omega) (by assumption) R rx ry P
  · simp only [prim] at h
    split at h <;> cases h
    exact pv_in (neg := true) rfl (by omega) (by assumption) R rx ry P
end
/-- the values have come: the memory, what is wanted of the operation's value -/
def Come (X : Cx) (G : Nat → Addr) (m2 : Mem) (vs : List Val) (m' : Mem) (v : Val) (Q : VK) : List V → Hp → Prop := fun Vs H2 => ∃ ι2, Rel X.K G m2 ι2 H2 ∧ Reps X.K G m2.n ι2 H2 vs Vs ∧ Post X G m2 ι2 H2 m' v Q
theorem reps1 {n : Nat} {ι : Nat → Addr} {H : Hp} {vs : List Val} {V : L2.V} (r : Reps X.K G n ι H vs [V]) : ∃ x, vs = [x] ∧ Rep X.K G n ι H x V := by
  cases r with
  | cons a t => cases t; exact ⟨_, rfl, a⟩
theorem reps2 {n : Nat} {ι : Nat → Addr} {H : Hp} {vs : List Val} {V W : L2.V} (r : Reps X.K G n ι H vs [V, W]) : ∃ x y, vs = [x, y] ∧ Rep X.K G n ι H x V ∧ Rep X.K G n ι H y W := by
  cases r with
  | cons a t =>
    obtain ⟨y, rfl, b⟩ := reps1 t
    exact ⟨_, y, rfl, a, b⟩
theorem reps3 {n : Nat} {ι : Nat → Addr} {H : Hp} {vs : List Val} {V W Z : L2.V} (r : Reps X.K G n ι H vs [V, W, Z]) : ∃ x y z, vs = [x, y, z] ∧ Rep X.K G n ι H x V ∧ Rep X.K G n ι H y W ∧ Rep X.K G n ι H z Z := by
  cases r with
  | cons a t =>
    obtain ⟨y, z, rfl, b, c⟩ := reps2 t
    exact ⟨_, y, z, rfl, a, b, c⟩
theorem noslice_plain {b : Expr} (h : noSlice b = true) : PlainIx b := by
  intro o i
  cases b <;> first | (cases h; done) | rfl
/-- a built-in is called by its name -/
theorem wE_blt {ρ : L2.St} {H : Hp} {Q : VK} {x : Str} {id : String} {es : List Expr} {p pos : Pos} (hg : Gl X x) (hm : X.mg x = none) (hn : x ≠ "__name__") (hd : (x == ("__debug__" : Str)) = false) (hv : bootBuiltins x = some (.builtin id)) (he : es.all plainArg = true) (h0 : es ≠ [])
    (h : wAs X es ρ H fun vs H1 => CallV X (.builtin id) vs H1 Q) : wE X (.Call (.Name x p) es [] pos) ρ H Q := by
  cases es with
  | nil => exact absurd rfl h0
  | cons e es =>
    rw [List.all_cons, Bool.and_eq_true] at he
    exact wE.of (pe_callB callV hg hm hv pas_w hn hd (starEach_plain X.env he.1 es) (backTo_plain X.env pos he.2)) h
theorem wE_bltT {ρ : L2.St} {H : Hp} {Q : VK} {x : Str} {T : String} {es : List Expr} {p pos : Pos} (hg : Gl X x) (hm : X.mg x = none) (hn : x ≠ "__name__") (hd : (x == ("__debug__" : Str)) = false) (hv : bootBuiltins x = some (.type T)) (he : es.all plainArg = true) (h0 : es ≠ [])
    (h : wAs X es ρ H fun vs H1 => CallV X (.type T) vs H1 Q) : wE X (.Call (.Name x p) es [] pos) ρ H Q := by
  cases es with
  | nil => exact absurd rfl h0
  | cons e es =>
    rw [List.all_cons, Bool.and_eq_true] at he
    exact wE.of (pe_callTy callV hg hm hv pas_w hn hd (starEach_plain X.env he.1 es) (backTo_plain X.env pos he.2)) h
end
end Mi

/-! An operation's text does what the operation computes. -/
namespace Mi
open PySem L2 PySem.Spec PyProof.Rows
section
variable {C : Ck} {G : Nat → Addr} {ad : Nat → Addr} {fd : Nat → FuncData} {psf : Nat → List Str} {Pm : List Fn} {k : Nat} {X : Cx} {sc : Scope} {ρ : L2.St} {H : Hp} {Q : VK} {m2 m' : Mem} {vs : List Val} {v : Val}

theorem come1 {V : L2.V} (h : Come X G m2 vs m' v Q [V] H) : ∃ ι x, vs = [x] ∧ Rel X.K G m2 ι H ∧ Rep X.K G m2.n ι H x V ∧ Post X G m2 ι H m' v Q := by
  obtain ⟨ι, R, r, P⟩ := h
  obtain ⟨x, rfl, r1⟩ := reps1 r
  exact ⟨ι, x, rfl, R, r1, P⟩
theorem come2 {V W : L2.V} (h : Come X G m2 vs m' v Q [V, W] H) : ∃ ι x y, vs = [x, y] ∧ Rel X.K G m2 ι H ∧ Rep X.K G m2.n ι H x V ∧ Rep X.K G m2.n ι H y W ∧ Post X G m2 ι H m' v Q := by
  obtain ⟨ι, R, r, P⟩ := h
  obtain ⟨x, y, rfl, r1, r2⟩ := reps2 r
  exact ⟨ι, x, y, rfl, R, r1, r2, P⟩
theorem come3 {V W Z : L2.V} (h : Come X G m2 vs m' v Q [V, W, Z] H) : ∃ ι x y z, vs = [x, y, z] ∧ Rel X.K G m2 ι H ∧ Rep X.K G m2.n ι H x V ∧ Rep X.K G m2.n ι H y W ∧ Rep X.K G m2.n ι H z Z ∧ Post X G m2 ι H m' v Q := by
  obtain ⟨ι, R, r, P⟩ := h
  obtain ⟨x, y, z, rfl, r1, r2, r3⟩ := reps3 r
  exact ⟨ι, x, y, z, rfl, R, r1, r2, r3, P⟩

theorem prim_blt (o : XOk C G ad fd psf Pm k X) {p : Prim} {n : Str} {a : Nat} (hb : bltOf p = some (n, a)) (hp : prim p vs m2 = some (v, m')) {Vs : List L2.V} (hl : Vs.length = a) (c : Come X G m2 vs m' v Q Vs H) :
    ∃ id, bootBuiltins n = some (.builtin id) ∧ CallV X (.builtin id) Vs H Q := by
  have one : ∀ {Vs : List L2.V}, Vs.length = 1 → ∃ V, Vs = [V] := fun {Vs} h => by
    match Vs, h with
    | [V], _ => exact ⟨V, rfl⟩
  have two : ∀ {Vs : List L2.V}, Vs.length = 2 → ∃ V W, Vs = [V, W] := fun {Vs} h => by
    match Vs, h with
    | [V, W], _ => exact ⟨V, W, rfl⟩
  cases p <;> first | (cases hb; done) | (injection hb with hb; injection hb with hb1 hb2; subst hb1; subst hb2)
  -- len
  · obtain ⟨V, rfl⟩ := one hl
    obtain ⟨ι, x, rfl, R, r, P⟩ := come1 c
    refine ⟨"len", PySem.boot_len, ?_⟩
    simp only [prim] at hp
    split at hp <;> cases hp
    exact pv_len (by assumption) R r P
  -- abs
  · obtain ⟨V, rfl⟩ := one hl
    obtain ⟨ι, x, rfl, R, r, P⟩ := come1 c
    refine ⟨"abs", by decide +kernel, ?_⟩
    cases x <;> first | (simp [prim] at hp; done) | skip
    simp only [prim] at hp
    cases hp
    exact pv_abs R r P
  -- max
  · obtain ⟨V, W, rfl⟩ := two hl
    obtain ⟨ι, x, y, rfl, R, r1, r2, P⟩ := come2 c
    refine ⟨"max", by decide +kernel, ?_⟩
    cases x <;> cases y <;> first | (simp [prim] at hp; done) | skip
    simp only [prim] at hp
    cases hp
    exact pv_max2 o.calm R r1 r2 P
  -- min
  · obtain ⟨V, W, rfl⟩ := two hl
    obtain ⟨ι, x, y, rfl, R, r1, r2, P⟩ := come2 c
    refine ⟨"min", by decide +kernel, ?_⟩
    cases x <;> cases y <;> first | (simp [prim] at hp; done) | skip
    simp only [prim] at hp
    cases hp
    exact pv_min2 o.calm R r1 r2 P
  -- all
  · obtain ⟨V, rfl⟩ := one hl
    obtain ⟨ι, x, rfl, R, r, P⟩ := come1 c
    refine ⟨"all", by decide +kernel, ?_⟩
    cases x <;> first | (simp [prim] at hp; done) | skip
    simp only [prim] at hp
    split at hp <;> first | (cases hp; done) | skip
    split at hp <;> cases hp
    exact pv_all o.calm (by assumption) (by assumption) R r P
  -- any
  · obtain ⟨V, rfl⟩ := one hl
    obtain ⟨ι, x, rfl, R, r, P⟩ := come1 c
    refine ⟨"any", by decide +kernel, ?_⟩
    cases x <;> first | (simp [prim] at hp; done) | skip
    simp only [prim] at hp
    split at hp <;> first | (cases hp; done) | skip
    split at hp <;> cases hp
    exact pv_any o.calm (by assumption) (by assumption) R r P
  -- divmod
  · obtain ⟨V, W, rfl⟩ := two hl
    obtain ⟨ι, x, y, rfl, R, r1, r2, P⟩ := come2 c
    refine ⟨"divmod", by decide +kernel, ?_⟩
    cases x <;> cases y <;> first | (simp [prim] at hp; done) | skip
    simp only [prim] at hp
    split at hp <;> cases hp
    rename_i hc
    rw [Bool.and_eq_true, decide_eq_true_eq, decide_eq_true_eq] at hc
    exact pv_divmod hc.1 hc.2 R r1 r2 P
  -- repr
  · obtain ⟨V, rfl⟩ := one hl
    obtain ⟨ι, x, rfl, R, r, P⟩ := come1 c
    refine ⟨"repr", by decide +kernel, ?_⟩
    simp only [prim] at hp
    split at hp <;> first | (cases hp; done) | skip
    split at hp <;> cases hp
    rename_i hc
    rw [Bool.and_eq_true] at hc
    have hz := Nat.le_of_ble_eq_true hc.2
    exact pv_repr o.gd o.room (by assumption) hc.1 (by rw [sizeLine_eq]; unfold showB at hz; omega) R r P
  -- min of tuples
  · obtain ⟨V, rfl⟩ := one hl
    obtain ⟨ι, x, rfl, R, r, P⟩ := come1 c
    refine ⟨"min", by decide +kernel, ?_⟩
    cases x <;> first | (simp [prim] at hp; done) | skip
    simp only [prim] at hp
    split at hp <;> first | (cases hp; done) | skip
    split at hp <;> cases hp
    exact pv_minT o.calm o.room.units (by assumption) (by assumption) R r P
  -- sorted tuples
  · obtain ⟨V, rfl⟩ := one hl
    obtain ⟨ι, x, rfl, R, r, P⟩ := come1 c
    refine ⟨"sorted", by decide +kernel, ?_⟩
    cases x <;> first | (simp [prim] at hp; done) | skip
    simp only [prim] at hp
    split at hp <;> first | (cases hp; done) | skip
    split at hp <;> first | (cases hp; done) | skip
    split at hp <;> cases hp
    rename_i hc
    rw [Bool.and_eq_true] at hc
    exact pv_sortT o.calm o.room.units (by assumption) (by assumption) hc.1 hc.2 R r P
theorem prim_ty {p : Prim} {n : Str} {a : Nat} (hb : tyOf p = some (n, a)) (hp : prim p vs m2 = some (v, m')) {Vs : List L2.V} (hl : Vs.length = a) (c : Come X G m2 vs m' v Q Vs H) :
    ∃ T, bootBuiltins n = some (.type T) ∧ CallV X (.type T) Vs H Q := by
  have one : ∀ {Vs : List L2.V}, Vs.length = 1 → ∃ V, Vs = [V] := fun {Vs} h => by
    match Vs, h with
    | [V], _ => exact ⟨V, rfl⟩
  cases p <;> first | (cases hb; done) | (injection hb with hb; injection hb with hb1 hb2; subst hb1; subst hb2)
  · obtain ⟨V, rfl⟩ := one hl
    obtain ⟨ι, x, rfl, R, r, P⟩ := come1 c
    refine ⟨"int", by decide +kernel, ?_⟩
    cases x <;> first | (simp [prim] at hp; done) | skip
    simp only [prim] at hp
    cases hp
    exact pv_int R r P
  · obtain ⟨V, rfl⟩ := one hl
    obtain ⟨ι, x, rfl, R, r, P⟩ := come1 c
    refine ⟨"tuple", by decide +kernel, ?_⟩
    simp only [prim] at hp
    split at hp <;> cases hp
    exact pv_tuple (by assumption) R r P
  · obtain ⟨V, rfl⟩ := one hl
    obtain ⟨ι, x, rfl, R, r, P⟩ := come1 c
    refine ⟨"list", by decide +kernel, ?_⟩
    simp only [prim] at hp
    split at hp <;> cases hp
    exact pv_list (by assumption) R r P
theorem range_V : ∀ (a : Int) (n : Nat) {ι : Nat → Addr}, Reps X.K G m2.n ι H (rangeV a n) ((List.range n).map fun i => V.int (a + (i : Nat)))
  | a, 0, ι => .nil
  | a, n + 1, ι => by
    have ih := range_V (a + 1) n (ι := ι)
    rw [List.range_succ_eq_map, List.map_cons, List.map_map]
    refine .cons ?_ ?_
    · show Rep X.K G m2.n ι H (.int a) (.int (a + ((0 : Nat) : Int)))
      rw [show a + ((0 : Nat) : Int) = a by omega]
      exact .int a
    · have e : (List.range n).map ((fun i => V.int (a + (i : Nat))) ∘ Nat.succ) = (List.range n).map fun i => V.int (a + 1 + (i : Nat)) := by
        refine List.map_congr_left fun i _ => ?_
        show V.int (a + ((i + 1 : Nat) : Int)) = V.int (a + 1 + (i : Nat))
        rw [show a + ((i + 1 : Nat) : Int) = a + 1 + (i : Nat) by omega]
      rw [e]
      exact ih

/-- a[i:j] -/
theorem wE_slc {e lo hi : Expr} {p2 pos : Pos} (h : wE X e ρ H fun x H1 => wE X lo ρ H1 fun y H2 => wE X hi ρ H2 fun z H3 => ∃ i j, y = .int i ∧ z = .int j ∧ rSlP X x (some i) (some j) H3 Q) : wE X (.Subscript e (.Slice (some lo) (some hi) none p2) pos) ρ H Q := fun pins s I => by
  refine Subscript_ (thn (h pins s I) fun v s1 ⟨x, H1, I1, r1, q1⟩ => ?_)
  refine wpAny_Slice ?_
  rw [evalPart_some, evalPart_some]
  refine thn (q1 pins s1 I1) fun vl s2 ⟨y, H2, I2, r2, q2⟩ => thn (q2 pins s2 I2) fun vu s3 ⟨z, H3, I3, r3, i, j, ey, ez, q⟩ => ?_
  subst ey ez
  obtain ⟨t1, rfl⟩ := (show ∃ t, vl = Value.int i t from r2)
  obtain ⟨t2, rfl⟩ := (show ∃ t, vu = Value.int j t from r3)
  rw [evalPart_none]
  refine wpAny_pure ?_
  have I4 : Inv X pins ρ H3 { s3 with heap := s3.heap.push { cls := .type "slice", data := .fields #[.int i t1, .int j t2, .none] } } := I3.kept (t' := s3.toks) fun b ob q => Heap.get?_push_of_some _ q
  obtain ⟨T, id, hT, ht, hg⟩ := sl_P pins { s3 with heap := s3.heap.push { cls := .type "slice", data := .fields #[.int i t1, .int j t2, .none] } } ρ H3 x v _ _ (some i) (some j) s3.heap.objs.size Q I4 r1 (Heap.IsSliceOf.new ..) (.int i t1) (.int j t2) q
  exact tail_any (ops := [.ref s3.heap.objs.size, v]) ht hT hg (by with_unfolding_all rfl)
theorem isi_E (o : XOk C G ad fd psf Pm k X) (s : ScOk sc X) {t : Kind} {a : Expr} {x y : Str} {px py pos : Pos} (hc : (decide (t ≠ .non) && decide (x = ("isinstance" : Str)) && decide (y = Str.ofString t.name) && isBlt C sc x && isBlt C sc y) = true)
    (hpl : ([a, Expr.Name y py] : List Expr).all plainArg = true) (hp : prim (.isinst t) vs m2 = some (v, m')) (h : wEs X [a] ρ H (Come X G m2 vs m' v Q)) : wE X (.Call (.Name x px) [a, .Name y py] [] pos) ρ H Q := by
  simp only [Bool.and_eq_true, decide_eq_true_eq] at hc
  obtain ⟨⟨⟨⟨nn, rfl⟩, rfl⟩, b1⟩, b2⟩ := hc
  obtain ⟨g1, m1, n1, d1⟩ := o.blt s b1
  obtain ⟨g2, m3, n2, d2⟩ := o.blt s b2
  have hb : bootBuiltins (Str.ofString t.name) = some (.type t.name) := by
    cases t <;> first | exact absurd rfl nn | decide +kernel
  refine wE_blt g1 m1 n1 d1 (id := "isinstance") (by decide +kernel) hpl (by simp) (wEs.as hpl ?_)
  refine wE.mono h fun V H1 c => wE.of (pe_bltn g2 m3 hb (show RelV (.ty t.name) (.type t.name) from rfl) n2 d2) ?_
  obtain ⟨ι, z, rfl, R, r, P⟩ := come1 c
  simp only [prim] at hp
  split at hp <;> cases hp
  exact pv_isinst (by assumption) R r P
theorem wEs.length {es : List Expr} : ∀ {H : Hp} {Q : List L2.V → Hp → Prop}, wEs X es ρ H Q → wEs X es ρ H fun Vs H' => Vs.length = es.length ∧ Q Vs H' := by
  induction es with
  | nil => exact fun h => ⟨rfl, h⟩
  | cons e r ih => exact fun h => wE.mono h fun v H1 q => wEs.mono (ih q) fun vs H' z => ⟨by rw [List.length_cons, List.length_cons, z.1], z.2⟩
theorem blt_boot {p : Prim} {n : Str} {a : Nat} (hb : bltOf p = some (n, a)) : 0 < a ∧ ∃ id, bootBuiltins n = some (.builtin id) := by
  cases p <;> first | (cases hb; done) | (injection hb with hb; injection hb with hb1 hb2; subst hb1; subst hb2; refine ⟨by decide, ?_⟩)
  · exact ⟨"len", PySem.boot_len⟩
  · exact ⟨"abs", by decide +kernel⟩
  · exact ⟨"max", by decide +kernel⟩
  · exact ⟨"min", by decide +kernel⟩
  · exact ⟨"all", by decide +kernel⟩
  · exact ⟨"any", by decide +kernel⟩
  · exact ⟨"divmod", by decide +kernel⟩
  · exact ⟨"repr", by decide +kernel⟩
  · exact ⟨"min", by decide +kernel⟩
  · exact ⟨"sorted", by decide +kernel⟩
theorem ty_boot {p : Prim} {n : Str} {a : Nat} (hb : tyOf p = some (n, a)) : 0 < a ∧ ∃ T, bootBuiltins n = some (.type T) := by
  cases p <;> first | (cases hb; done) | (injection hb with hb; injection hb with hb1 hb2; subst hb1; subst hb2; refine ⟨by decide, ?_⟩)
  · exact ⟨"int", by decide +kernel⟩
  · exact ⟨"tuple", by decide +kernel⟩
  · exact ⟨"list", by decide +kernel⟩
theorem blt_E (o : XOk C G ad fd psf Pm k X) (s : ScOk sc X) {p : Prim} {n x : Str} {a : Nat} {px pos : Pos} {es : List Expr} (hb : bltOf p = some (n, a)) (hc : (decide (x = n) && isBlt C sc x && decide (es.length = a)) = true)
    (hpl : es.all plainArg = true) (hp : prim p vs m2 = some (v, m')) (h : wEs X es ρ H (Come X G m2 vs m' v Q)) : wE X (.Call (.Name x px) es [] pos) ρ H Q := by
  simp only [Bool.and_eq_true, decide_eq_true_eq] at hc
  obtain ⟨⟨rfl, b1⟩, hl⟩ := hc
  obtain ⟨g1, m1, n1, d1⟩ := o.blt s b1
  obtain ⟨ha, id, hv⟩ := blt_boot hb
  refine wE_blt g1 m1 n1 d1 hv hpl (fun z => by subst z; simp at hl; omega) (wEs.as hpl (wEs.mono (wEs.length h) fun Vs H' z => ?_))
  obtain ⟨id', hv', c⟩ := prim_blt o hb hp (z.1.trans hl) z.2
  have e := hv.symm.trans hv'
  injection e with e
  injection e with e
  rw [e]
  exact c
theorem ty_E (o : XOk C G ad fd psf Pm k X) (s : ScOk sc X) {p : Prim} {n x : Str} {a : Nat} {px pos : Pos} {es : List Expr} (hb : tyOf p = some (n, a)) (hc : (decide (x = n) && isBlt C sc x && decide (es.length = a)) = true)
    (hpl : es.all plainArg = true) (hp : prim p vs m2 = some (v, m')) (h : wEs X es ρ H (Come X G m2 vs m' v Q)) : wE X (.Call (.Name x px) es [] pos) ρ H Q := by
  simp only [Bool.and_eq_true, decide_eq_true_eq] at hc
  obtain ⟨⟨rfl, b1⟩, hl⟩ := hc
  obtain ⟨g1, m1, n1, d1⟩ := o.blt s b1
  obtain ⟨ha, id, hv⟩ := ty_boot hb
  refine wE_bltT g1 m1 n1 d1 hv hpl (fun z => by subst z; simp at hl; omega) (wEs.as hpl (wEs.mono (wEs.length h) fun Vs H' z => ?_))
  obtain ⟨id', hv', c⟩ := prim_ty hb hp (z.1.trans hl) z.2
  have e := hv.symm.trans hv'
  injection e with e
  injection e with e
  rw [e]
  exact c

/-- one operation: its arguments' values have come -/
theorem prim_E (o : XOk C G ad fd psf Pm k X) (s : ScOk sc X) {p : Prim} {e : Expr} {es : List Expr} (hs : synP C sc p e = some es) (hp : prim p vs m2 = some (v, m')) (h : wEs X es ρ H (Come X G m2 vs m' v Q)) : wE X e ρ H Q := by
  unfold synP at hs
  split at hs
  -- BinOp
  · split at hs <;> cases hs
    rename_i hb
    refine wE.of (pe_op opV pe_w pe_w) (wE.mono h fun V H1 h1 => wE.mono h1 fun W H2 c => ?_)
    obtain ⟨ι, x, y, rfl, R, r1, r2, P⟩ := come2 c
    exact prim_bin hb hp R r1 r2 P
  -- Compare
  · split at hs
    · rename_i hb
      cases hs
      rw [Bool.and_eq_true, decide_eq_true_eq, Bool.not_eq_true'] at hb
      refine wE.of (pe_cmpR opV pe_w pe_w hb.2) (wE.mono h fun V H1 h1 => wE.mono h1 fun W H2 c => ?_)
      obtain ⟨ι, x, y, rfl, R, r1, r2, P⟩ := come2 c
      exact prim_cmp o.room hb.1 hp R r1 r2 P
    · split at hs <;> cases hs
      · refine wE.of (pe_cmp (pc_isN pe_w)) (wE.mono h fun V H1 c => ?_)
        obtain ⟨ι, x, rfl, R, r, P⟩ := come1 c
        simp only [prim] at hp
        cases hp
        have q := P.same R (.bl _)
        cases r <;> exact q
      · refine wE.of (pe_cmp (pc_notN pe_w)) (wE.mono h fun V H1 c => ?_)
        obtain ⟨ι, x, rfl, R, r, P⟩ := come1 c
        simp only [prim] at hp
        cases hp
        have q := P.same R (.bl _)
        cases r <;> exact q
  -- UnaryOp
  · split at hs <;> cases hs
    refine wE.of (pe_un un_neg pe_w) (wE.mono h fun V H1 c => ?_)
    obtain ⟨ι, x, rfl, R, r, P⟩ := come1 c
    cases x <;> first | (simp [prim] at hp; done) | skip
    simp only [prim] at hp
    cases hp
    cases r
    exact ⟨_, rfl, P.same R (.int _)⟩
  -- Tuple
  · split at hs <;> first | (cases hs; done) | skip
    split at hs <;> cases hs
    rename_i hpl
    refine wE_tup (wEs.as hpl (wEs.mono h fun Vs H1 c => ?_))
    obtain ⟨ι, R, r, P⟩ := c
    simp only [prim] at hp
    split at hp <;> cases hp
    rename_i hz
    exact ⟨by rw [← r.length]; exact small_line hz, fun q ob h0 hd => P.tup R r h0 hd⟩
  -- List
  · split at hs <;> first | (cases hs; done) | skip
    split at hs <;> cases hs
    rename_i hpl
    refine wE.of (pe_lst pas_w) (wEs.as hpl (wEs.mono h fun Vs H1 c => ?_))
    obtain ⟨ι, R, r, P⟩ := c
    simp only [prim] at hp
    split at hp <;> cases hp
    rename_i hz
    exact ⟨by rw [← r.length]; exact small_line hz, fun q h0 => P.lst R r h0⟩
  -- Dict
  · split at hs <;> cases hs
    refine wE.of pe_dnewK ?_
    obtain ⟨ι, R, r, P⟩ := (show Come X G m2 vs m' v Q [] H from h)
    cases r
    simp only [prim] at hp
    cases hp
    exact fun p h0 => P.dk R h0
  -- slices
  · split at hs <;> cases hs
    · refine wE.of (pe_slice sl_P pe_w po_none (po_some pe_w)) (wE.mono h fun V H1 h1 => wE.mono h1 fun W H2 c => ?_)
      obtain ⟨ι, x, y, rfl, R, r1, r2, P⟩ := come2 c
      cases x <;> cases y <;> first | (simp [prim] at hp; done) | skip
      simp only [prim] at hp
      cases hp
      cases r2
      exact ⟨_, rfl, pv_cut r1 R P⟩
    · refine wE.of (pe_slice sl_P pe_w (po_some pe_w) po_none) (wE.mono h fun V H1 h1 => wE.mono h1 fun W H2 c => ?_)
      obtain ⟨ι, x, y, rfl, R, r1, r2, P⟩ := come2 c
      cases x <;> cases y <;> first | (simp [prim] at hp; done) | skip
      simp only [prim] at hp
      cases hp
      cases r2
      exact ⟨_, rfl, pv_cut r1 R P⟩
    · refine wE_slc (wE.mono h fun V H1 h1 => wE.mono h1 fun W H2 h2 => wE.mono h2 fun Z H3 c => ?_)
      obtain ⟨ι, x, y, z, rfl, R, r1, r2, r3, P⟩ := come3 c
      cases x <;> cases y <;> cases z <;> first | (simp [prim] at hp; done) | skip
      simp only [prim] at hp
      cases hp
      cases r2
      cases r3
      exact ⟨_, _, rfl, rfl, pv_cut r1 R P⟩
    · refine wE_rev (wE.mono h fun V H1 c => wE.of (pe_un un_neg pe_int) ?_)
      obtain ⟨ι, x, rfl, R, r, P⟩ := come1 c
      cases x <;> first | (simp [prim] at hp; done) | skip
      simp only [prim] at hp
      cases hp
      cases r with
      | @tup p _ ys hp rs => exact ⟨1, rfl, rfl, p, ys, rfl, hp, fun q ob h0 hd => P.tup R rs.rev h0 hd⟩
  -- items
  · split at hs <;> first | (cases hs; done) | skip
    split at hs <;> cases hs
    rename_i hn
    refine wE.of (pe_ix ixV pe_w pe_w (noslice_plain hn)) (wE.mono h fun V H1 h1 => wE.mono h1 fun W H2 c => ?_)
    obtain ⟨ι, x, y, rfl, R, r1, r2, P⟩ := come2 c
    simp only [prim] at hp
    split at hp <;> cases hp
    exact pv_item o.room (by assumption) R r1 r2 P
  -- calls
  · split at hs <;> first | (cases hs; done) | skip
    rename_i hpl
    split at hs
    · split at hs <;> cases hs
      rename_i hc
      simp only [Bool.and_eq_true, decide_eq_true_eq] at hc
      obtain ⟨⟨⟨⟨rfl, rfl⟩, b1⟩, b2⟩, pl⟩ := hc
      obtain ⟨g1, m1, _, d1⟩ := o.blt s b1
      obtain ⟨g2, n2, _, d2⟩ := o.blt s b2
      refine wE.of (pe_listRg o.calm g1 m1 (prg_1 g2 n2 pe_w (starEach_plain X.env pl [])) (starEach_plain X.env rfl [])) (wE.mono h fun V H1 c => ?_)
      obtain ⟨ι, x, rfl, R, r, P⟩ := come1 c
      cases x <;> first | (simp [prim] at hp; done) | skip
      simp only [prim] at hp
      split at hp <;> cases hp
      rename_i i hi
      rw [Bool.and_eq_true, decide_eq_true_eq, decide_eq_true_eq] at hi
      cases r
      refine ⟨i, rfl, ⟨by decide, by decide, by omega, by omega, by omega⟩, fun q h0 => ?_⟩
      have e : rgV 0 i = (List.range i.toNat).map fun z => V.int (0 + (z : Nat)) := by
        unfold rgV
        rw [Int.sub_zero]
      rw [e]
      exact P.lst R (range_V 0 i.toNat) h0
    · split at hs <;> cases hs
      rename_i hc
      simp only [Bool.and_eq_true, decide_eq_true_eq] at hc
      obtain ⟨⟨⟨⟨rfl, rfl⟩, b1⟩, b2⟩, pl⟩ := hc
      obtain ⟨g1, m1, n1, d1⟩ := o.blt s b1
      obtain ⟨g2, m2', n2, d2⟩ := o.blt s b2
      refine wE_blt g1 m1 n1 d1 (id := "sorted") (by decide +kernel) rfl (fun z => by cases z) (wEs.as rfl (show wE X _ ρ H fun V H1 => CallV X (.builtin "sorted") [V] H1 Q from ?_))
      refine wE_bltT g2 m2' n2 d2 (T := "set") (by decide +kernel) (by rw [List.all_cons, pl]; rfl) (fun z => by cases z) (wEs.as (by rw [List.all_cons, pl]; rfl) (wE.mono h fun V H1 c => ?_))
      obtain ⟨ι, x, rfl, R, r, P⟩ := come1 c
      obtain ⟨r0, hr0, q0⟩ : CallV X (.type "set") [V] H1 fun y H1 => CallV X (.builtin "sorted") [y] H1 Q := by
        cases x <;> first | (simp [prim] at hp; done) | skip
        simp only [prim] at hp
        split at hp <;> first | (cases hp; done) | skip
        split at hp <;> first | (cases hp; done) | skip
        split at hp <;> cases hp
        rename_i hc
        rw [Bool.and_eq_true, Bool.and_eq_true] at hc
        exact pv_ssetT o.calm o.room.units (by assumption) (by assumption) hc.1.1 hc.1.2 hc.2 R r P
      exact ⟨r0, hr0, q0⟩
    · split at hs <;> cases hs
      rename_i hc
      exact isi_E o s hc hpl hp h
    · split at hs
      · rename_i n a hb
        split at hs <;> cases hs
        rename_i hc
        exact blt_E o s hb hc hpl hp h
      · split at hs
        · rename_i n a hb
          split at hs <;> cases hs
          rename_i hc
          exact ty_E o s hb hc hpl hp h
        · cases hs
  · cases hs
end
end Mi

/-! Methods' calls; comprehensions' and loops' sources. -/
namespace Mi
open PySem L2 PySem.Spec PyProof.Rows
section
variable {C : Ck} {G : Nat → Addr} {ad : Nat → Addr} {fd : Nat → FuncData} {psf : Nat → List Str} {Pm : List Fn} {k : Nat} {X : Cx} {sc : Scope} {ρ : L2.St} {H : Hp} {Q : VK} {m2 m' : Mem} {vs : List Val} {v : Val}

theorem few_plain (env : Env) (pos : Pos) : ∀ {es : List Expr}, es.all plainArg = true → ((backTo pos (starEach es env)).all fun x => !x.1) = true
  | [], _ => rfl
  | e :: es, h => by
    rw [List.all_cons, Bool.and_eq_true] at h
    rw [starEach_plain env h.1]
    show (true && (backTo pos (starEach es env)).all fun x => !x.1) = true
    rw [few_plain env pos h.2]
    rfl
theorem base_plain {o : Expr} {nm : Str} {env : Env} {wh : Sem Value} (h : ∀ f as ks p, o ≠ .Call f as ks p) : attributeBase o nm env wh = wh := by
  cases o <;> first | rfl | exact absurd rfl (h _ _ _ _)
/-- o.m(..): the type is told by the object's value -/
theorem wE_meth {o : Expr} {nm : Str} {es : List Expr} {apos pos : Pos} (hb : ∀ f as ks p, o ≠ .Call f as ks p) (hpl : es.all plainArg = true) (hl : (apos.endLine == pos.line) = true) (h20 : es.length < 20)
    (h : wE X o ρ H fun x H1 => ∃ T id, MethT T nm id ∧ TyM X T x H1 ∧ wAs X es ρ H1 fun xs H2 => MtV X id x xs H2 Q) : wE X (.Call (.Attribute o nm apos) es [] pos) ρ H Q := fun pins s I => by
  cases es with
  | nil =>
    refine wpAny_Call_method0_late (base_plain hb) hl (thn (h pins s I) fun v s1 ⟨x, H1, I1, r1, T, id, M, ty, q⟩ => ?_)
    obtain ⟨h1, h2⟩ := ty pins ρ s1 v I1 r1
    exact ⟨T, id, M.pa, M.slot, M.ty, h1, h2, Calls.callWith_builtin rfl (PySem.evalArgs_none (q pins s1 ρ v [] I1 r1 .nil))⟩
  | cons e es =>
    have hpl' := hpl
    rw [List.all_cons, Bool.and_eq_true] at hpl
    have hs := starEach_plain X.env hpl.1 es
    have hfew : ((backTo pos (starEach (e :: es) X.env)).all (fun x => !x.1) && (backToKw pos (keywordEach [] X.env)).all (fun x => x.1.isSome)
        && decide ((e :: es).length + ([] : List Keyword).length + (if ([] : List Keyword).isEmpty then 0 else 1) < 30)) = true := by
      rw [few_plain X.env pos hpl']
      show (true && true && decide _) = true
      rw [decide_eq_true]
      · rfl
      · show (e :: es).length + 0 + 0 < 30
        omega
    refine wpAny_Call_method_late (base_plain hb) hfew hl rfl (thn (h pins s I) fun v s1 ⟨x, H1, I1, r1, T, id, M, ty, q⟩ => ?_)
    obtain ⟨h1, h2⟩ := ty pins ρ s1 v I1 r1
    refine ⟨T, id, M.pa, M.slot, M.ty, h1, h2, ?_⟩
    have hA := q pos pins s1 I1
    rw [hs] at hA ⊢
    refine Calls.callWith_builtin ?_ (Calls.evalArgs_plain (thn hA fun us s2 ⟨xs, H2, I2, r2, q2⟩ => q2 pins s2 ρ v us I2 r1 r2))
    show (false || (backTo pos (starEach es X.env)).any (·.1)) = false
    rw [backTo_plain X.env pos hpl.2]
    rfl
/-- the values of a method's call: what the operation computes -/
theorem prim_M {p : Prim} {nm : Str} {id : String} {x : Val} (hi : methId p = some (nm, id)) {kd : Kind} (hk : methOk p kd = true) (hp : prim p (x :: vs) m2 = some (v, m')) {V : L2.V} {Vs : List L2.V} {ι : Nat → Addr} (R : Rel X.K G m2 ι H) (rx : Rep X.K G m2.n ι H x V) (rs : Reps X.K G m2.n ι H vs Vs)
    (P : Post X G m2 ι H m' v Q) : MtV X id V Vs H Q := by
  cases p <;> first | (cases hi; done) | (injection hi with hi; injection hi with hi1 hi2; subst hi1; subst hi2)
  -- append
  · cases x <;> first | (simp [prim] at hp; done) | skip
    cases rs with
    | nil => simp [prim] at hp
    | cons r1 rs =>
      cases rs with
      | cons _ _ => simp [prim] at hp
      | nil =>
        simp only [prim] at hp
        split at hp <;> first | (cases hp; done) | skip
        split at hp <;> cases hp
        exact pm_append (by assumption) (by assumption) R rx r1 P
  -- extend
  · cases x <;> first | (simp [prim] at hp; done) | skip
    cases rs with
    | nil => simp [prim] at hp
    | @cons y _ _ _ r1 rs =>
      cases rs with
      | cons _ _ => cases y <;> simp [prim] at hp
      | nil =>
        cases y <;> first | (simp [prim] at hp; done) | skip
        simp only [prim] at hp
        split at hp <;> first | (cases hp; done) | skip
        split at hp <;> cases hp
        rename_i hs
        rw [Bool.and_eq_true] at hs
        exact pm_extend (by assumption) (by assumption) hs.1 hs.2 R rx r1 P
  -- popAt
  · cases x <;> first | (simp [prim] at hp; done) | skip
    cases rs with
    | nil => simp [prim] at hp
    | @cons y _ _ _ r1 rs =>
      cases rs with
      | cons _ _ => cases y <;> simp [prim] at hp
      | nil =>
        cases y <;> first | (simp [prim] at hp; done) | skip
        simp only [prim] at hp
        split at hp <;> first | (cases hp; done) | skip
        split at hp <;> first | (cases hp; done) | skip
        rename_i hs
        rw [Bool.and_eq_true, decide_eq_true_eq] at hs
        split at hp <;> cases hp
        exact pm_popAt (by assumption) hs.1 hs.2 (by assumption) R rx r1 P
  -- pop
  · cases x <;> first | (simp [prim] at hp; done) | skip
    cases rs with
    | cons _ _ => simp [prim] at hp
    | nil =>
      simp only [prim] at hp
      split at hp <;> first | (cases hp; done) | skip
      split at hp <;> cases hp
      exact pm_pop (by assumption) (by assumption) R rx P
  -- count
  · cases x <;> first | (simp [prim] at hp; done) | skip
    cases rs with
    | nil => simp [prim] at hp
    | @cons y _ _ _ r1 rs =>
      cases rs with
      | cons _ _ => cases y <;> simp [prim] at hp
      | nil =>
        cases y <;> first | (simp [prim] at hp; done) | skip
        simp only [prim] at hp
        split at hp <;> cases hp
        exact pm_count (by assumption) R rx r1 P
  -- index
  · simp [prim] at hp
  · simp [prim] at hp
  -- setdefault
  · cases x <;> first | (simp [prim] at hp; done) | skip
    cases rs with
    | nil => simp [prim] at hp
    | @cons y _ _ _ r1 rs =>
      cases rs with
      | nil => simp [prim] at hp
      | @cons z _ _ _ r2 rs =>
        cases rs with
        | cons _ _ => simp [prim] at hp
        | nil =>
          simp only [prim] at hp
          split at hp <;> first | (cases hp; done) | skip
          split at hp <;> first | (cases hp; done) | skip
          split at hp <;> first | (cases hp; done) | skip
          rename_i hs
          refine pm_setd (by assumption) (by assumption) R rx r1 r2 (fun w hw => ?_) (fun hn => ?_) (small_lt hs)
          · rw [hw] at hp
            cases hp
            exact P
          · rw [hn] at hp
            cases hp
            exact P

/-! ### what is walked -/
def wI (X : Cx) (tg iter : Expr) : TI := fun σ H R => ∀ pins s, Inv X pins σ H s → wpAny (model X.prog X.w) X.A (eval iter X.env) (fun v s1 => wpAny (model X.prog X.w) X.A (pyIter v) (PIE X pins σ tg R) X.xe s1) X.xe s
theorem pi_w {tg iter : Expr} : PI X tg iter (wI X tg iter) := ⟨fun pins s _ _ _ I h => h pins s I⟩
theorem wI.of {tg iter : Expr} {wi : TI} {R : It → Hp → Prop} (p : PI X tg iter wi) (h : wi ρ H R) : wI X tg iter ρ H R := fun pins s I => p.run pins s ρ H R I h
/-- the source and its iterator -/
def SrcR (X : Cx) (G : Nat → Addr) (n : Nat) (ι : Nat → Addr) (H : Hp) (J : It) : Src → Prop
  | .vals xs => (∃ a ys, J = Itt X.K a ∧ PlT X.K H a ys ∧ Reps X.K G n ι H xs ys) ∨ ∃ lo c, J = Itr lo c ∧ xs = rangeV lo c
  | .lst a => J = Itl X.K (ι a) ∧ a < n
  | .enum a => J = Ite X.K (ι a) ∧ a < n
  | .zip a b => J = Itz X.K (ι a) (ι b) ∧ a < n ∧ b < n
theorem SrcR.ext {n n' : Nat} {ι ι' : Nat → Addr} {H' : Hp} {J : It} {src : Src} (h : SrcR X G n ι H J src) (e : Ext X.K n ι H n' ι' H') : SrcR X G n' ι' H' J src := by
  cases src with
  | vals xs =>
    rcases h with ⟨a, ys, h1, h2, h3⟩ | h
    · exact .inl ⟨a, ys, h1, e.tup _ _ h2, h3.ext e⟩
    · exact .inr h
  | lst a => obtain ⟨h1, h2⟩ := h; exact ⟨by rw [e.eq a h2]; exact h1, Nat.lt_of_lt_of_le h2 e.le⟩
  | enum a => obtain ⟨h1, h2⟩ := h; exact ⟨by rw [e.eq a h2]; exact h1, Nat.lt_of_lt_of_le h2 e.le⟩
  | zip a b => obtain ⟨h1, h2, h3⟩ := h; exact ⟨by rw [e.eq a h2, e.eq b h3]; exact h1, Nat.lt_of_lt_of_le h2 e.le, Nat.lt_of_lt_of_le h3 e.le⟩
def Src.isPair : Src → Bool
  | .enum _ => true
  | .zip _ _ => true
  | _ => false
theorem range_get : ∀ (lo : Int) (n i : Nat), (rangeV lo n)[i]? = if i < n then some (.int (lo + (i : Nat))) else none
  | lo, 0, i => by simp [rangeV]
  | lo, n + 1, 0 => by simp [rangeV]
  | lo, n + 1, i + 1 => by
    show (rangeV (lo + 1) n)[i]? = _
    rw [range_get (lo + 1) n i]
    have e : lo + 1 + (i : Nat) = lo + ((i + 1 : Nat) : Int) := by omega
    rw [e]
    by_cases h : i < n
    · rw [if_pos h, if_pos (by omega)]
    · rw [if_neg h, if_neg (by omega)]
/-- what comes at a turn -/
def Yield (X : Cx) (G : Nat → Addr) (n : Nat) (ι : Nat → Addr) (H : Hp) (pair : Bool) (v : Val) (x : L2.V) (H' : Hp) : Prop :=
  if pair then ∃ T a b V W, x = .ref T ∧ H T = none ∧ H' = upd H T (.tup [V, W]) ∧ v = .tup [a, b] ∧ Rep X.K G n ι H a V ∧ Rep X.K G n ι H b W else H' = H ∧ Rep X.K G n ι H v x
theorem src_go {m : Mem} {ι : Nat → Addr} {J : It} {src : Src} {i : Nat} {v : Val} (R : Rel X.K G m ι H) (h : SrcR X G m.n ι H J src) (e : src.next m i = some (some v)) : J.go i H ∧ ∀ x H', J.yld i H x H' → Yield X G m.n ι H src.isPair v x H' := by
  cases src with
  | vals xs =>
    have e' : xs[i]? = some v := by simpa [Src.next] using e
    rcases h with ⟨a, ys, rfl, h2, h3⟩ | ⟨lo, c, rfl, rfl⟩
    · obtain ⟨y, hy, ry⟩ := h3.get e'
      refine ⟨⟨ys, y, h2.sq, hy⟩, fun x H' q => ⟨q.1, ?_⟩⟩
      have := q.2 ys h2.sq
      rw [hy] at this
      cases this
      exact ry
    · rw [range_get] at e'
      split at e'
      · rename_i hlt
        cases e'
        exact ⟨hlt, fun x H' q => ⟨q.1, by rw [q.2]; exact .int _⟩⟩
      · cases e'
  | lst a =>
    obtain ⟨rfl, _⟩ := h
    simp only [Src.next] at e
    split at e
    · rename_i xs hx
      have e' : xs[i]? = some v := by simpa using e
      obtain ⟨ys, hs, rs⟩ := R.sql hx
      obtain ⟨y, hy, ry⟩ := rs.get e'
      refine ⟨⟨ys, y, hs, hy⟩, fun x H' q => ⟨q.1, ?_⟩⟩
      have := q.2 ys hs
      rw [hy] at this
      cases this
      exact ry
    · cases e
  | enum a =>
    obtain ⟨rfl, _⟩ := h
    simp only [Src.next] at e
    split at e
    · rename_i xs hx
      obtain ⟨ys, hs, rs⟩ := R.sql hx
      split at e
      · rename_i z hz
        cases e
        obtain ⟨y, hy, ry⟩ := rs.get hz
        refine ⟨⟨ys, y, hs, hy⟩, fun x H' q => ?_⟩
        obtain ⟨T, w, h1, h2, h3, h4⟩ := q
        have := h4 ys hs
        rw [hy] at this
        cases this
        exact ⟨T, _, _, _, _, h1, h2, h3, rfl, .int _, ry⟩
      · cases e
    · cases e
  | zip a b =>
    obtain ⟨rfl, _⟩ := h
    simp only [Src.next] at e
    split at e
    · rename_i xs ys hx hy
      obtain ⟨us, hs, rs⟩ := R.sql hx
      obtain ⟨ws, hs', rs'⟩ := R.sql hy
      split at e
      · rename_i p q hp hq
        cases e
        obtain ⟨y, hy1, ry⟩ := rs.get hp
        obtain ⟨y', hy2, ry'⟩ := rs'.get hq
        refine ⟨⟨us, ws, y, y', hs, hs', hy1, hy2⟩, fun x H' q => ?_⟩
        obtain ⟨T, w, w', h1, h2, h3, h4, h5⟩ := q
        have e1 := h4 us hs
        have e2 := h5 ws hs'
        rw [hy1] at e1
        rw [hy2] at e2
        cases e1
        cases e2
        exact ⟨T, _, _, _, _, h1, h2, h3, rfl, ry, ry'⟩
      · cases e
    · cases e
theorem src_stop {m : Mem} {ι : Nat → Addr} {J : It} {src : Src} {i : Nat} (R : Rel X.K G m ι H) (h : SrcR X G m.n ι H J src) (e : src.next m i = some none) : J.stop i H := by
  cases src with
  | vals xs =>
    have e' : xs[i]? = none := by simpa [Src.next] using e
    rcases h with ⟨a, ys, rfl, h2, h3⟩ | ⟨lo, c, rfl, rfl⟩
    · exact ⟨ys, h2.sq, by rw [← h3.length]; exact List.getElem?_eq_none_iff.mp e'⟩
    · rw [range_get] at e'
      split at e'
      · cases e'
      · show c ≤ i
        omega
  | lst a =>
    obtain ⟨rfl, _⟩ := h
    simp only [Src.next] at e
    split at e
    · rename_i xs hx
      have e' : xs[i]? = none := by simpa using e
      obtain ⟨ys, hs, rs⟩ := R.sql hx
      exact ⟨ys, hs, by rw [← rs.length]; exact List.getElem?_eq_none_iff.mp e'⟩
    · cases e
  | enum a =>
    obtain ⟨rfl, _⟩ := h
    simp only [Src.next] at e
    split at e
    · rename_i xs hx
      obtain ⟨ys, hs, rs⟩ := R.sql hx
      split at e
      · cases e
      · rename_i hz
        exact ⟨ys, hs, by rw [← rs.length]; exact List.getElem?_eq_none_iff.mp hz⟩
    · cases e
  | zip a b =>
    obtain ⟨rfl, _⟩ := h
    simp only [Src.next] at e
    split at e
    · rename_i xs ys hx hy
      obtain ⟨us, hs, rs⟩ := R.sql hx
      obtain ⟨ws, hs', rs'⟩ := R.sql hy
      split at e
      · cases e
      · rename_i hz
        refine ⟨us, ws, hs, hs', ?_⟩
        rw [← rs.length, ← rs'.length]
        by_cases c : i < xs.length
        · by_cases d : i < ys.length
          · exact absurd (List.getElem?_eq_getElem d) (hz _ _ (List.getElem?_eq_getElem c))
          · omega
        · omega
    · cases e

theorem src_I (o : XOk C G ad fd psf Pm k X) (s : ScOk sc X) {kd : ItK} {e tg : Expr} {es : List Expr} {src : Src} (h : synI C sc kd e = some es) (hs : srcOf m2 kd vs = some src) (htg : isPair kd = true → ∃ elts kk tp, tg = .Tuple elts kk tp) {R : It → Hp → Prop}
    (hw : wEs X es ρ H fun Vs H2 => ∃ ι2, Rel X.K G m2 ι2 H2 ∧ Reps X.K G m2.n ι2 H2 vs Vs ∧ ∀ J, SrcR X G m2.n ι2 H2 J src → R J H2) : wI X tg e ρ H R := by
  cases kd with
  | plain =>
    have he : es = [e] := by
      simp only [synI] at h
      split at h <;> first | (cases h; done) | (cases h; rfl)
    subst he
    match vs, hs with
    | [.tup xs], hs =>
      simp only [srcOf] at hs
      cases hs
      refine wI.of (pi_tup pe_w) (wE.mono hw fun V H2 q => ?_)
      obtain ⟨ι2, R2, r, q⟩ := q
      obtain ⟨x, ex, rx⟩ := reps1 r
      cases ex
      cases rx with
      | @tup a _ ys hp rs => exact ⟨a, rfl, ⟨ys, hp.sq⟩, q _ (.inl ⟨a, ys, rfl, hp, rs⟩)⟩
    | [.ref a], hs =>
      simp only [srcOf] at hs
      cases e1 : lstAt m2 a with
      | none => rw [e1] at hs; cases hs
      | some xs =>
        rw [e1] at hs
        cases hs
        refine wI.of (pi_list pe_w) (wE.mono hw fun V H2 q => ?_)
        obtain ⟨ι2, R2, r, q⟩ := q
        obtain ⟨x, ex, rx⟩ := reps1 r
        cases ex
        cases rx with
        | ref _ hl =>
          obtain ⟨ys, hy, _⟩ := R2.sql e1
          exact ⟨_, rfl, ⟨ys, hy⟩, q _ ⟨rfl, hl⟩⟩
    | [], hs => simp [srcOf] at hs
    | [.non], hs => simp [srcOf] at hs
    | [.bl _], hs => simp [srcOf] at hs
    | [.int _], hs => simp [srcOf] at hs
    | [.str _], hs => simp [srcOf] at hs
    | [.rep _], hs => simp [srcOf] at hs
    | [.ty _], hs => simp [srcOf] at hs
    | [.glo _], hs => simp [srcOf] at hs
    | _ :: _ :: _, hs => simp [srcOf] at hs
  | range1 =>
    simp only [synI] at h
    split at h <;> first | (cases h; done) | skip
    split at h <;> cases h
    rename_i hc
    simp only [Bool.and_eq_true, decide_eq_true_eq] at hc
    obtain ⟨⟨rfl, b1⟩, pl⟩ := hc
    obtain ⟨g1, m1, _, _⟩ := o.blt s b1
    refine wI.of (pi_range1 g1 m1 pas_w (starEach_plain X.env pl [])) (wEs.as (by simp [pl]) (wE.mono hw fun V H2 q => ?_))
    obtain ⟨ι2, R2, r, q⟩ := q
    obtain ⟨x, rfl, rx⟩ := reps1 r
    cases x <;> first | (simp [srcOf] at hs; done) | skip
    simp only [srcOf] at hs
    split at hs <;> cases hs
    rename_i i hi
    rw [Bool.and_eq_true, decide_eq_true_eq, decide_eq_true_eq] at hi
    cases rx
    exact ⟨i, rfl, by omega, by omega, q _ (.inr ⟨0, i.toNat, rfl, rfl⟩)⟩
  | range2 =>
    simp only [synI] at h
    split at h <;> first | (cases h; done) | skip
    split at h <;> cases h
    rename_i hc
    simp only [Bool.and_eq_true, decide_eq_true_eq] at hc
    obtain ⟨⟨⟨rfl, b1⟩, pl⟩, pl2⟩ := hc
    obtain ⟨g1, m1, _, _⟩ := o.blt s b1
    refine wI.of (pi_range2 g1 m1 pas_w (by rw [starEach_plain X.env pl, starEach_plain X.env pl2]; rfl) (starEach_plain X.env pl2 [])) (wEs.as (by simp [pl, pl2]) (wE.mono hw fun V H1 h1 => wE.mono h1 fun W H2 q => ?_))
    obtain ⟨ι2, R2, r, q⟩ := q
    obtain ⟨x, y, rfl, rx, ry⟩ := reps2 r
    cases x <;> cases y <;> first | (simp [srcOf] at hs; done) | skip
    simp only [srcOf] at hs
    split at hs <;> cases hs
    rename_i i j hi
    simp only [Bool.and_eq_true, decide_eq_true_eq] at hi
    cases rx
    cases ry
    exact ⟨i, j, rfl, ⟨by omega, by omega, by omega, by omega⟩, q _ (.inr ⟨i, (j - i).toNat, rfl, rfl⟩)⟩
  | enum =>
    simp only [synI] at h
    split at h <;> first | (cases h; done) | skip
    split at h <;> cases h
    rename_i hc
    simp only [Bool.and_eq_true, decide_eq_true_eq] at hc
    obtain ⟨⟨rfl, b1⟩, pl⟩ := hc
    obtain ⟨g1, m1, _, _⟩ := o.blt s b1
    obtain ⟨elts, kk, tp, rfl⟩ := htg rfl
    refine wI.of (pi_enum g1 m1 pas_w (starEach_plain X.env pl [])) (wEs.as (by simp [pl]) (wE.mono hw fun V H2 q => ?_))
    obtain ⟨ι2, R2, r, q⟩ := q
    obtain ⟨x, rfl, rx⟩ := reps1 r
    cases x <;> first | (simp [srcOf] at hs; done) | skip
    rename_i a
    simp only [srcOf] at hs
    cases e1 : lstAt m2 a with
    | none => rw [e1] at hs; cases hs
    | some xs =>
      rw [e1] at hs
      cases hs
      obtain ⟨ys, hy, _⟩ := R2.sql e1
      cases rx with
      | ref _ hl => exact ⟨_, ys, rfl, hy, q _ ⟨rfl, hl⟩⟩
  | zip =>
    simp only [synI] at h
    split at h <;> first | (cases h; done) | skip
    split at h <;> cases h
    rename_i hc
    simp only [Bool.and_eq_true, decide_eq_true_eq] at hc
    obtain ⟨⟨⟨rfl, b1⟩, pl⟩, pl2⟩ := hc
    obtain ⟨g1, m1, _, _⟩ := o.blt s b1
    obtain ⟨elts, kk, tp, rfl⟩ := htg rfl
    refine wI.of (pi_zip g1 m1 pas_w (starEach_plain X.env pl _) (backTo_plain X.env _ (by simp [pl2]))) (wEs.as (by simp [pl, pl2]) (wE.mono hw fun V H1 h1 => wE.mono h1 fun W H2 q => ?_))
    obtain ⟨ι2, R2, r, q⟩ := q
    obtain ⟨x, y, rfl, rx, ry⟩ := reps2 r
    cases x <;> cases y <;> first | (simp [srcOf] at hs; done) | skip
    rename_i a b
    simp only [srcOf] at hs
    cases e1 : lstAt m2 a with
    | none => rw [e1] at hs; cases hs
    | some xs =>
      cases e2 : lstAt m2 b with
      | none => rw [e1, e2] at hs; cases hs
      | some zs =>
        rw [e1, e2] at hs
        cases hs
        obtain ⟨ys, hy, _⟩ := R2.sql e1
        obtain ⟨ws, hw', _⟩ := R2.sql e2
        cases rx with
        | ref _ hl =>
          cases ry with
          | ref _ hl' => exact ⟨_, _, ys, ws, rfl, hy, hw', q _ ⟨rfl, hl, hl'⟩⟩
theorem src_pair {kd : ItK} {src : Src} (hs : srcOf m2 kd vs = some src) : src.isPair = isPair kd := by
  unfold srcOf at hs
  split at hs
  · cases hs; rfl
  · rename_i a
    cases e1 : lstAt m2 a with
    | none => rw [e1] at hs; cases hs
    | some xs => rw [e1] at hs; cases hs; rfl
  · split at hs <;> cases hs
    rfl
  · split at hs <;> cases hs
    rfl
  · rename_i a
    cases e1 : lstAt m2 a with
    | none => rw [e1] at hs; cases hs
    | some xs => rw [e1] at hs; cases hs; rfl
  · split at hs <;> cases hs
    rfl
  · cases hs

/-! ### a turn's target -/
theorem wipe_set {i : Nat} {o : Option L2.V} : ∀ {own : List Nat} {ρ : L2.St}, i ∈ own → wipe (ρ.set i o) own = wipe ρ own
  | [], _, h => by cases h
  | j :: own, ρ, h => by
    show (wipe (ρ.set i o) own).set j none = (wipe ρ own).set j none
    have comm : ∀ (own : List Nat) (ρ : L2.St), (wipe (ρ.set i o) own).set i none = (wipe ρ own).set i none := by
      intro own
      induction own with
      | nil =>
        intro ρ
        show (ρ.set i o).set i none = ρ.set i none
        rw [List.set_set]
      | cons l own ih =>
        intro ρ
        show ((wipe (ρ.set i o) own).set l none).set i none = ((wipe ρ own).set l none).set i none
        by_cases e : l = i
        · subst e
          rw [List.set_set, List.set_set]
          exact ih ρ
        · rw [List.set_comm _ _ e, ih ρ, List.set_comm _ _ (Ne.symm e)]
    by_cases e : i = j
    · subst e
      exact comm own ρ
    · have h' : i ∈ own := by
        rcases List.mem_cons.mp h with z | z
        · exact absurd z e
        · exact z
      rw [wipe_set h']
theorem chkT_one {kd : ItK} {i : Nat} : ∀ {e : Expr}, chkT C sc kd (.one i) e = true → ∃ x px, e = .Name x px ∧ (at0 C.N i x && isLoc sc x && !isPair kd) = true
  | .Name x px, h => ⟨x, px, rfl, h⟩
theorem chkT_two {kd : ItK} {i j : Nat} : ∀ {e : Expr}, chkT C sc kd (.two i j) e = true → ∃ x px y py kk tp, e = .Tuple [.Name x px, .Name y py] kk tp ∧ (at0 C.N i x && isLoc sc x && at0 C.N j y && isLoc sc y) = true
  | .Tuple [.Name x px, .Name y py] kk tp, h => ⟨x, px, y, py, kk, tp, rfl, h⟩
theorem tgt_ok (o : XOk C G ad fd psf Pm k X) (s : ScOk sc X) {kd : ItK} {t : Pt} {e : Expr} (h : chkT C sc kd t e = true) {n : Nat} {ι : Nat → Addr} {v : Val} {x : L2.V} {H' : Hp} {σ σ2 : Sta} (hy : Yield X G n ι H (isPair kd) v x H') (hset : t.set σ v = some σ2)
    (S : StaR X.K G n ι H σ ρ) {Qn : L2.St → Hp → Prop} (hq : ∀ ρ2 H2, StaR X.K G n ι H2 σ2 ρ2 → Ext X.K n ι H n ι H2 → (∀ own, t.mem own = true → wipe ρ2 own = wipe ρ own) → (H2 = H ∨ ∃ p u, H p = none ∧ H2 = upd H p u) → Qn ρ2 H2) : wG X e x ρ H' Qn := by
  cases t with
  | one i =>
    obtain ⟨y, py, ee, hc⟩ := chkT_one h
    subst ee
    simp only [Bool.and_eq_true, at0, decide_eq_true_eq, Bool.not_eq_true'] at hc
    obtain ⟨⟨h1, h2⟩, h3⟩ := hc
    obtain ⟨l1, l2⟩ := s.loc h2
    rw [h3] at hy
    obtain ⟨rfl, ry⟩ := hy
    cases hset
    refine wG.of (pg_name o.nd (by rw [o.N]; exact h1) l1 l2) ?_
    exact hq _ _ (S.set ry) Ext.refl (fun own hm => wipe_set (by simpa [Pt.mem] using hm)) (.inl rfl)
  | two i j =>
    obtain ⟨x1, px, x2, py, kk, tp, ee, hc⟩ := chkT_two h
    subst ee
    simp only [Bool.and_eq_true, at0, decide_eq_true_eq] at hc
    obtain ⟨⟨⟨h1, h2⟩, h3⟩, h4⟩ := hc
    obtain ⟨l1, l2⟩ := s.loc h2
    obtain ⟨l3, l4⟩ := s.loc h4
    have hb := pg_tup (n := 2) (k := kk) (pos := tp) o.calm (pgs_cons (pg_name (pos := px) o.nd (by rw [o.N]; exact h1) l1 l2) (pgs_cons (pg_name (pos := py) o.nd (by rw [o.N]; exact h3) l3 l4) pgs_nil))
    simp only [Pt.set] at hset
    split at hset <;> cases hset
    rename_i a b
    have mem : ∀ (V W : L2.V) own, Pt.mem own (.two i j) = true → wipe ((ρ.set i (some V)).set j (some W)) own = wipe ρ own := fun V W own hm => by
      simp only [Pt.mem, Bool.and_eq_true, List.contains_iff_mem] at hm
      rw [wipe_set hm.2, wipe_set hm.1]
    unfold Yield at hy
    split at hy
    · obtain ⟨T, a', b', V, W, rfl, hT, rfl, e2, ra, rb⟩ := hy
      cases e2
      refine wG.of hb ⟨T, [V, W], rfl, SqT.of upd_same, rfl, V, [W], rfl, W, [], rfl, rfl, ?_⟩
      have ex : Ext X.K n ι H n ι (upd H T (.tup [V, W])) := ext_fresh hT
      exact hq _ _ (((S.ext ex).set (ra.ext ex)).set (rb.ext ex)) ex (mem V W) (.inr ⟨T, _, hT, rfl⟩)
    · obtain ⟨rfl, ry⟩ := hy
      cases ry with
      | @tup p _ ys hp rs =>
        cases rs with
        | @cons _ V _ _ ra rs =>
          cases rs with
          | @cons _ W _ _ rb rs =>
            cases rs
            refine wG.of hb ⟨p, [V, W], rfl, hp.sq, rfl, V, [W], rfl, W, [], rfl, rfl, ?_⟩
            exact hq _ _ ((S.set ra).set rb) Ext.refl (mem V W) (.inl rfl)
end
end Mi

/-! Each term is sound. -/
namespace Mi
open PySem L2 PySem.Spec PyProof.Rows

def isBoolE : Expr → Bool
  | .BoolOp .. => true
  | _ => false
section
variable {C : Ck} {G : Nat → Addr} {ad : Nat → Addr} {fd : Nat → FuncData} {psf : Nat → List Str} {Pm : List Fn} {k : Nat}
/-- the three things shown of a term and its text -/
structure Sn (X : Cx) (G : Nat → Addr) (call : Nat → List Val → Mem → Res) (t : E) (e : Expr) : Prop where
  se : SE X G call t e
  st : ST X G call t e
  sw : isBoolE e = true → SW X G call t e
theorem Sn.unstrip {X : Cx} {call : Nat → List Val → Mem → Res} {t : E} {e : Expr} (h : Sn X G call t (strip e)) : Sn X G call t e := by
  unfold strip at h
  split at h
  · rename_i op a pos
    have w : SW X G call t (.BoolOp op [a] pos) := fun σ m v m' b ρ H ι Q ev tr R S P => by
      cases op with
      | And => exact wW.of (pw_and1 pt_w) (h.st σ m v m' b ρ H ι Q ev tr R S P)
      | Or => exact wW.of (pw_or1 pt_w) (h.st σ m v m' b ρ H ι Q ev tr R S P)
    exact ⟨fun σ m v m' ρ H ι Q ev R S P => wE.of (pe_one pe_w) (h.se σ m v m' ρ H ι Q ev R S P), fun σ m v m' b ρ H ι Q ev tr R S P => (w σ m v m' b ρ H ι Q ev tr R S P).t, fun _ => w⟩
  · exact h
/-- where a test is the value's truth -/
theorem Sn.plain {X : Cx} {call : Nat → List Val → Mem → Res} {t : E} {e : Expr} (h : SE X G call t e) (he : ∀ wh, isTrue e X.env wh = (do let v ← wh; standAt e.pos; holding [v] (truthy v))) (hb : isBoolE e = false) : Sn X G call t e :=
  ⟨h, ST.of_SE h he, fun z => by rw [hb] at z; cases z⟩
theorem onV_val {r : Res} {f : Val → Mem → Res} {v : Val} {m' : Mem} (h : r.onV f = .val v m') : ∃ x m1, r = .val x m1 ∧ f x m1 = .val v m' := by
  cases r <;> first | (simp [Res.onV] at h; done) | exact ⟨_, _, rfl, h⟩
theorem onV_vals {r : Res} {f : Val → Mem → Res} {v : List Val} {m' : Mem} (h : r.onV f = .vals v m') : ∃ x m1, r = .val x m1 ∧ f x m1 = .vals v m' := by
  cases r <;> first | (simp [Res.onV] at h; done) | exact ⟨_, _, rfl, h⟩
theorem onL_val {r : Res} {f : List Val → Mem → Res} {v : Val} {m' : Mem} (h : r.onL f = .val v m') : ∃ x m1, r = .vals x m1 ∧ f x m1 = .val v m' := by
  cases r <;> first | (simp [Res.onL] at h; done) | exact ⟨_, _, rfl, h⟩
theorem onL_vals {r : Res} {f : List Val → Mem → Res} {v : List Val} {m' : Mem} (h : r.onL f = .vals v m') : ∃ x m1, r = .vals x m1 ∧ f x m1 = .vals v m' := by
  cases r <;> first | (simp [Res.onL] at h; done) | exact ⟨_, _, rfl, h⟩
theorem ofRV_val {r : RV} {v : Val} {m' : Mem} (h : ofRV r = .val v m') : r = some (v, m') := by
  unfold ofRV at h
  split at h
  · cases h; rfl
  · cases h
theorem Post.from {X : Cx} {m m1 m' : Mem} {ι ι1 : Nat → Addr} {H H1 : Hp} {v : Val} {Q : VK} (P : Post X G m ι H m' v Q) (e : Ext X.K m.n ι H m1.n ι1 H1) : Post X G m1 ι1 H1 m' v Q := fun ι' H' V R r e' => P ι' H' V R r (e.trans e')
theorem PostT.from {X : Cx} {m m1 m' : Mem} {ι ι1 : Nat → Addr} {H H1 : Hp} {b : Bool} {Q : Bool → Hp → Prop} (P : PostT X G m ι H m' b Q) (e : Ext X.K m.n ι H m1.n ι1 H1) : PostT X G m1 ι1 H1 m' b Q := fun ι' H' R e' => P ι' H' R (e.trans e')
theorem SL.come {X : Cx} {call : Nat → List Val → Mem → Res} {as : E} {es : List Expr} (h : SL X G call as es) {σ : Sta} {m m2 m' : Mem} {vs : List Val} {v : Val} {ρ : L2.St} {H : Hp} {ι : Nat → Addr} {Q : VK} (ev : as.ev call σ m = .vals vs m2) (R : Rel X.K G m ι H) (S : StaR X.K G m.n ι H σ ρ)
    (P : Post X G m ι H m' v Q) : wEs X es ρ H (Come X G m2 vs m' v Q) := h σ m vs m2 ρ H ι _ ev R S fun ι' H' Vs R' r E => ⟨ι', R', r, P.from E⟩

/-- all of a term -/
def All (C : Ck) (G : Nat → Addr) (ad : Nat → Addr) (fd : Nat → FuncData) (psf : Nat → List Str) (Pm : List Fn) (k : Nat) (t : E) : Prop :=
  ∀ (X : Cx) (sc : Scope), XOk C G ad fd psf Pm k X → ScOk sc X → (∀ e, chkE C t sc e = true → Sn X G (run Pm k) t e) ∧ ∀ es, chkL C t sc es = true → SL X G (run Pm k) t es
theorem noL {t : E} (h : ∀ sc es, chkL C t sc es = false) {X : Cx} {sc : Scope} : ∀ es, chkL C t sc es = true → SL X G (run Pm k) t es := fun es z => by rw [h] at z; cases z

theorem all_var (i : Nat) : All C G ad fd psf Pm k (.var i) := fun X sc o s => by
  refine ⟨fun e h => Sn.unstrip ?_, noL fun _ es => by cases es <;> rfl⟩
  unfold chkE at h
  generalize strip e = e' at h ⊢
  split at h <;> first | (cases h; done) | skip
  rename_i x p
  rw [Bool.and_eq_true, at0, decide_eq_true_eq] at h
  obtain ⟨hv, d1, d2⟩ := s.vis h.2
  refine Sn.plain (fun σ m v m' ρ H ι Q ev R S P => ?_) (fun _ => rfl) rfl
  simp only [E.ev] at ev
  split at ev <;> cases ev
  rename_i hg
  obtain ⟨V, a, r⟩ := S.at_ _ _ hg
  exact wE.of (pe_var (by rw [o.N]; exact h.1) hv d1 d2) ⟨V, a, P.same R r⟩
theorem all_cst (c : Val) : All C G ad fd psf Pm k (.cst c) := fun X sc o s => by
  refine ⟨fun e h => Sn.unstrip ?_, noL fun _ es => by cases es <;> rfl⟩
  unfold chkE at h
  generalize strip e = e' at h ⊢
  split at h <;> first | (cases h; done) | skip
  · rename_i d kk p
    refine Sn.plain (fun σ m v m' ρ H ι Q ev R S P => ?_) (fun _ => rfl) rfl
    simp only [E.ev] at ev
    cases ev
    unfold constIs at h
    split at h
    · exact wE.of pe_non (P.same R .non)
    · rw [beq_iff_eq] at h
      subst h
      exact wE.of pe_bl (P.same R (.bl _))
    · rw [beq_iff_eq] at h
      subst h
      exact wE.of pe_int (P.same R (.int _))
    · rw [decide_eq_true_eq] at h
      subst h
      exact wE.of pe_str (P.same R (.str _))
    · cases h
  · rename_i x p
    rw [Bool.and_eq_true] at h
    obtain ⟨hg, hd⟩ := s.glo h.1
    obtain ⟨g, hm, hq⟩ := List.any_eq_true.mp h.2
    rw [Bool.and_eq_true, decide_eq_true_eq] at hq
    obtain ⟨rfl, hv⟩ := hq
    have ev' := vsame_eq _ _ hv
    obtain ⟨u, V, h1, h2, h3⟩ := o.gs g hm
    refine Sn.plain (fun σ m v m' ρ H ι Q ev R S P => ?_) (fun _ => rfl) rfl
    simp only [E.ev] at ev
    cases ev
    rw [← ev'] at P
    exact wE.of (pe_glob hg h1 h2 hd) (P.same R (h3 _ _ _))
theorem all_nil : All C G ad fd psf Pm k .nil := fun X sc o s => by
  refine ⟨fun e h => (by unfold chkE at h; cases h), fun es h => ?_⟩
  cases es with
  | cons _ _ => unfold chkL at h; cases h
  | nil =>
    intro σ m vs m' ρ H ι Q ev R S P
    simp only [E.ev] at ev
    cases ev
    exact P ι H [] R .nil Ext.refl
theorem all_cons {a r : E} (ha : All C G ad fd psf Pm k a) (hr : All C G ad fd psf Pm k r) : All C G ad fd psf Pm k (.cons a r) := fun X sc o s => by
  refine ⟨fun e h => (by unfold chkE at h; cases h), fun es h => ?_⟩
  cases es with
  | nil => unfold chkL at h; cases h
  | cons e es =>
    unfold chkL at h
    rw [Bool.and_eq_true] at h
    have h1 := ((ha X sc o s).1 e h.1).se
    have h2 := (hr X sc o s).2 es h.2
    intro σ m vs m' ρ H ι Q ev R S P
    simp only [E.ev] at ev
    obtain ⟨x, m1, e1, ev⟩ := onV_vals ev
    obtain ⟨xs, m2, e2, ev⟩ := onL_vals ev
    cases ev
    refine h1 σ m x m1 ρ H ι _ e1 R S fun ι1 H1 V R1 r1 E1 => ?_
    refine h2 σ m1 xs _ ρ H1 ι1 _ e2 R1 (S.ext E1) fun ι2 H2 Vs R2 r2 E2 => ?_
    exact P ι2 H2 (V :: Vs) R2 (.cons (r1.ext E2) r2) (E1.trans E2)
theorem synP_cmp {sc : Scope} {p : Prim} {a b : Expr} {op : CmpOp} {pos : Pos} {es : List Expr} (h : synP C sc p (.Compare a [op] [b] pos) = some es) :
    (cmpOf p = some op ∧ behindInMarks op b = false ∧ es = [a, b]) ∨ (p = .isN ∧ op = .Is ∧ (∃ kk q, b = .Constant .none kk q) ∧ es = [a]) ∨ (p = .notN ∧ op = .IsNot ∧ (∃ kk q, b = .Constant .none kk q) ∧ es = [a]) := by
  unfold synP at h
  simp only at h
  split at h
  · rename_i hb
    cases h
    rw [Bool.and_eq_true, decide_eq_true_eq, Bool.not_eq_true'] at hb
    exact .inl ⟨hb.1, hb.2, rfl⟩
  · split at h <;> cases h
    · exact .inr (.inl ⟨rfl, rfl, ⟨_, _, rfl⟩, rfl⟩)
    · exact .inr (.inr ⟨rfl, rfl, ⟨_, _, rfl⟩, rfl⟩)
theorem all_prim {p : Prim} {as : E} (ha : All C G ad fd psf Pm k as) : All C G ad fd psf Pm k (.prim p as) := fun X sc o s => by
  refine ⟨fun e h => Sn.unstrip ?_, noL fun _ es => by cases es <;> rfl⟩
  unfold chkE at h
  generalize strip e = e' at h ⊢
  split at h <;> first | (cases h; done) | skip
  rename_i es hs
  have hL := (ha X sc o s).2 es h
  have go : ∀ {σ : Sta} {m m' : Mem} {v : Val}, (E.prim p as).ev (run Pm k) σ m = .val v m' → ∃ vs m2, as.ev (run Pm k) σ m = .vals vs m2 ∧ Mi.prim p vs m2 = some (v, m') := fun {σ m m' v} ev => by
    simp only [E.ev] at ev
    obtain ⟨vs, m2, e1, ev⟩ := onL_val ev
    exact ⟨vs, m2, e1, ofRV_val ev⟩
  have hE : SE X G (run Pm k) (.prim p as) e' := fun σ m v m' ρ H ι Q ev R S P => by
    obtain ⟨vs, m2, e1, hp⟩ := go ev
    exact prim_E o s hs hp (hL.come e1 R S P)
  by_cases hc : ∃ a op b pos, e' = .Compare a [op] [b] pos
  · obtain ⟨a, op, b, pos, rfl⟩ := hc
    refine ⟨hE, fun σ m v m' c ρ H ι Q ev tr R S P => ?_, fun z => by cases z⟩
    obtain ⟨vs, m2, e1, hp⟩ := go ev
    rcases synP_cmp hs with ⟨h1, h2, rfl⟩ | ⟨rfl, rfl, ⟨kk, q, rfl⟩, rfl⟩ | ⟨rfl, rfl, ⟨kk, q, rfl⟩, rfl⟩
    · refine wT.of (pt_cmpR opV pe_w pe_w h2) ?_
      have P' : Post X G m ι H m' v fun x H' => ∃ k, x = .bl k ∧ Q k H' := fun ι' H' V R' r E => by
        match vs, hp, e1 with
        | [x, y], hp, e1 =>
          obtain ⟨d, rfl⟩ := prim_cmp_bl h1 hp
          cases r
          simp only [truth] at tr
          cases tr
          exact ⟨_, rfl, P ι' H' R' E⟩
        | [], hp, _ => cases p <;> first | (cases h1; done) | simp [Mi.prim] at hp
        | [_], hp, _ => cases p <;> first | (cases h1; done) | simp [Mi.prim] at hp
        | _ :: _ :: _ :: _, hp, _ => cases p <;> first | (cases h1; done) | simp [Mi.prim] at hp
      have w := hL.come e1 R S P'
      refine wE.mono w fun V H1 w1 => wE.mono w1 fun W H2 c => ?_
      obtain ⟨ι2, x, y, rfl, R2, r1, r2, P2⟩ := come2 c
      exact prim_cmp o.room h1 hp R2 r1 r2 P2
    · refine wT.of (pt_cmp (pc_isN pe_w)) ?_
      have w := hL σ m vs m2 ρ H ι (fun Vs H' => ∃ V, Vs = [V] ∧ Q (decide (V = .non)) H') e1 R S fun ι' H' Vs R' r E => by
        match vs, hp, r with
        | [x], hp, .cons rx .nil =>
          simp only [Mi.prim] at hp
          cases hp
          simp only [truth] at tr
          cases tr
          refine ⟨_, rfl, ?_⟩
          have q := P ι' H' R' E
          cases rx <;> exact q
        | [], hp, _ => simp [Mi.prim] at hp
        | _ :: _ :: _, hp, _ => simp [Mi.prim] at hp
      refine wE.mono w fun V H1 q => ?_
      obtain ⟨V', e, q⟩ := q
      cases e
      exact ⟨_, rfl, q⟩
    · refine wT.of (pt_cmp (pc_notN pe_w)) ?_
      have w := hL σ m vs m2 ρ H ι (fun Vs H' => ∃ V, Vs = [V] ∧ Q (!decide (V = .non)) H') e1 R S fun ι' H' Vs R' r E => by
        match vs, hp, r with
        | [x], hp, .cons rx .nil =>
          simp only [Mi.prim] at hp
          cases hp
          simp only [truth] at tr
          cases tr
          refine ⟨_, rfl, ?_⟩
          have q := P ι' H' R' E
          cases rx <;> exact q
        | [], hp, _ => simp [Mi.prim] at hp
        | _ :: _ :: _, hp, _ => simp [Mi.prim] at hp
      refine wE.mono w fun V H1 q => ?_
      obtain ⟨V', e, q⟩ := q
      cases e
      exact ⟨_, rfl, q⟩
  · refine Sn.plain hE (fun wh => ?_) ?_
    · unfold synP at hs
      split at hs <;> first | rfl | (exact absurd ⟨_, _, _, _, rfl⟩ hc) | (cases hs; done)
    · unfold synP at hs
      split at hs <;> first | rfl | (cases hs; done)
theorem synM_call {p : Prim} {e oe : Expr} {es : List Expr} (h : synM p e = some (oe, es)) : ∃ apos pos nm id, e = .Call (.Attribute oe nm apos) es [] pos ∧ methId p = some (nm, id) ∧ es.all plainArg = true ∧ (apos.endLine == pos.line) = true ∧ es.length < 20 ∧ ∀ f as ks q, oe ≠ .Call f as ks q := by
  unfold synM at h
  split at h <;> first | (cases h; done) | skip
  split at h <;> first | (cases h; done) | skip
  rename_i hi
  split at h <;> first | (cases h; done) | skip
  rename_i hc
  simp only [Bool.and_eq_true, decide_eq_true_eq] at hc
  obtain ⟨⟨⟨c1, c2⟩, c3⟩, c4⟩ := hc
  subst c1
  split at h <;> cases h
  rename_i hno
  exact ⟨_, _, _, _, rfl, hi, c2, c3, c4, fun f as ks q z => hno f as ks q z⟩
theorem meth_kind {p : Prim} {kd : Kind} (h : methOk p kd = true) : kd = .list ∨ kd = .tuple ∨ kd = .dict ∨ kd = .str := by
  cases p <;> cases kd <;> first | (cases h; done) | (simp; done)
theorem all_meth {p : Prim} {ob as : E} (ho : All C G ad fd psf Pm k ob) (ha : All C G ad fd psf Pm k as) : All C G ad fd psf Pm k (.meth p ob as) := fun X sc o s => by
  refine ⟨fun e h => Sn.unstrip ?_, noL fun _ es => by cases es <;> rfl⟩
  unfold chkE at h
  generalize strip e = e' at h ⊢
  split at h <;> first | (cases h; done) | skip
  rename_i oe es hs
  rw [Bool.and_eq_true] at h
  have hO := ((ho X sc o s).1 oe h.1).se
  have hL := (ha X sc o s).2 es h.2
  obtain ⟨apos, pos, nm, id, rfl, hi, h2, h3, h4, h5⟩ := synM_call hs
  refine Sn.plain (fun σ m v m' ρ H ι Q ev R S P => ?_) (fun _ => rfl) rfl
  simp only [E.ev] at ev
  obtain ⟨x, m1, e1, ev⟩ := onV_val ev
  split at ev <;> first | (cases ev; done) | skip
  rename_i kd hk
  split at ev <;> first | (cases ev; done) | skip
  rename_i hok
  obtain ⟨vs, m2, e2, ev⟩ := onL_val ev
  have hp := ofRV_val ev
  refine wE_meth h5 h2 h3 h4 (hO σ m x m1 ρ H ι _ e1 R S fun ι1 H1 V R1 r1 E1 => ?_)
  refine ⟨kd.name, id, meth_ok hok hi, kind_tyM (meth_kind hok) hk R1 r1, wEs.as h2 (hL σ m1 vs m2 ρ H1 ι1 _ e2 R1 (S.ext E1) fun ι2 H2 Vs R2 r2 E2 => ?_)⟩
  exact prim_M hi hok hp R2 (r1.ext E2) r2 (P.from (E1.trans E2))
theorem all_and {a b : E} (ha : All C G ad fd psf Pm k a) (hb : All C G ad fd psf Pm k b) : All C G ad fd psf Pm k (.and a b) := fun X sc o s => by
  refine ⟨fun e h => Sn.unstrip ?_, noL fun _ es => by cases es <;> rfl⟩
  unfold chkE at h
  generalize strip e = e' at h ⊢
  split at h <;> first | (cases h; done) | skip
  rename_i x y r pos
  rw [Bool.and_eq_true] at h
  have h1 := (ha X sc o s).1 _ h.1
  have h2 := (hb X sc o s).1 _ h.2
  have w : SW X G (run Pm k) (.and a b) (.BoolOp .And (x :: y :: r) pos) := fun σ m v m' c ρ H ι Q ev tr R S P => by
    simp only [E.ev] at ev
    obtain ⟨u, m1, e1, ev⟩ := onV_val ev
    split at ev <;> first | (cases ev; done) | skip
    · rename_i ht
      refine wW.of (pw_and pt_w pw_w) (h1.st σ m u m1 true ρ H ι _ e1 ht R S fun ι1 H1 R1 E1 => ?_)
      exact h2.sw rfl σ m1 v m' c ρ H1 ι1 Q ev tr R1 (S.ext E1) (P.from E1)
    · rename_i ht
      cases ev
      rw [ht] at tr
      cases tr
      refine wW.of (pw_and pt_w pw_w) (h1.st σ m _ _ false ρ H ι _ e1 ht R S fun ι1 H1 R1 E1 => ?_)
      exact P ι1 H1 R1 E1
  refine ⟨fun σ m v m' ρ H ι Q ev R S P => ?_, fun σ m v m' c ρ H ι Q ev tr R S P => (w σ m v m' c ρ H ι Q ev tr R S P).t, fun _ => w⟩
  simp only [E.ev] at ev
  obtain ⟨u, m1, e1, ev⟩ := onV_val ev
  split at ev <;> first | (cases ev; done) | skip
  · rename_i ht
    refine wE.of (pe_andT pe_w pe_w) (h1.se σ m u m1 ρ H ι _ e1 R S fun ι1 H1 V R1 r1 E1 => ⟨true, tru_V ht R1 r1, ?_⟩)
    exact h2.se σ m1 v m' ρ H1 ι1 Q ev R1 (S.ext E1) (P.from E1)
  · rename_i ht
    cases ev
    refine wE.of (pe_andT pe_w pe_w) (h1.se σ m _ _ ρ H ι _ e1 R S fun ι1 H1 V R1 r1 E1 => ⟨false, tru_V ht R1 r1, ?_⟩)
    exact P ι1 H1 V R1 r1 E1
theorem all_or {a b : E} (ha : All C G ad fd psf Pm k a) (hb : All C G ad fd psf Pm k b) : All C G ad fd psf Pm k (.or a b) := fun X sc o s => by
  refine ⟨fun e h => Sn.unstrip ?_, noL fun _ es => by cases es <;> rfl⟩
  unfold chkE at h
  generalize strip e = e' at h ⊢
  split at h <;> first | (cases h; done) | skip
  rename_i x y r pos
  rw [Bool.and_eq_true] at h
  have h1 := (ha X sc o s).1 _ h.1
  have h2 := (hb X sc o s).1 _ h.2
  have w : SW X G (run Pm k) (.or a b) (.BoolOp .Or (x :: y :: r) pos) := fun σ m v m' c ρ H ι Q ev tr R S P => by
    simp only [E.ev] at ev
    obtain ⟨u, m1, e1, ev⟩ := onV_val ev
    split at ev <;> first | (cases ev; done) | skip
    · rename_i ht
      cases ev
      rw [ht] at tr
      cases tr
      refine wW.of (pw_or pt_w pw_w) (h1.st σ m _ _ true ρ H ι _ e1 ht R S fun ι1 H1 R1 E1 => ?_)
      exact P ι1 H1 R1 E1
    · rename_i ht
      refine wW.of (pw_or pt_w pw_w) (h1.st σ m u m1 false ρ H ι _ e1 ht R S fun ι1 H1 R1 E1 => ?_)
      exact h2.sw rfl σ m1 v m' c ρ H1 ι1 Q ev tr R1 (S.ext E1) (P.from E1)
  refine ⟨fun σ m v m' ρ H ι Q ev R S P => ?_, fun σ m v m' c ρ H ι Q ev tr R S P => (w σ m v m' c ρ H ι Q ev tr R S P).t, fun _ => w⟩
  simp only [E.ev] at ev
  obtain ⟨u, m1, e1, ev⟩ := onV_val ev
  split at ev <;> first | (cases ev; done) | skip
  · rename_i ht
    cases ev
    refine wE.of (pe_orT pe_w pe_w) (h1.se σ m _ _ ρ H ι _ e1 R S fun ι1 H1 V R1 r1 E1 => ⟨true, tru_V ht R1 r1, ?_⟩)
    exact P ι1 H1 V R1 r1 E1
  · rename_i ht
    refine wE.of (pe_orT pe_w pe_w) (h1.se σ m u m1 ρ H ι _ e1 R S fun ι1 H1 V R1 r1 E1 => ⟨false, tru_V ht R1 r1, ?_⟩)
    exact h2.se σ m1 v m' ρ H1 ι1 Q ev R1 (S.ext E1) (P.from E1)
theorem all_not {a : E} (ha : All C G ad fd psf Pm k a) : All C G ad fd psf Pm k (.not a) := fun X sc o s => by
  refine ⟨fun e h => Sn.unstrip ?_, noL fun _ es => by cases es <;> rfl⟩
  unfold chkE at h
  generalize strip e = e' at h ⊢
  split at h <;> first | (cases h; done) | skip
  rename_i x pos
  have h1 := (ha X sc o s).1 _ h
  refine ⟨fun σ m v m' ρ H ι Q ev R S P => ?_, fun σ m v m' c ρ H ι Q ev tr R S P => ?_, fun z => by cases z⟩
  · simp only [E.ev] at ev
    obtain ⟨u, m1, e1, ev⟩ := onV_val ev
    split at ev <;> cases ev
    rename_i b ht
    refine wE.of (pe_notT pe_w) (h1.se σ m _ _ ρ H ι _ e1 R S fun ι1 H1 V R1 r1 E1 => ⟨b, tru_V ht R1 r1, ?_⟩)
    exact P ι1 H1 _ R1 (.bl _) E1
  · simp only [E.ev] at ev
    obtain ⟨u, m1, e1, ev⟩ := onV_val ev
    split at ev <;> cases ev
    rename_i b ht
    simp only [truth] at tr
    cases tr
    exact wT.of (pt_not pt_w) (h1.st σ m _ _ b ρ H ι _ e1 ht R S fun ι1 H1 R1 E1 => P ι1 H1 R1 E1)
theorem wT_if {c a b : Expr} {X : Cx} {pos : Pos} {ρ : L2.St} {H : Hp} {Q : Bool → Hp → Prop} (h : wT X c ρ H fun k H1 => if k = true then wT X a ρ H1 Q else wT X b ρ H1 Q) : wT X (.IfExp c a b pos) ρ H Q := fun pins s I => by
  refine isTrue_IfExp (thn (h pins s I) fun d s1 ⟨H1, I1, q1⟩ => ?_)
  cases d with
  | true => exact q1 pins s1 I1
  | false => exact q1 pins s1 I1
theorem all_ite {c a b : E} (hc : All C G ad fd psf Pm k c) (ha : All C G ad fd psf Pm k a) (hb : All C G ad fd psf Pm k b) : All C G ad fd psf Pm k (.ite c a b) := fun X sc o s => by
  refine ⟨fun e h => Sn.unstrip ?_, noL fun _ es => by cases es <;> rfl⟩
  unfold chkE at h
  generalize strip e = e' at h ⊢
  split at h <;> first | (cases h; done) | skip
  rename_i x y z pos
  rw [Bool.and_eq_true, Bool.and_eq_true] at h
  have h1 := (hc X sc o s).1 _ h.1.1
  have h2 := (ha X sc o s).1 _ h.1.2
  have h3 := (hb X sc o s).1 _ h.2
  refine ⟨fun σ m v m' ρ H ι Q ev R S P => ?_, fun σ m v m' d ρ H ι Q ev tr R S P => ?_, fun z => by cases z⟩
  · simp only [E.ev] at ev
    obtain ⟨u, m1, e1, ev⟩ := onV_val ev
    split at ev <;> first | (cases ev; done) | skip
    · rename_i ht
      exact wE.of (pe_ifExp pt_w pe_w pe_w) (h1.st σ m u m1 true ρ H ι _ e1 ht R S fun ι1 H1 R1 E1 => h2.se σ m1 v m' ρ H1 ι1 Q ev R1 (S.ext E1) (P.from E1))
    · rename_i ht
      exact wE.of (pe_ifExp pt_w pe_w pe_w) (h1.st σ m u m1 false ρ H ι _ e1 ht R S fun ι1 H1 R1 E1 => h3.se σ m1 v m' ρ H1 ι1 Q ev R1 (S.ext E1) (P.from E1))
  · simp only [E.ev] at ev
    obtain ⟨u, m1, e1, ev⟩ := onV_val ev
    split at ev <;> first | (cases ev; done) | skip
    · rename_i ht
      exact wT_if (h1.st σ m u m1 true ρ H ι _ e1 ht R S fun ι1 H1 R1 E1 => h2.st σ m1 v m' d ρ H1 ι1 Q ev tr R1 (S.ext E1) (P.from E1))
    · rename_i ht
      exact wT_if (h1.st σ m u m1 false ρ H ι _ e1 ht R S fun ι1 H1 R1 E1 => h3.st σ m1 v m' d ρ H1 ι1 Q ev tr R1 (S.ext E1) (P.from E1))
theorem marks_no {op op' : CmpOp} {b c : Expr} (h3 : op' ≠ .In) (h4 : op' ≠ .NotIn) : lastMarks [op, op'] [b, c] = false := by
  show behindInMarks op' c = false
  unfold behindInMarks
  split
  · cases op' <;> first | exact absurd rfl h3 | exact absurd rfl h4 | (simp; done) | (show (_ && (false || false) && _) = false; simp)
  · rfl
theorem all_chain {p q : Prim} {a b c : E} (ha : All C G ad fd psf Pm k a) (hb : All C G ad fd psf Pm k b) (hc : All C G ad fd psf Pm k c) : All C G ad fd psf Pm k (.chain p q a b c) := fun X sc o s => by
  refine ⟨fun e h => Sn.unstrip ?_, noL fun _ es => by cases es <;> rfl⟩
  unfold chkE at h
  generalize strip e = e' at h ⊢
  split at h <;> first | (cases h; done) | skip
  rename_i x o1 o2 y z pos
  simp only [Bool.and_eq_true, decide_eq_true_eq] at h
  obtain ⟨⟨⟨⟨⟨⟨⟨⟨g1, g2⟩, _⟩, _⟩, n3⟩, n4⟩, k1⟩, k2⟩, k3⟩ := h
  have h1 := ((ha X sc o s).1 _ k1).se
  have h2 := ((hb X sc o s).1 _ k2).se
  have h3 := ((hc X sc o s).1 _ k3).se
  have key : ∀ (σ : Sta) m v m' ρ H ι Q, (E.chain p q a b c).ev (run Pm k) σ m = .val v m' → Rel X.K G m ι H → StaR X.K G m.n ι H σ ρ → Post X G m ι H m' v Q →
      tChain (OpV X (compareOp o1)) (OpV X (compareOp o2)) (wE X x) (wE X y) (wE X z) ρ H Q := fun σ m v m' ρ H ι Q ev R S P => by
    simp only [E.ev] at ev
    obtain ⟨u, m1, e1, ev⟩ := onV_val ev
    obtain ⟨w, m2, e2, ev⟩ := onV_val ev
    refine h1 σ m u m1 ρ H ι _ e1 R S fun ι1 H1 V R1 r1 E1 => ?_
    refine h2 σ m1 w m2 ρ H1 ι1 _ e2 R1 (S.ext E1) fun ι2 H2 W R2 r2 E2 => ?_
    split at ev <;> first | (cases ev; done) | skip
    · rename_i m3 hp
      obtain ⟨t, m4, e3, ev⟩ := onV_val ev
      have hq := ofRV_val ev
      refine prim_cmp o.room g1 hp R2 (r1.ext E2) r2 fun ι3 H3 V3 R3 r3 E3 => ?_
      cases r3
      refine ⟨true, rfl, h3 σ m3 t m4 ρ H3 ι3 _ e3 R3 (S.ext ((E1.trans E2).trans E3)) fun ι4 H4 T R4 r4 E4 => ?_⟩
      exact prim_cmp o.room g2 hq R4 (r2.ext (E3.trans E4)) r4 (P.from (((E1.trans E2).trans E3).trans E4))
    · rename_i m3 hp
      cases ev
      refine prim_cmp o.room g1 hp R2 (r1.ext E2) r2 fun ι3 H3 V3 R3 r3 E3 => ?_
      cases r3
      exact ⟨false, rfl, P ι3 H3 _ R3 (.bl _) ((E1.trans E2).trans E3)⟩
  refine ⟨fun σ m v m' ρ H ι Q ev R S P => wE.of (pe_chain opV opV pe_w pe_w pe_w (marks_no n3 n4)) (key σ m v m' ρ H ι Q ev R S P), fun σ m v m' d ρ H ι Q ev tr R S P => ?_, fun z => by cases z⟩
  refine wT.of (pt_chain opV opV pe_w pe_w pe_w (marks_no n3 n4)) ?_
  have bl : ∃ d', v = .bl d' := by
    simp only [E.ev] at ev
    obtain ⟨u, m1, e1, ev⟩ := onV_val ev
    obtain ⟨w, m2, e2, ev⟩ := onV_val ev
    split at ev <;> first | (cases ev; done) | skip
    · obtain ⟨t, m4, e3, ev⟩ := onV_val ev
      exact prim_cmp_bl g2 (ofRV_val ev)
    · cases ev; exact ⟨_, rfl⟩
  obtain ⟨d', rfl⟩ := bl
  simp only [truth] at tr
  cases tr
  exact key σ m _ m' ρ H ι _ ev R S fun ι' H' V R' r E => by
    cases r
    exact ⟨_, rfl, P ι' H' R' E⟩
theorem Reps.split {K : PySem.W.Frag} {n : Nat} {ι : Nat → Addr} {H : Hp} : ∀ {a b : List V} {vs : List Val}, Reps K G n ι H vs (a ++ b) → ∃ xs ys, vs = xs ++ ys ∧ Reps K G n ι H xs a ∧ Reps K G n ι H ys b
  | [], b, vs, r => ⟨[], vs, rfl, .nil, r⟩
  | x :: a, b, _, .cons r t => by
    obtain ⟨xs, ys, e, r1, r2⟩ := Reps.split t
    exact ⟨_ :: xs, ys, by rw [e]; rfl, .cons r r1, r2⟩
theorem permL_reps {K : PySem.W.Frag} {n : Nat} {ι : Nat → Addr} {H : Hp} {vs : List Val} {Vs : List V} (r : Reps K G n ι H vs Vs) : ∀ {perm : List Nat} {ws : List Val}, permL vs perm = some ws → ∃ Ws, permL Vs perm = some Ws ∧ Reps K G n ι H ws Ws
  | [], ws, h => by
    simp only [permL] at h
    cases h
    exact ⟨[], rfl, .nil⟩
  | i :: p, ws, h => by
    simp only [permL] at h
    split at h <;> cases h
    rename_i v zs h1 h2
    obtain ⟨Ws, e, rs⟩ := permL_reps r h2
    obtain ⟨V, e1, r1⟩ := r.get h1
    exact ⟨V :: Ws, by simp only [permL, e1, e], .cons r1 rs⟩
theorem wEs_len {X : Cx} {es : List Expr} {ρ : L2.St} : ∀ {H : Hp} {Q : List V → Hp → Prop}, wEs X es ρ H Q → wEs X es ρ H fun vs H' => vs.length = es.length ∧ Q vs H' := by
  induction es with
  | nil => intro H Q h; exact ⟨rfl, h⟩
  | cons e es ih =>
    intro H Q h
    exact wE.mono h fun V H1 w => wEs.mono (ih w) fun vs H2 ⟨l, q⟩ => ⟨by rw [List.length_cons, List.length_cons, l], q⟩
theorem all_call {f : Nat} {perm : List Nat} {as : E} (ha : All C G ad fd psf Pm k as) : All C G ad fd psf Pm k (.call f perm as) := fun X sc o s => by
  refine ⟨fun e h => Sn.unstrip ?_, noL fun _ es => by cases es <;> rfl⟩
  unfold chkE at h
  generalize strip e = e' at h ⊢
  split at h <;> first | (cases h; done) | skip
  rename_i x p es kws pos
  simp only [Bool.and_eq_true, decide_eq_true_eq] at h
  obtain ⟨⟨⟨⟨g1, g2⟩, g3⟩, g4⟩, g5⟩ := h
  obtain ⟨sg, hm, hs⟩ := List.any_eq_true.mp g4
  simp only [Bool.and_eq_true, decide_eq_true_eq, beq_iff_eq] at hs
  obtain ⟨⟨⟨s1, s2⟩, s3⟩, s4⟩ := hs
  have hL := (ha X sc o s).2 _ g5
  obtain ⟨q1, q2, q3⟩ := o.nm f x g2
  obtain ⟨l1, l2⟩ := s.glo g1
  have hb := o.sg sg hm
  rw [s1, s2, s4] at hb
  refine Sn.plain (fun σ m v m' ρ H ι Q ev R S P => ?_) (fun _ => rfl) rfl
  simp only [E.ev] at ev
  obtain ⟨vs, m2, e1, ev⟩ := onL_val ev
  split at ev <;> first | (cases ev; done) | skip
  rename_i ws hp
  refine wE_call q3 o.room o.gd l1 q1 q2 hb g3 s3 l2 ?_
  have w := wEs.append (hL σ m vs m2 ρ H ι (fun Vs H2 => ∃ Vs', permL Vs perm = some Vs' ∧ spEv X.K G Pm k f Vs' H2 Q) e1 R S fun ι2 H2 Vs R2 r2 E2 => by
    obtain ⟨Ws, e2, rw⟩ := permL_reps r2 hp
    exact ⟨Ws, e2, m2, ι2, ws, v, m', R2, rw, ev, fun ι' H' V R' r' E' => P ι' H' V R' r' (E2.trans E')⟩)
  refine wEs.as g3 (wEs.mono (wEs_len w) fun vs1 H1 ⟨lv, w1⟩ => ?_)
  refine wEs.kw (wEs.mono (wEs_len w1) fun zs H2 ⟨lz, q⟩ => ⟨lv, ?_, q⟩)
  rw [lz, List.length_map]
  have := congrArg List.length s3
  rw [List.length_map, List.length_map] at this
  exact this

/-! ### comprehensions -/
theorem XOk.blk {X : Cx} (o : XOk C G ad fd psf Pm k X) (s0 : Shared) (H0 : Hp) (scope : Scope) (env : Env) (fp : List Addr) : XOk C G ad fd psf Pm k (X.blk s0 H0 scope env fp) :=
  ⟨o.N, o.nd, o.room, o.gd, o.calm, o.bs, o.nm, o.sg, o.gs⟩
theorem lookup_rel_free {sc : Scope} : ∀ {names : List (Str × NameKind)} {x : Str}, names.lookup x = some .free →
    (names.map fun (n, k) => if (k == NameKind.free && sc.kind == .function && sc.names.lookup n == some .cell) then (n, NameKind.cell) else (n, k)).lookup x = some .free ∨
    (names.map fun (n, k) => if (k == NameKind.free && sc.kind == .function && sc.names.lookup n == some .cell) then (n, NameKind.cell) else (n, k)).lookup x = some .cell
  | [], _, h => by simp at h
  | (n, k) :: r, x, h => by
    have ih := @lookup_rel_free sc r x
    show List.lookup x ((if (k == NameKind.free && sc.kind == .function && sc.names.lookup n == some .cell) = true then (n, NameKind.cell) else (n, k)) :: (r.map _)) = _ ∨ List.lookup x ((if (k == NameKind.free && sc.kind == .function && sc.names.lookup n == some .cell) = true then (n, NameKind.cell) else (n, k)) :: (r.map _)) = _
    cases hx : x == n with
    | true =>
      simp only [List.lookup_cons, hx] at h
      cases h
      by_cases hc : (NameKind.free == NameKind.free && sc.kind == .function && sc.names.lookup n == some .cell) = true
      · rw [if_pos hc]; simp only [List.lookup_cons, hx]; exact .inr trivial
      · rw [if_neg hc]; simp only [List.lookup_cons, hx]; exact .inl trivial
    | false =>
      simp only [List.lookup_cons, hx] at h
      by_cases hc : (k == NameKind.free && sc.kind == .function && sc.names.lookup n == some .cell) = true
      · rw [if_pos hc]; simp only [List.lookup_cons, hx]; exact ih h
      · rw [if_neg hc]; simp only [List.lookup_cons, hx]; exact ih h
theorem ScOk.blk {X : Cx} (s0 : Shared) (H0 : Hp) (scope : Scope) (cl : List (Str × Addr)) (Ca : Addr) (fp : List Addr) : ScOk scope (X.blk s0 H0 scope (compEnvC scope cl Ca X.env) fp) := by
  refine ⟨fun x kd h => ?_, fun x h => by show (scope.names.lookup x == some .cell) = true; rw [h]; rfl⟩
  by_cases hk : kd = .free
  · subst hk
    rcases lookup_rel_free (sc := X.env.scope) h with q | q
    · exact .inl q
    · exact .inr ⟨rfl, q⟩
  · exact .inl (lookup_relS_keep hk h)
theorem blk_mono {X : Cx} {N : List Str} {sc scope : Scope} {own : List (Str × Nat)} (h : BlkOk N sc scope own) (s : ScOk sc X) : BlkOk N X.env.scope scope own := by
  refine ⟨h.kind, h.uniq, h.ix, fun y hy e => ?_, h.own⟩
  rcases h.free y hy e with q | q
  · rcases s.at_ _ _ q with z | ⟨z, _⟩
    · exact .inl z
    · cases z
  · rcases s.at_ _ _ q with z | ⟨_, z⟩
    · exact .inr z
    · exact .inl z
theorem own_map {N : List Str} : ∀ {own : List Nat} {ow : List (Str × Nat)}, ownOf N own = some ow → ow.map (·.2) = own
  | [], _, h => by cases h; rfl
  | i :: r, _, h => by
    simp only [ownOf] at h
    split at h <;> cases h
    rename_i h2
    rw [List.map_cons, own_map h2]
theorem synI_fold {sc : Scope} {kd : ItK} {e : Expr} {es : List Expr} (h : synI C sc kd e = some es) (env : Env) : ∀ x, foldedSetIterable e env x = pure x := fun x => by
  have : ∀ a b c, e ≠ .Set a b c := fun a b c z => by
    subst z
    cases kd <;> simp [synI] at h
  unfold foldedSetIterable
  split
  · exact absurd rfl (this _ _ _)
  · rfl
theorem synI_pair {sc scope : Scope} {kd kd' : ItK} {t : Pt} {te : Expr} (h : chkT C scope kd t te = true) : isPair kd = true → ∃ elts kk tp, te = .Tuple elts kk tp := fun hp => by
  cases t with
  | one i =>
    obtain ⟨x, px, _, hc⟩ := chkT_one h
    simp only [Bool.and_eq_true, Bool.not_eq_true'] at hc
    rw [hc.2] at hp
    cases hp
  | two i j =>
    obtain ⟨x, px, y, py, kk, tp, rfl, _⟩ := chkT_two h
    exact ⟨_, _, _, rfl⟩
abbrev gB (X : Cx) (scope : Scope) (tg : Expr) : TG := fun v σ H Q => ∀ (s0 : Shared) (H0 : Hp) (Ca : Addr) (cl : List (Str × Addr)) (fp : List Addr), wG (X.blk s0 H0 scope (compEnvC scope cl Ca X.env) fp) tg v σ H Q
abbrev eB (X : Cx) (scope : Scope) (e : Expr) : TE := fun σ H Q => ∀ (s0 : Shared) (H0 : Hp) (Ca : Addr) (cl : List (Str × Addr)) (fp : List Addr), wE (X.blk s0 H0 scope (compEnvC scope cl Ca X.env) fp) e σ H Q
abbrev tB (X : Cx) (scope : Scope) : List Expr → TT
  | [] => tYes
  | c :: _ => fun σ H Q => ∀ (s0 : Shared) (H0 : Hp) (Ca : Addr) (cl : List (Str × Addr)) (fp : List Addr), wT (X.blk s0 H0 scope (compEnvC scope cl Ca X.env) fp) c σ H Q
section
variable {X : Cx} {scope : Scope} (s0 : Shared) (H0 : Hp) (Ca : Addr) (cl : List (Str × Addr)) (fp : List Addr)
theorem pg_B {tg : Expr} : PG (X.blk s0 H0 scope (compEnvC scope cl Ca X.env) fp) tg (gB X scope tg) := ⟨fun pins s σ H v u Q I r h => h s0 H0 Ca cl fp pins s u I r⟩
theorem pe_B {e : Expr} : PE (X.blk s0 H0 scope (compEnvC scope cl Ca X.env) fp) e (eB X scope e) := ⟨fun pins s σ H Q I h => h s0 H0 Ca cl fp pins s I⟩
theorem pts_B1 {e : Expr} : PTs (X.blk s0 H0 scope (compEnvC scope cl Ca X.env) fp) [e] (tB X scope [e]) := pts_one ⟨fun pins s σ H Q I h => h s0 H0 Ca cl fp pins s I⟩
theorem pts_B {ifs : List Expr} (h : ifs.length ≤ 1) : PTs (X.blk s0 H0 scope (compEnvC scope cl Ca X.env) fp) ifs (tB X scope ifs) := by
  match ifs, h with
  | [], _ => exact pts_nil
  | [c], _ => exact pts_B1 s0 H0 Ca cl fp
end
/-- the test of a comprehension -/
def condOk (C : Ck) (scope : Scope) (cond : E) (ifs : List Expr) : Bool := match ifs with
  | [] => (match cond with
    | .yes => true
    | _ => false)
  | [c] => chkE C cond scope c
  | _ => false
theorem cond_B {X : Cx} {sc scope : Scope} {cond : E} (o : XOk C G ad fd psf Pm k X) (hc : All C G ad fd psf Pm k cond) {ifs : List Expr} (h : condOk C scope cond ifs = true) {σ : Sta} {m : Mem} {v : Val} {m' : Mem} {b : Bool} {ρ : L2.St} {H : Hp} {ι : Nat → Addr} {Q : Bool → Hp → Prop}
    (ev : cond.ev (run Pm k) σ m = .val v m') (tr : truth m' v = some b) (R : Rel X.K G m ι H) (S : StaR X.K G m.n ι H σ ρ) (P : PostT X G m ι H m' b Q) : tB X scope ifs ρ H Q := by
  unfold condOk at h
  split at h
  · split at h
    · simp only [E.ev] at ev
      cases ev
      simp only [truth] at tr
      cases tr
      exact P ι H R Ext.refl
    · cases h
  · exact fun s0 H0 Ca cl fp => ((hc _ scope (o.blk _ _ _ _ _) (ScOk.blk s0 H0 scope cl Ca fp)).1 _ h).st σ m v m' b ρ H ι Q ev tr R S P
  · cases h
theorem set_wipe {i : Nat} : ∀ {own : List Nat} {ρ : L2.St}, i ∈ own → (L2.wipe ρ own).set i none = L2.wipe ρ own
  | [], _, h => by cases h
  | j :: r, ρ, h => by
    show ((L2.wipe ρ r).set j none).set i none = (L2.wipe ρ r).set j none
    by_cases e : i = j
    · subst e
      rw [List.set_set]
    · rw [List.set_comm _ _ (fun z => e z.symm)]
      have : i ∈ r := by
        rcases List.mem_cons.mp h with z | z
        · exact absurd z e
        · exact z
      rw [set_wipe this]
theorem wipe_idem (ρ : L2.St) (own : List Nat) : L2.wipe (L2.wipe ρ own) own = L2.wipe ρ own := by
  have : ∀ vs : List Nat, (∀ i ∈ vs, i ∈ own) → L2.wipe (L2.wipe ρ own) vs = L2.wipe ρ own := by
    intro vs
    induction vs with
    | nil => intro _; rfl
    | cons i vs ih =>
      intro h
      show (L2.wipe (L2.wipe ρ own) vs).set i none = _
      rw [ih fun j hj => h j (List.mem_cons_of_mem _ hj)]
      exact set_wipe (h i List.mem_cons_self)
  exact this own fun _ h => h
/-- what a comprehension's term and text have in common -/
theorem lc_parts {own : List Nat} {kd : ItK} {tg : Pt} {it cond elt : E} (hi : All C G ad fd psf Pm k it) (hc : All C G ad fd psf Pm k cond) (he : All C G ad fd psf Pm k elt) {X : Cx} {sc : Scope} (o : XOk C G ad fd psf Pm k X) (s : ScOk sc X)
    {ex te ie : Expr} {ifs : List Expr} {scope : Scope} {is : List Expr} {ow : List (Str × Nat)} (h1 : synI C sc kd ie = some is) (h2 : ownOf C.N own = some ow) (h4 : chkL C it sc is = true) (h5 : chkT C scope kd tg te = true) (h6 : tg.mem own = true)
    (h7 : condOk C scope cond ifs = true) (h8 : chkE C elt scope ex = true) {σ : Sta} {m : Mem} {v : Val} {m' : Mem} {ρ : L2.St} {H : Hp} {ι : Nat → Addr} {Q : VK} (ev : (E.lcomp own kd tg it cond elt).ev (run Pm k) σ m = .val v m') (R : Rel X.K G m ι H) (S : StaR X.K G m.n ι H σ ρ) (P : Post X G m ι H m' v Q) :
    tLc (wI X te ie) (gB X scope te) (tB X scope ifs) (eB X scope ex) (ow.map (·.2)) ρ H Q := by
  simp only [E.ev] at ev
  obtain ⟨vs, m2, e1, ev⟩ := onL_val ev
  split at ev <;> first | (cases ev; done) | skip
  rename_i src hsrc
  obtain ⟨u, m3, e2, ev⟩ := onV_val ev
  cases ev
  rw [own_map h2]
  unfold tLc
  refine src_I o s h1 hsrc (synI_pair (kd' := kd) (sc := sc) h5) ((hi X sc o s).2 is h4 σ m vs m2 ρ H ι _ e1 R S fun ι2 H2 Vs R2 r2 E2 => ⟨ι2, R2, r2, fun J hJ D hD => ?_⟩)
  have pr := src_pair hsrc
  generalize hF : (fun (v : Val) (m : Mem) => match tg.set (wipeS σ own) v with
        | some σ2 => (cond.ev (run Pm k) σ2 m).onV fun c m => match truth m c with
          | some true => (elt.ev (run Pm k) σ2 m).onV fun y m => match m.get m2.n with
            | some (.lst acc) => if small acc then Res.val .non (m.put m2.n (.lst (acc ++ [y]))) else .bad
            | _ => .bad
          | some false => .val .non m
          | none => .bad
        | none => .bad) = F at e2
  have R0 : Rel X.K G (m2.new (.lst [])) (push ι2 m2.n D) (upd H2 D (.lst [])) := R2.new hD rfl ⟨[], upd_same, .nil⟩
  have E0 : Ext X.K m2.n ι2 H2 (m2.n + 1) (push ι2 m2.n D) (upd H2 D (.lst [])) := ext_push hD
  refine ⟨fun i f H3 => ∃ (mm : Mem) (ι3 : Nat → Addr), Rel X.K G mm ι3 H3 ∧ Ext X.K (m2.n + 1) (push ι2 m2.n D) (upd H2 D (.lst [])) mm.n ι3 H3 ∧ cturns F src f i mm = .val u m', ⟨_, _, _, R0, Ext.refl, e2⟩, fun i f H3 ⟨mm, ι3, R3, E3, ec⟩ => ?_⟩
  cases f with
  | zero => cases ec
  | succ f =>
    simp only [cturns] at ec
    have hD3 : ι3 m2.n = D := by rw [E3.eq _ (Nat.lt_succ_self _), push_at]
    have hlt : m2.n < mm.n := Nat.lt_of_lt_of_le (Nat.lt_succ_self _) E3.le
    have hJ3 := hJ.ext (E0.trans E3)
    split at ec <;> first | (cases ec; done) | skip
    · rename_i w hn
      refine .inr ⟨(src_go R3 hJ3 hn).1, fun H' => ∃ (mm' : Mem) (ι' : Nat → Addr), Rel X.K G mm' ι' H' ∧ Ext X.K (m2.n + 1) (push ι2 m2.n D) (upd H2 D (.lst [])) mm'.n ι' H' ∧ cturns F src f (i + 1) mm' = .val u m', fun H' ⟨mm', ι', a, b, c⟩ => ⟨f, Nat.lt_succ_self _, mm', ι', a, b, c⟩, fun x H' hy => ?_⟩
      have hY := (src_go R3 hJ3 hn).2 x H' hy
      rw [pr] at hY
      split at ec <;> first | (cases ec; done) | skip
      rename_i y mm' hf
      rw [← hF] at hf
      simp only at hf
      split at hf <;> first | (cases hf; done) | skip
      rename_i σ2 hset
      obtain ⟨c, m4, e4, hf⟩ := onV_val hf
      have S3 : StaR X.K G mm.n ι3 H3 (wipeS σ own) (L2.wipe ρ own) := (S.ext ((E2.trans E0).trans E3)).wipe own
      intro s0 H0 Ca cl fp
      refine tgt_ok (X := X.blk s0 H0 scope (compEnvC scope cl Ca X.env) fp) (o.blk _ _ _ _ _) (ScOk.blk s0 H0 scope cl Ca fp) h5 hY hset S3 fun ρ2 H4 S4 E4 hw hH => ⟨?_, ?_⟩
      · rw [hw own h6]
        exact wipe_idem ρ own
      have R4 : Rel X.K G mm ι3 H4 := by
        rcases hH with rfl | ⟨p, z, hp, rfl⟩
        · exact R3
        · exact R3.fresh hp
      split at hf <;> first | (cases hf; done) | skip
      · rename_i ht
        refine cond_B (sc := sc) o hc h7 e4 ht R4 S4 fun ι5 H5 R5 E5 => ?_
        rw [if_pos rfl]
        obtain ⟨z, m6, e6, hf⟩ := onV_val hf
        intro s1 H1 Ca1 cl1 fp1
        refine ((he _ scope (o.blk _ _ _ _ _) (ScOk.blk s1 H1 scope cl1 Ca1 fp1)).1 _ h8).se σ2 m4 z m6 ρ2 H5 ι5 _ e6 R5 (S4.ext E5) fun ι6 H6 V R6 r6 E6 => ?_
        split at hf <;> first | (cases hf; done) | skip
        rename_i acc hg
        split at hf <;> cases hf
        have hsm : small acc = true := by assumption
        obtain ⟨ys, hys, rs⟩ := R6.lst hg
        have Eall : Ext X.K (m2.n + 1) (push ι2 m2.n D) (upd H2 D (.lst [])) m6.n ι6 H6 := ((E3.trans E4).trans E5).trans E6
        have hD6 : ι6 m2.n = D := by rw [Eall.eq _ (Nat.lt_succ_self _), push_at]
        rw [hD6] at hys
        have E7 : Ext X.K m6.n ι6 H6 m6.n ι6 (upd H6 D (.lst (ys ++ [V]))) := ext_write hys True.intro
        refine ⟨ys, hys, by rw [← rs.length]; exact small_lt hsm, m6.put m2.n (.lst (acc ++ [z])), ι6, ?_, Eall.trans E7, ec⟩
        have := R6.put (u := .lst ys) (o := .lst (ys ++ [V])) hg (by rw [hD6]; exact hys) True.intro rfl rfl (v' := .lst (acc ++ [z])) ⟨ys ++ [V], upd_same, by
          rw [hD6]
          exact (rs.snoc r6).ext E7⟩
        rw [hD6] at this
        exact this
      · rename_i ht
        cases hf
        refine cond_B (sc := sc) o hc h7 e4 ht R4 S4 fun ι5 H5 R5 E5 => ?_
        rw [if_neg (by simp)]
        exact ⟨_, ι5, R5, (E3.trans E4).trans E5, ec⟩
    · rename_i hn
      cases ec
      refine .inl ⟨src_stop R3 hJ3 hn, ?_⟩
      have := P ι3 H3 _ R3 (.ref m2.n hlt) ((E2.trans E0).trans E3)
      rw [hD3] at this
      exact this
end
end Mi

/-! Every term; the statements. -/
namespace Mi
open PySem L2 PySem.Spec PyProof.Rows
section
variable {C : Ck} {G : Nat → Addr} {ad : Nat → Addr} {fd : Nat → FuncData} {psf : Nat → List Str} {Pm : List Fn} {k : Nat}
theorem chk_lcomp {own : List Nat} {kd : ItK} {tg : Pt} {it cond elt : E} {sc : Scope} {e : Expr} (h : chkE C (.lcomp own kd tg it cond elt) sc e = true) : ∃ ex te ie ifs scope pos is ow, strip e = .ListComp ex [⟨te, ie, ifs, 0⟩] scope pos ∧
    synI C sc kd ie = some is ∧ ownOf C.N own = some ow ∧ blkC C.N sc scope ow = true ∧ chkL C it sc is = true ∧ chkT C scope kd tg te = true ∧ tg.mem own = true ∧ condOk C scope cond ifs = true ∧ chkE C elt scope ex = true := by
  unfold chkE at h
  generalize strip e = e' at h ⊢
  split at h <;> first | (cases h; done) | skip
  rename_i ex te ie ifs scope pos
  split at h <;> first | (cases h; done) | skip
  rename_i is ow hi ho
  rw [Bool.and_eq_true, Bool.and_eq_true, Bool.and_eq_true, Bool.and_eq_true, Bool.and_eq_true] at h
  exact ⟨ex, te, ie, ifs, scope, pos, is, ow, rfl, hi, ho, h.1.1.1.1.1, h.1.1.1.1.2, h.1.1.1.2, h.1.1.2, h.1.2, h.2⟩
theorem cond_len {scope : Scope} {cond : E} {ifs : List Expr} (h : condOk C scope cond ifs = true) : ifs.length ≤ 1 := by
  unfold condOk at h
  split at h
  · exact Nat.zero_le _
  · exact Nat.le_refl _
  · cases h
theorem all_lcomp {own : List Nat} {kd : ItK} {tg : Pt} {it cond elt : E} (hi : All C G ad fd psf Pm k it) (hc : All C G ad fd psf Pm k cond) (he : All C G ad fd psf Pm k elt) : All C G ad fd psf Pm k (.lcomp own kd tg it cond elt) := fun X sc o s => by
  refine ⟨fun e h => Sn.unstrip ?_, noL fun _ es => by cases es <;> rfl⟩
  obtain ⟨ex, te, ie, ifs, scope, pos, is, ow, eq, h1, h2, h3, h4, h5, h6, h7, h8⟩ := chk_lcomp h
  rw [eq]
  refine Sn.plain (fun σ m v m' ρ H ι Q ev R S P => ?_) (fun _ => rfl) rfl
  exact wE.of (pe_lc o.calm o.nd pi_w (blk_mono (by rw [o.N]; exact blkOk_by h3) s) (fun s0 H0 Ca cl fp => pg_B s0 H0 Ca cl fp) (fun s0 H0 Ca cl fp => pts_B s0 H0 Ca cl fp (cond_len h7)) (fun s0 H0 Ca cl fp => pe_B s0 H0 Ca cl fp) (synI_fold h1 _))
    (lc_parts hi hc he o s h1 h2 h4 h5 h6 h7 h8 ev R S P)
theorem all_yes : All C G ad fd psf Pm k .yes := fun X sc o s => ⟨fun e h => (by unfold chkE at h; cases h), noL fun _ es => by cases es <;> rfl⟩
theorem all : ∀ t : E, All C G ad fd psf Pm k t
  | .var i => all_var i
  | .cst c => all_cst c
  | .prim p as => all_prim (all as)
  | .meth p o as => all_meth (all o) (all as)
  | .and a b => all_and (all a) (all b)
  | .or a b => all_or (all a) (all b)
  | .not a => all_not (all a)
  | .ite c a b => all_ite (all c) (all a) (all b)
  | .chain p q a b c => all_chain (all a) (all b) (all c)
  | .call f perm as => all_call (all as)
  | .lcomp own kd tg it cond elt => all_lcomp (all it) (all cond) (all elt)
  | .yes => all_yes
  | .nil => all_nil
  | .cons a r => all_cons (all a) (all r)
/-! ### statements -/
def PostS (X : Cx) (G : Nat → Addr) (m : Mem) (ι : Nat → Addr) (H : Hp) (r : Res) (D : Ends) : Prop := match r with
  | .next σ' m' => ∀ ι' H' ρ', Rel X.K G m' ι' H' → StaR X.K G m'.n ι' H' σ' ρ' → Ext X.K m.n ι H m'.n ι' H' → D.nx ρ' H'
  | .ret v m' => ∀ ι' H' V, Rel X.K G m' ι' H' → Rep X.K G m'.n ι' H' v V → Ext X.K m.n ι H m'.n ι' H' → D.rt V H'
  | _ => False
theorem PostS.from {X : Cx} {m m1 : Mem} {ι ι1 : Nat → Addr} {H H1 : Hp} {r : Res} {D : Ends} (P : PostS X G m ι H r D) (e : Ext X.K m.n ι H m1.n ι1 H1) : PostS X G m1 ι1 H1 r D := by
  cases r <;> first | exact P | exact fun ι' H' ρ' a b c => P ι' H' ρ' a b (e.trans c)
/-- the end of a target -/
def PostG (X : Cx) (G : Nat → Addr) (m : Mem) (ι : Nat → Addr) (H : Hp) (r : Res) (Q : L2.St → Hp → Prop) : Prop := match r with
  | .next σ' m' => ∀ ι' H' ρ', Rel X.K G m' ι' H' → StaR X.K G m'.n ι' H' σ' ρ' → Ext X.K m.n ι H m'.n ι' H' → Q ρ' H'
  | _ => False
theorem PostG.from {X : Cx} {m m1 : Mem} {ι ι1 : Nat → Addr} {H H1 : Hp} {r : Res} {Q : L2.St → Hp → Prop} (P : PostG X G m ι H r Q) (e : Ext X.K m.n ι H m1.n ι1 H1) : PostG X G m1 ι1 H1 r Q := by
  cases r <;> first | exact P | exact fun ι' H' ρ' a b c => P ι' H' ρ' a b (e.trans c)
def SeV (X : Cx) : TSet := fun o i v H Q => ∃ t : TSet, PSet X t ∧ t o i v H Q
theorem seV {X : Cx} : PSet X (SeV X) := fun pins s σ H o i v ov iv u Q I r1 r2 r3 ⟨_, h, q⟩ => h pins s σ H o i v ov iv u Q I r1 r2 r3 q
theorem onVP {r : Res} {f : Val → Mem → Res} {P : Res → Prop} (hb : ¬ P .bad) (h : P (r.onV f)) : ∃ v m, r = .val v m ∧ P (f v m) := by
  cases r <;> first | exact absurd h hb | exact ⟨_, _, rfl, h⟩
theorem onLP {r : Res} {f : List Val → Mem → Res} {P : Res → Prop} (hb : ¬ P .bad) (h : P (r.onL f)) : ∃ v m, r = .vals v m ∧ P (f v m) := by
  cases r <;> first | exact absurd h hb | exact ⟨_, _, rfl, h⟩
theorem bl_nat {a b : Nat} (h : Nat.blt a b = true) : a < b := Nat.le_of_ble_eq_true h
def TgS (X : Cx) (G : Nat → Addr) (call : Nat → List Val → Mem → Res) (t : Tg) (e : Expr) : Prop :=
  ∀ (σ : Sta) (m : Mem) (v : Val) (V : L2.V) (ρ : L2.St) (H : Hp) (ι : Nat → Addr) (Q : L2.St → Hp → Prop), Rel X.K G m ι H → StaR X.K G m.n ι H σ ρ → Rep X.K G m.n ι H v V → PostG X G m ι H (t.ev call v σ m) Q → wG X e V ρ H Q
theorem chkG_name {sc : Scope} {i : Nat} : ∀ {e : Expr}, chkG C sc (.name i) e = true → ∃ x px, e = .Name x px ∧ (at0 C.N i x && isLoc sc x) = true
  | .Name x px, h => ⟨x, px, rfl, by simpa only [chkG] using h⟩
theorem chkG_item {sc : Scope} {a i : E} : ∀ {e : Expr}, chkG C sc (.item a i) e = true → ∃ x y p, e = .Subscript x y p ∧ (chkE C a sc x && chkE C i sc y && noSlice y) = true
  | .Subscript x y p, h => ⟨x, y, p, rfl, by simpa only [chkG] using h⟩
theorem chkG_two {sc : Scope} {a b : Tg} {e : Expr} (h : chkG C sc (.two a b) e = true) : ∃ x y kk p, e = .Tuple [x, y] kk p ∧ (plainArg x && plainArg y && chkG C sc a x && chkG C sc b y) = true := by
  cases e <;> first | (simp only [chkG] at h; cases h; done) | skip
  rename_i es kk p
  match es, h with
  | [x, y], h => exact ⟨x, y, kk, p, rfl, by simpa only [chkG] using h⟩
theorem assign_sub {a b : Expr} {p : Pos} {env : Env} (h : noSlice b = true) (v : Value) : assign (.Subscript a b p) env v = (do
      let ov ← holding [v] (eval a env)
      let iv ← holding [v, ov] (eval b env)
      standAt p
      holding [v, ov, iv] (setItem ov iv v)
      release [v, ov, iv] []) := by
  cases b <;> first | (cases h; done) | rfl
theorem each_two {x y : Expr} {env : Env} (h1 : plainArg x = true) (h2 : plainArg y = true) : assignEach [x, y] env = [(false, assign x env), (false, assign y env)] := by
  cases x <;> first | (cases h1; done) | skip
  all_goals cases y <;> first | (cases h2; done) | rfl
theorem tg_ok {X : Cx} {sc : Scope} (o : XOk C G ad fd psf Pm k X) (s : ScOk sc X) : ∀ (t : Tg) (e : Expr), chkG C sc t e = true → TgS X G (run Pm k) t e
  | .name i, e, h => by
    obtain ⟨x, px, ee, h0⟩ := chkG_name h; clear h; subst ee; have h := h0; clear h0
    intro σ m v V ρ H ι Q R S r P
    simp only [Bool.and_eq_true, at0, decide_eq_true_eq] at h
    obtain ⟨l1, l2⟩ := s.loc h.2
    exact wG.of (pg_name o.nd (by rw [o.N]; exact h.1) l1 l2) (P ι H _ R (S.set r) Ext.refl)
  | .item a i, e, h => by
    obtain ⟨oe, ie, pos, ee, h0⟩ := chkG_item h; clear h; subst ee; have h := h0; clear h0
    intro σ m v V ρ H ι Q R S r P
    simp only [Bool.and_eq_true] at h
    obtain ⟨⟨h1, h2⟩, h3⟩ := h
    have k1 := ((all a X sc o s).1 _ h1).se
    have k2 := ((all i X sc o s).1 _ h2).se
    refine wG.of (pg_sub pe_w pe_w seV (assign_sub h3)) ?_
    simp only [Tg.ev] at P
    obtain ⟨x, m1, e1, P1⟩ := onVP (P := fun r => PostG X G m ι H r Q) (fun z => z) P
    clear P
    obtain ⟨kk, m2, e2, P⟩ := onVP (P := fun r => PostG X G m ι H r Q) (fun z => z) P1
    clear P1
    refine k1 σ m x m1 ρ H ι _ e1 R S fun ι1 H1 V1 R1 r1 E1 => ?_
    refine k2 σ m1 kk m2 ρ H1 ι1 _ e2 R1 (S.ext E1) fun ι2 H2 V2 R2 r2 E2 => ?_
    have q1 := r1.ext E2
    clear r1
    have S2 := S.ext (E1.trans E2)
    have r3 := r.ext (E1.trans E2)
    split at P <;> first | exact P.elim | skip
    rename_i ad0
    split at P <;> first | exact P.elim | skip
    · rename_i xs hg
      split at P <;> first | exact P.elim | skip
      rename_i j
      split at P <;> first | exact P.elim | skip
      rename_i hj
      rw [Bool.and_eq_true, decide_eq_true_eq] at hj
      have hlt := bl_nat hj.2
      cases q1
      cases r2
      obtain ⟨ys, hy, rs⟩ := R2.lst hg
      refine ⟨rSetL, set_list, ι2 ad0, ys, j, j.toNat, rfl, rfl, hy, ?_, ?_⟩
      · unfold ixN
        rw [if_pos hj.1, if_pos (by rw [← rs.length]; omega)]
      · refine Post.wr (v := .non) (V := .non) (Q := fun _ H' => Q ρ H') (fun ι' H' _ R' _ E' => ?_) R2 hg hy (rs.set j.toNat r3) .non
        exact P ι' H' ρ R' (S2.ext E') ((E1.trans E2).trans E')
    · rename_i kvs hg
      split at P <;> first | exact P.elim | skip
      rename_i key hk
      split at P <;> first | exact P.elim | skip
      rename_i hsm
      cases q1
      obtain ⟨ys, hy, rk⟩ := R2.dk hg
      have ey := key_V hk r2
      subst ey
      refine ⟨rSetD, set_dict (by have := o.room.units; omega), ι2 ad0, _, rfl, DPut.k hy (by rw [← rk.length]; exact small_lt hsm), ?_⟩
      refine Post.wrd (v := .non) (V := .non) (Q := fun _ H' => Q ρ H') (fun ι' H' _ R' _ E' => ?_) R2 hg hy (rk.put r3) .non
      exact P ι' H' ρ R' (S2.ext E') ((E1.trans E2).trans E')
  | .two a b, e, h => by
    obtain ⟨x, y, kk, pos, ee, h0⟩ := chkG_two h; clear h; subst ee; have h := h0; clear h0
    intro σ m v V ρ H ι Q R S r P
    simp only [Bool.and_eq_true] at h
    obtain ⟨⟨⟨h1, h2⟩, h3⟩, h4⟩ := h
    have k1 := tg_ok o s a x h3
    have k2 := tg_ok o s b y h4
    simp only [Tg.ev] at P
    split at P <;> first | exact P.elim | skip
    rename_i v1 v2
    cases r with
    | @tup p _ ys hp rs =>
      cases rs with
      | @cons _ V1 _ _ ra rs =>
        cases rs with
        | @cons _ V2 _ _ rb rs =>
          cases rs
          have he := each_two (env := X.env) h1 h2
          refine wG.of (pg_tup (n := 2) o.calm (pgs_cons (t := wG X x) pg_w (pgs_cons (t := wG X y) pg_w pgs_nil (by
            cases y <;> first | (cases h2; done) | rfl)) (by rw [he]; cases y <;> first | (cases h2; done) | rfl)) (by rw [he]; rfl) (by rw [he]; rfl)) ?_
          refine ⟨p, _, rfl, hp.sq, rfl, V1, [V2], rfl, ?_⟩
          have go : ∀ {r1 : Res}, a.ev (run Pm k) v1 σ m = r1 → PostG X G m ι H (r1.onN fun σ m => b.ev (run Pm k) v2 σ m) Q → PostG X G m ι H r1 fun ρ1 H1 => gCons (wG X y) gNil [V2] ρ1 H1 Q := fun {r1} hr1 P => by
            cases r1 <;> first | exact False.elim P | skip
            · intro ι1 H1 ρ1 R1 S1 E1
              refine ⟨V2, [], rfl, k2 _ _ v2 V2 ρ1 H1 ι1 _ R1 S1 (rb.ext E1) ?_⟩
              have P' : PostG X G _ ι1 H1 (b.ev (run Pm k) v2 _ _) Q := PostG.from P E1
              revert P'
              generalize b.ev (run Pm k) v2 _ _ = r2
              intro P'
              cases r2 <;> first | exact False.elim P' | skip
              exact fun ι' H' ρ' a b c => ⟨rfl, P' ι' H' ρ' a b c⟩
          exact k1 σ m v1 V1 ρ H ι _ R S ra (go rfl P)
end
end Mi

/-! Statements: the check's cases. -/
namespace Mi
open PySem L2 PySem.Spec PyProof.Rows
section
variable {C : Ck} {G : Nat → Addr} {ad : Nat → Addr} {fd : Nat → FuncData} {psf : Nat → List Str} {Pm : List Fn} {k : Nat}
theorem blk_fn {env : Env} (hk : env.scope.kind = .function) : env.blockKind = .function := by
  unfold Env.blockKind
  rw [hk]
  rfl
theorem swaps_true {env : Env} {y : Str} {py q : Pos} {ex : Expr} {gens : List Comprehension} {s2 : Scope} {l : Nat} (hk : env.scope.kind = .function) (hl : env.scope.names.lookup y = some .local) (hp : (py.line == q.line) = true)
    (hn : (s2.names.any fun z => z.1 == y && (z.2 == .local || z.2 == .cell)) = false) : swapsWith (.ListComp ex gens s2 q) (some (.Name y py)) l env = pure true := by
  have h1 : (env.blockKind == .function && env.kindOf y == some .local && py.line == q.line && !(s2.names.any fun (n, k) => n == y && (k == .local || k == .cell))) = true := by
    rw [blk_fn hk]
    unfold Env.kindOf
    rw [hl, hp]
    have : (s2.names.any fun (n, k) => n == y && (k == .local || k == .cell)) = false := hn
    rw [this]
    rfl
  show (pure (env.blockKind == .function && env.kindOf y == some .local && py.line == q.line && !(s2.names.any fun (n, k) => n == y && (k == .local || k == .cell))) : Sem Bool) = pure true
  rw [h1]
theorem swaps_no {e : Expr} {t : Option Expr} {l : Nat} {env : Env} (h : isComp e = false) : swapsWith e t l env = pure false := by
  cases e <;> first | rfl | cases h
theorem swapped_none {tg e : Expr} {env : Env} (h : (!isTup e || !isTup tg) = true) : swappedStores [tg] e env = pure none := by
  cases tg <;> first | rfl | skip
  all_goals cases e <;> first | rfl | cases h
theorem swapped_two {env : Env} {x y : Str} {px py pt pt2 : Pos} {kt k2 : Nat} {a b : Expr} (hk : env.scope.kind = .function) (hx : env.scope.names.lookup x = some .local) (hy : env.scope.names.lookup y = some .local) (hne : (x == y) = false) (hl : (px.line == py.line) = true)
    (ha : plainArg a = true) (hb : plainArg b = true) (h1 : [a, b].all (foldedForSure 8) = false) (h2 : [a, b].all (constantsAlone 8) = false) :
    swappedStores [.Tuple [.Name x px, .Name y py] kt pt] (.Tuple [a, b] k2 pt2) env = pure (some [x, y]) := by
  have e1 : (px.line == px.line) = true := by simp
  have e2 : (py.line == px.line) = true := by rw [beq_iff_eq] at hl ⊢; exact hl.symm
  have st : ∀ {a : Expr}, plainArg a = true → (match a with | .Starred .. => true | _ => false) = false := fun {a} h => by
    cases a <;> first | (cases h; done) | rfl
  have fa := st ha
  have fb := st hb
  simp only [List.all_cons, List.all_nil, Bool.and_true] at h1 h2
  unfold swappedStores
  rw [beq_iff_eq] at e2
  simp only [List.length_cons, List.length_nil, blk_fn hk, List.any_cons, List.any_nil, fa, fb, List.filterMap_cons, List.filterMap_nil, Env.kindOf, hx, hy, e2, List.head?_cons, Option.map_some, Option.getD_some, List.all_cons, List.all_nil, Bool.and_true, h1, h2, Expr.pos, beq_self_eq_true]
  have hne' : (y == x) = false := by
    rw [beq_eq_false_iff_ne] at hne ⊢
    exact fun z => hne z.symm
  simp [List.eraseDups, List.eraseDupsBy, List.eraseDupsBy.loop, hne, hne']
  rintro (h | h)
  · split at h <;> first | (cases ha; done) | cases h
  · split at h <;> first | (cases hb; done) | cases h

def dPass : List Stmt → Bool
  | [] => true
  | [.Pass _] => true
  | _ => false
def dSeq : List Stmt → Option (Stmt × List Stmt)
  | x :: y :: r => some (x, y :: r)
  | _ => none
def dExpr : List Stmt → Option Expr
  | [.Expr x _] => some x
  | _ => none
def dAsg : List Stmt → Option (Expr × Expr)
  | [.Assign [tg] x _] => some (tg, x)
  | _ => none
structure ParD where
  x : Str
  px : Pos
  y : Str
  py : Pos
  a : Expr
  b : Expr
def dPar : List Stmt → Option ParD
  | [.Assign [.Tuple [.Name x px, .Name y py] _ _] (.Tuple [a, b] _ _) _] => some ⟨x, px, y, py, a, b⟩
  | _ => none
def dRet : List Stmt → Option Expr
  | [.Return (some x) _] => some x
  | _ => none
def dIf : List Stmt → Option (Expr × List Stmt × List Stmt)
  | [.If x y z _] => some (x, y, z)
  | _ => none
def dFor : List Stmt → Option (Expr × Expr × List Stmt)
  | [.For te ie body [] _] => some (te, ie, body)
  | _ => none
def dWhile : List Stmt → Option (Expr × List Stmt)
  | [.While x y [] _] => some (x, y)
  | _ => none
theorem dPass_eq {st : List Stmt} (h : dPass st = true) : st = [] ∨ ∃ p, st = [.Pass p] := by
  unfold dPass at h
  split at h
  · exact .inl rfl
  · exact .inr ⟨_, rfl⟩
  · cases h
theorem dSeq_eq {st : List Stmt} {x : Stmt} {r : List Stmt} (h : dSeq st = some (x, r)) : ∃ y r', st = x :: r ∧ r = y :: r' := by
  unfold dSeq at h
  split at h <;> cases h
  exact ⟨_, _, rfl, rfl⟩
theorem dExpr_eq {st : List Stmt} {x : Expr} (h : dExpr st = some x) : ∃ p, st = [.Expr x p] := by
  unfold dExpr at h
  split at h <;> cases h
  exact ⟨_, rfl⟩
theorem dAsg_eq {st : List Stmt} {x y : Expr} (h : dAsg st = some (x, y)) : ∃ p, st = [.Assign [x] y p] := by
  unfold dAsg at h
  split at h <;> cases h
  exact ⟨_, rfl⟩
theorem dPar_eq {st : List Stmt} {d : ParD} (h : dPar st = some d) : ∃ k1 p1 k2 p2 p3, st = [.Assign [.Tuple [.Name d.x d.px, .Name d.y d.py] k1 p1] (.Tuple [d.a, d.b] k2 p2) p3] := by
  unfold dPar at h
  split at h <;> cases h
  exact ⟨_, _, _, _, _, rfl⟩
theorem dRet_eq {st : List Stmt} {x : Expr} (h : dRet st = some x) : ∃ p, st = [.Return (some x) p] := by
  unfold dRet at h
  split at h <;> cases h
  exact ⟨_, rfl⟩
theorem dIf_eq {st : List Stmt} {x : Expr} {y z : List Stmt} (h : dIf st = some (x, y, z)) : ∃ p, st = [.If x y z p] := by
  unfold dIf at h
  split at h <;> cases h
  exact ⟨_, rfl⟩
theorem dFor_eq {st : List Stmt} {x y : Expr} {z : List Stmt} (h : dFor st = some (x, y, z)) : ∃ p, st = [.For x y z [] p] := by
  unfold dFor at h
  split at h <;> cases h
  exact ⟨_, rfl⟩
theorem dWhile_eq {st : List Stmt} {x : Expr} {y : List Stmt} (h : dWhile st = some (x, y)) : ∃ p, st = [.While x y [] p] := by
  unfold dWhile at h
  split at h <;> cases h
  exact ⟨_, rfl⟩
def isLocal (sc : Scope) (x : Str) : Bool := decide (sc.names.lookup x = some .local)
/-- an assignment whose value is a comprehension -/
def lcAsg (sc : Scope) (tg x : Expr) : Bool := match tg, x with
  | .Name y py, .ListComp _ _ s2 q => isLocal sc y && (py.line == q.line) && !(s2.names.any fun z => z.1 == y && (z.2 == .local || z.2 == .cell))
  | _, _ => false
/-- which block a statement term stands for -/
def chkB (C : Ck) (sc : Scope) : S → List Stmt → Bool
  | .stuck, _ => true
  | .pass, st => dPass st
  | .seq a b, st => match dSeq st with
    | some (x, r) => chkB C sc a [x] && chkB C sc b r
    | none => false
  | .expr e, st => match dExpr st with
    | some x => !isComp x && chkE C e sc x
    | none => false
  | .asg t e, st => match dAsg st with
    | some (tg, x) => chkE C e sc x && chkG C sc t tg && (if isComp x then lcAsg sc tg x else !isTup x || !isTup tg)
    | none => false
  | .par i j a b, st => match dPar st with
    | some d => at0 C.N i d.x && at0 C.N j d.y && !(i == j) && !(d.x == d.y) && isLocal sc d.x && isLocal sc d.y && (d.px.line == d.py.line)
      && plainArg d.a && plainArg d.b && !([d.a, d.b].all (foldedForSure 8)) && !([d.a, d.b].all (constantsAlone 8)) && chkE C a sc d.a && chkE C b sc d.b
    | none => false
  | .ret e, st => match dRet st with
    | some x => chkE C e sc x
    | none => false
  | .sif c a b, st => match dIf st with
    | some (x, y, z) => chkE C c sc x && chkB C sc a y && chkB C sc b z
    | none => false
  | .sfor k tg it b, st => match dFor st with
    | some (te, ie, body) => (match synI C sc k ie with
      | some is => chkL C it sc is && chkT C sc k tg te && chkB C sc b body
      | none => false)
    | none => false
  | .swhile _ c b, st => match dWhile st with
    | some (x, y) => chkE C c sc x && chkB C sc b y
    | none => false
def SB (X : Cx) (G : Nat → Addr) (call : Nat → List Val → Mem → Res) (t : S) (st : List Stmt) : Prop :=
  ∀ (σ : Sta) (m : Mem) (ρ : L2.St) (H : Hp) (ι : Nat → Addr) (D : Ends), Rel X.K G m ι H → StaR X.K G m.n ι H σ ρ → PostS X G m ι H (t.ev call σ m) D → wB X st D ρ H
theorem isLocal_eq {X : Cx} {sc : Scope} {x : Str} (s : ScOk sc X) (h : isLocal sc x = true) : X.env.scope.names.lookup x = some .local := by
  unfold isLocal at h
  rw [decide_eq_true_eq] at h
  rcases s.at_ _ _ h with q | ⟨q, _⟩
  · exact q
  · cases q
theorem chkE_plain {sc : Scope} {t : Tg} {e : Expr} (h : chkG C sc t e = true) (env : Env) : (assignEach [e] env).map (·.2) = [assign e env] := by
  cases t with
  | name i =>
    obtain ⟨x, px, ee, _⟩ := chkG_name h
    rw [ee]
    rfl
  | item a i =>
    obtain ⟨x, y, p, ee, _⟩ := chkG_item h
    rw [ee]
    rfl
  | two a b =>
    obtain ⟨x, y, kk, p, ee, _⟩ := chkG_two h
    rw [ee]
    rfl
theorem swapsSole_no {e tg : Expr} {l : Nat} {env : Env} (h : isComp e = false) : swapsWithSole [tg] e l env = pure false := swaps_no h
theorem chkE_comp {sc : Scope} {e : E} {ex : Expr} {gens : List Comprehension} {s2 : Scope} {q : Pos} (h : chkE C e sc (.ListComp ex gens s2 q) = true) : ∃ own kd tg it cond elt, e = .lcomp own kd tg it cond elt := by
  cases e <;> first | exact ⟨_, _, _, _, _, _, rfl⟩ | skip
  all_goals (exfalso; simp [chkE, strip, synP, synM] at h)
end
end Mi

/-! Every block does what its term computes. -/
namespace Mi
open PySem L2 PySem.Spec PyProof.Rows
section
variable {C : Ck} {G : Nat → Addr} {ad : Nat → Addr} {fd : Nat → FuncData} {psf : Nat → List Str} {Pm : List Fn} {k : Nat}
theorem onNP {X : Cx} {m : Mem} {ι : Nat → Addr} {H : Hp} {r : Res} {f : Sta → Mem → Res} {D : Ends} {nx : L2.St → Hp → Prop} (P : PostS X G m ι H (r.onN f) D)
    (h : ∀ σ' m' ι' H' ρ', r = .next σ' m' → Rel X.K G m' ι' H' → StaR X.K G m'.n ι' H' σ' ρ' → Ext X.K m.n ι H m'.n ι' H' → PostS X G m' ι' H' (f σ' m') D → nx ρ' H') {bk ct : L2.St → Hp → Prop} : PostS X G m ι H r { nx := nx, rt := D.rt, bk := bk, ct := ct } := by
  cases r <;> first | exact False.elim P | skip
  · exact fun ι' H' ρ' R' S' E' => h _ _ ι' H' ρ' rfl R' S' E' (PostS.from P E')
  · exact P
theorem execs_one (x : Stmt) (env : Env) : execs [x] env = exec x env := by
  show (exec x env >>= fun f => match f with
    | .next => execs [] env
    | f => pure f) = exec x env
  have : (fun f : Flow => (match f with
    | .next => execs [] env
    | f => pure f : Sem Flow)) = pure := by
    funext f
    cases f <;> rfl
  rw [this]
  exact bind_pure _
theorem onN_ret {r : Res} {f : Sta → Mem → Res} {v : Val} {m : Mem} (h : r.onN f = .ret v m) : r = .ret v m ∨ ∃ σ m1, r = .next σ m1 ∧ f σ m1 = .ret v m := by
  cases r <;> first | (cases h; done) | exact .inr ⟨_, _, rfl, h⟩ | exact .inl h
theorem tg_noret {call : Nat → List Val → Mem → Res} : ∀ {t : Tg} {w : Val} {σ : Sta} {m : Mem} {v : Val} {m' : Mem}, t.ev call w σ m = .ret v m' → False
  | .name i, _, _, _, _, _, h => by simp only [Tg.ev] at h; cases h
  | .item a i, w, σ, m, v, m', h => by
    simp only [Tg.ev] at h
    obtain ⟨x, m1, e1, h⟩ := onVP (P := fun r => r = .ret v m') (fun z => by cases z) h
    obtain ⟨y, m2, e2, h⟩ := onVP (P := fun r => r = .ret v m') (fun z => by cases z) h
    split at h <;> first | (cases h; done) | skip
    split at h <;> first | (cases h; done) | skip
    · split at h <;> first | (cases h; done) | skip
      split at h <;> cases h
    · split at h <;> first | (cases h; done) | skip
      split at h <;> cases h
  | .two a b, w, σ, m, v, m', h => by
    simp only [Tg.ev] at h
    split at h <;> first | (cases h; done) | skip
    rcases onN_ret h with h | ⟨σ', m1, _, h⟩
    · exact tg_noret h
    · exact tg_noret h
theorem st_ok {X : Cx} {sc : Scope} (o : XOk C G ad fd psf Pm k X) (s : ScOk sc X) (hx : X.xe = fun _ _ => False) : ∀ (t : S) (st : List Stmt), chkB C sc t st = true → SB X G (run Pm k) t st
  | .stuck, st, h => fun σ m ρ H ι D R S P => False.elim P
  | .pass, st, h => by
    intro σ m ρ H ι D R S P
    simp only [chkB] at h
    simp only [Mi.S.ev] at P
    have q : D.nx ρ H := P ι H ρ R S Ext.refl
    rcases dPass_eq h with rfl | ⟨p, rfl⟩
    · exact wB.of pss_nil q
    · exact wB.of (pss_one ps_pass) q
  | .seq a b, st, h => by
    simp only [chkB] at h
    split at h <;> first | (cases h; done) | skip
    rename_i x r hd
    obtain ⟨y, r', rfl, rfl⟩ := dSeq_eq hd
    rw [Bool.and_eq_true] at h
    have ha := st_ok o s hx a [x] h.1
    have hb := st_ok o s hx b (y :: r') h.2
    intro σ m ρ H ι D R S P
    simp only [Mi.S.ev] at P
    have hw : wS X x { D with nx := fun ρ' H' => wB X (y :: r') D ρ' H' } ρ H := fun pins s0 I => by
      have w := ha σ m ρ H ι { D with nx := fun ρ' H' => wB X (y :: r') D ρ' H' } R S (onNP (bk := D.bk) (ct := D.ct) P fun σ' m' ι' H' ρ' _ R' S' E' P' => hb σ' m' ρ' H' ι' D R' S' P') pins s0 I
      rw [execs_one] at w
      exact w
    exact wB.of (pss_cons ps_w pss_w) hw
  | .expr e, st, h => by
    simp only [chkB] at h
    split at h <;> first | (cases h; done) | skip
    rename_i x hd
    obtain ⟨p, rfl⟩ := dExpr_eq hd
    rw [Bool.and_eq_true, Bool.not_eq_true'] at h
    have he := ((all e X sc o s).1 _ h.2).se
    intro σ m ρ H ι D R S P
    simp only [Mi.S.ev] at P
    obtain ⟨v, m', e1, P'⟩ := onVP (P := fun r => PostS X G m ι H r D) (fun z => z) P
    exact wB.of (pss_one (ps_expr pe_w (swaps_no h.1))) (he σ m v m' ρ H ι _ e1 R S fun ι' H' V R' r' E' => P' ι' H' ρ R' (S.ext E') E')
  | .asg t e, st, h => by
    simp only [chkB] at h
    split at h <;> first | (cases h; done) | skip
    rename_i tg x hd
    obtain ⟨p, rfl⟩ := dAsg_eq hd
    rw [Bool.and_eq_true, Bool.and_eq_true] at h
    obtain ⟨⟨h1, h2⟩, h3⟩ := h
    have ht := tg_ok o s t tg h2
    intro σ m ρ H ι D R S P
    simp only [Mi.S.ev] at P
    have key : ∀ {ι' : Nat → Addr} {H' : Hp} {V : L2.V} {v : Val} {m' : Mem}, PostS X G m ι H (t.ev (run Pm k) v σ m') D → Rel X.K G m' ι' H' → Rep X.K G m'.n ι' H' v V → Ext X.K m.n ι H m'.n ι' H' → wG X tg V ρ H' D.nx := fun {ι' H' V v m'} P' R' r' E' => by
      refine ht σ m' v V ρ H' ι' D.nx R' (S.ext E') r' ?_
      have P2 := PostS.from P' E'
      revert P2
      generalize hr : t.ev (run Pm k) v σ m' = r2
      intro P2
      cases r2 <;> first | exact P2 | skip
      · exact False.elim (tg_noret hr)
    split at h3
    · rename_i hc
      unfold lcAsg at h3
      split at h3 <;> first | (cases h3; done) | skip
      rename_i y py ex gens s2 q
      simp only [Bool.and_eq_true, Bool.not_eq_true'] at h3
      obtain ⟨⟨g1, g2⟩, g3⟩ := h3
      obtain ⟨own, kd, tg0, it, cond, elt, rfl⟩ := chkE_comp h1
      obtain ⟨ex', te, ie, ifs, scope, pos, is, ow, eq, k1, k2, k3, k4, k5, k6, k7, k8⟩ := chk_lcomp h1
      cases eq
      cases t with
      | item a i =>
        obtain ⟨_, _, _, ee, _⟩ := chkG_item h2
        cases ee
      | two a b =>
        obtain ⟨_, _, _, _, ee, _⟩ := chkG_two h2
        cases ee
      | name i =>
        obtain ⟨x', px, ee, hh⟩ := chkG_name h2
        cases ee
        simp only [Bool.and_eq_true, at0, decide_eq_true_eq] at hh
        obtain ⟨v, m', e1, P'⟩ := onVP (P := fun r => PostS X G m ι H r D) (fun z => z) P
        intro pins s0 I
        have w := lc_parts (all it) (all cond) (all elt) o s k1 k2 k4 k5 k6 k7 k8 (Q := fun x1 H1 => gName i x1 ρ H1 D.nx) e1 R S fun ι' H' V R' r' E' => P' ι' H' _ R' ((S.ext E').set r') E'
        exact wB.of (pss_one (ps_setLc o.calm o.nd (by rw [o.N]; exact hh.1) (isLocal_eq s g1) (swaps_true I.ok.kind (isLocal_eq s g1) g2 g3) pi_w (blk_mono (by rw [o.N]; exact blkOk_by k3) s)
          (fun s0 H0 Ca cl fp => pg_B s0 H0 Ca cl fp) (fun s0 H0 Ca cl fp => pts_B s0 H0 Ca cl fp (cond_len k7)) (fun s0 H0 Ca cl fp => pe_B s0 H0 Ca cl fp) (synI_fold k1 _))) w pins s0 I
    · rename_i hc
      have hc' : isComp x = false := by simpa using hc
      have he := ((all e X sc o s).1 _ h1).se
      obtain ⟨v, m', e1, P'⟩ := onVP (P := fun r => PostS X G m ι H r D) (fun z => z) P
      exact wB.of (pss_one (ps_asg pe_w pg_w (swapsSole_no hc') (swapped_none h3) (chkE_plain h2 _))) (he σ m v m' ρ H ι _ e1 R S fun ι' H' V R' r' E' => key P' R' r' E')
  | .par i j a b, st, h => by
    simp only [chkB] at h
    split at h <;> first | (cases h; done) | skip
    rename_i d hd
    obtain ⟨k1, p1, k2, p2, p3, rfl⟩ := dPar_eq hd
    simp only [Bool.and_eq_true, Bool.not_eq_true', at0, decide_eq_true_eq] at h
    obtain ⟨⟨⟨⟨⟨⟨⟨⟨⟨⟨⟨⟨h1, h2⟩, h3⟩, h4⟩, h5⟩, h6⟩, h7⟩, h8⟩, h9⟩, h10⟩, h11⟩, h12⟩, h13⟩ := h
    have ka := ((all a X sc o s).1 _ h12).se
    have kb := ((all b X sc o s).1 _ h13).se
    have hij : i ≠ j := by
      intro z
      rw [z] at h3
      simp at h3
    intro σ m ρ H ι D R S P
    simp only [Mi.S.ev] at P
    obtain ⟨v, m1, e1, P1⟩ := onVP (P := fun r => PostS X G m ι H r D) (fun z => z) P
    obtain ⟨w, m2, e2, P2⟩ := onVP (P := fun r => PostS X G m ι H r D) (fun z => z) P1
    intro pins s0 I
    have hw : tPar i j (wA X [d.a, d.b]) D ρ H := by
      have := wEs.as (X := X) (es := [d.a, d.b]) (ρ := ρ) (H := H) (Q := fun vs H1 => ∃ v w, vs = [v, w] ∧ D.nx ((ρ.set i (some v)).set j (some w)) H1) (by simp [h8, h9]) (ka σ m v m1 ρ H ι _ e1 R S fun ι1 H1 V1 R1 r1 E1 => kb σ m1 w m2 ρ H1 ι1 _ e2 R1 (S.ext E1) fun ι2 H2 V2 R2 r2 E2 =>
        ⟨V1, V2, rfl, P2 ι2 H2 _ R2 (((S.ext (E1.trans E2)).set (r1.ext E2)).set r2) (E1.trans E2)⟩)
      exact this
    exact wB.of (pss_one (ps_par o.calm o.nd (by rw [o.N]; exact h1) (by rw [o.N]; exact h2) hij (isLocal_eq s h5) (isLocal_eq s h6) pa_w (swapped_two I.ok.kind (isLocal_eq s h5) (isLocal_eq s h6) h4 h7 h8 h9 h10 h11))) hw pins s0 I
  | .ret e, st, h => by
    simp only [chkB] at h
    split at h <;> first | (cases h; done) | skip
    rename_i x hd
    obtain ⟨p, rfl⟩ := dRet_eq hd
    have he := ((all e X sc o s).1 _ h).se
    intro σ m ρ H ι D R S P
    simp only [Mi.S.ev] at P
    obtain ⟨v, m', e1, P'⟩ := onVP (P := fun r => PostS X G m ι H r D) (fun z => z) P
    exact wB.of (pss_one (ps_ret pe_w)) (he σ m v m' ρ H ι _ e1 R S fun ι' H' V R' r' E' => P' ι' H' V R' r' E')
  | .sif c a b, st, h => by
    simp only [chkB] at h
    split at h <;> first | (cases h; done) | skip
    rename_i x y z hd
    obtain ⟨p, rfl⟩ := dIf_eq hd
    rw [Bool.and_eq_true, Bool.and_eq_true] at h
    have hc := ((all c X sc o s).1 _ h.1.1).st
    have ha := st_ok o s hx a y h.1.2
    have hb := st_ok o s hx b z h.2
    intro σ m ρ H ι D R S P
    simp only [Mi.S.ev] at P
    obtain ⟨v, m', e1, P'⟩ := onVP (P := fun r => PostS X G m ι H r D) (fun z => z) P
    refine wB.of (pss_one (ps_if pt_w pss_w pss_w)) ?_
    split at P' <;> first | exact False.elim P' | skip
    · rename_i ht
      exact hc σ m v m' true ρ H ι _ e1 ht R S fun ι' H' R' E' => ha σ m' ρ H' ι' D R' (S.ext E') (PostS.from P' E')
    · rename_i ht
      exact hc σ m v m' false ρ H ι _ e1 ht R S fun ι' H' R' E' => hb σ m' ρ H' ι' D R' (S.ext E') (PostS.from P' E')
  | .sfor kd tg it b, st, h => by
    simp only [chkB] at h
    split at h <;> first | (cases h; done) | skip
    rename_i te ie body hd
    obtain ⟨p, rfl⟩ := dFor_eq hd
    split at h <;> first | (cases h; done) | skip
    rename_i is hi
    rw [Bool.and_eq_true, Bool.and_eq_true] at h
    have hL := (all it X sc o s).2 is h.1.1
    have hb := st_ok o s hx b body h.2
    intro σ m ρ H ι D R S P
    simp only [Mi.S.ev] at P
    obtain ⟨vs, m2, e1, P1⟩ := onLP (P := fun r => PostS X G m ι H r D) (fun z => z) P
    clear P
    split at P1 <;> first | exact False.elim P1 | skip
    rename_i src hsrc
    refine wB.of (pss_one (ps_for (hx ▸ PassesOwn.never) o.calm pi_w pg_w pss_w (synI_fold hi _))) ?_
    refine src_I o s hi hsrc (synI_pair (kd' := kd) (sc := sc) h.1.2) (hL σ m vs m2 ρ H ι _ e1 R S fun ι2 H2 Vs R2 r2 E2 => ⟨ι2, R2, r2, fun J hJ => ?_⟩)
    have pr := src_pair hsrc
    generalize hF : (fun (v : Val) (σ : Sta) (m : Mem) => match tg.set σ v with
      | some σ => b.ev (run Pm k) σ m
      | none => .bad) = F at P1
    refine ⟨fun i f ρ3 H3 => ∃ (σ3 : Sta) (mm : Mem) (ι3 : Nat → Addr), Rel X.K G mm ι3 H3 ∧ StaR X.K G mm.n ι3 H3 σ3 ρ3 ∧ Ext X.K m2.n ι2 H2 mm.n ι3 H3 ∧ PostS X G mm ι3 H3 (turns F src f i σ3 mm) D, ⟨_, σ, m2, ι2, R2, S.ext E2, Ext.refl, PostS.from P1 E2⟩, fun i f ρ3 H3 ⟨σ3, mm, ι3, R3, S3, E3, P3⟩ => ?_⟩
    cases f with
    | zero => exact False.elim P3
    | succ f =>
      simp only [turns] at P3
      have hJ3 := hJ.ext E3
      split at P3 <;> first | exact False.elim P3 | skip
      · rename_i w hn
        refine .inr ⟨(src_go R3 hJ3 hn).1, fun ρ' H' => ∃ (σ' : Sta) (mm' : Mem) (ι' : Nat → Addr), Rel X.K G mm' ι' H' ∧ StaR X.K G mm'.n ι' H' σ' ρ' ∧ Ext X.K m2.n ι2 H2 mm'.n ι' H' ∧ PostS X G mm' ι' H' (turns F src f (i + 1) σ' mm') D, fun ρ' H' q => ⟨f, Nat.lt_succ_self _, q⟩, fun x H' hy => ?_⟩
        have hY := (src_go R3 hJ3 hn).2 x H' hy
        rw [pr] at hY
        rw [← hF] at P3
        simp only at P3
        split at P3 <;> first | exact False.elim P3 | skip
        rename_i σ2 hset
        refine tgt_ok o s h.1.2 hY hset S3 fun ρ2 H4 S4 E4 _ hH => ?_
        have R4 : Rel X.K G mm ι3 H4 := by
          rcases hH with rfl | ⟨p, z, hp, rfl⟩
          · exact R3
          · exact R3.fresh hp
        rw [hF] at P3
        refine hb σ2 mm ρ2 H4 ι3 _ R4 S4 (onNP (PostS.from P3 E4) fun σ' m' ι' H' ρ' _ R' S' E' P' => ⟨σ', m', ι', R', S', (E3.trans E4).trans E', P'⟩)
      · rename_i hn
        exact .inl ⟨src_stop R3 hJ3 hn, P3 ι3 H3 ρ3 R3 S3 Ext.refl⟩
  | .swhile fuel c b, st, h => by
    simp only [chkB] at h
    split at h <;> first | (cases h; done) | skip
    rename_i x y hd
    obtain ⟨p, rfl⟩ := dWhile_eq hd
    rw [Bool.and_eq_true] at h
    have hc := ((all c X sc o s).1 _ h.1).st
    have hb := st_ok o s hx b y h.2
    intro σ m ρ H ι D R S P
    simp only [Mi.S.ev] at P
    refine wB.of (pss_one (ps_while (hx ▸ PassesOwn.never) pt_w pss_w)) ?_
    refine ⟨fun f ρ3 H3 => ∃ (σ3 : Sta) (mm : Mem) (ι3 : Nat → Addr), Rel X.K G mm ι3 H3 ∧ StaR X.K G mm.n ι3 H3 σ3 ρ3 ∧ PostS X G mm ι3 H3 (wturns (c.ev (run Pm k)) (b.ev (run Pm k)) f σ3 mm) D, ⟨fuel, σ, m, ι, R, S, P⟩, fun f ρ3 H3 ⟨σ3, mm, ι3, R3, S3, P3⟩ => ?_⟩
    cases f with
    | zero => exact False.elim P3
    | succ f =>
      simp only [wturns] at P3
      obtain ⟨v, m1, e1, P1⟩ := onVP (P := fun r => PostS X G mm ι3 H3 r D) (fun z => z) P3
      split at P1 <;> first | exact False.elim P1 | skip
      · rename_i ht
        refine hc σ3 mm v m1 true ρ3 H3 ι3 _ e1 ht R3 S3 fun ι4 H4 R4 E4 => ?_
        rw [if_pos rfl]
        refine ⟨fun ρ' H' => ∃ (σ' : Sta) (mm' : Mem) (ι' : Nat → Addr), Rel X.K G mm' ι' H' ∧ StaR X.K G mm'.n ι' H' σ' ρ' ∧ PostS X G mm' ι' H' (wturns (c.ev (run Pm k)) (b.ev (run Pm k)) f σ' mm') D, fun ρ' H' q => ⟨f, Nat.lt_succ_self _, q⟩, ?_⟩
        exact hb σ3 m1 ρ3 H4 ι4 _ R4 (S3.ext E4) (onNP (PostS.from P1 E4) fun σ' m' ι' H' ρ' _ R' S' E' P' => ⟨σ', m', ι', R', S', P'⟩)
      · rename_i ht
        refine hc σ3 mm v m1 false ρ3 H3 ι3 _ e1 ht R3 S3 fun ι4 H4 R4 E4 => ?_
        rw [if_neg (by simp)]
        exact P1 ι4 H4 ρ3 R4 (S3.ext E4) E4
end
end Mi

/-! All defs at once; the law's end. -/
namespace Mi
open PySem L2 PySem.Spec PyProof.Rows

/-- what is shared by the texts of all defs -/
structure CkOk (K : PySem.W.Frag) (mg : Str → Option Value) (G : Nat → Addr) (ad : Nat → Addr) (fd : Nat → FuncData) (psf : Nat → List Str) (many : Nat) (C : Ck) : Prop where
  bs : ∀ x ∈ C.bs, mg x = none
  nm : ∀ f x, C.nm[f]? = some x → f < many ∧ mg x = some (.ref (ad f)) ∧ PySem.W.keepIn K (.ref (ad f)) = true
  sg : ∀ s ∈ C.sg, BindEv K (fd s.1) (psf s.1) s.2.2.1 s.2.1 s.2.2.2
  gs : ∀ g ∈ C.gs, ∃ u V, mg g.1 = some u ∧ RelV V u ∧ ∀ n ι H, Rep K G n ι H g.2 V
/-- a def, its text and its term -/
structure FnFact (K : PySem.W.Frag) (ad : Nat → Addr) (fd : Nat → FuncData) (psf : Nat → List Str) (C : Ck) (f : Nat) (F : Fn) : Prop where
  out : ∃ (name qual : Str) (params : Arguments) (body : List Stmt) (scope : Scope) (dV kV doc pm cdv ct oc : Value) (an od : Option Addr) (osl : Array (Option Value)) (N : List Str),
    fd f = PySem.W.fnOf name qual params body scope dV kV doc pm an cdv ct ∧ K.lookup (ad f) = some ⟨oc, od, .func (fd f), osl⟩ ∧ PySem.W.codeIn K cdv qual = true ∧ FnScope N (psf f) scope ∧
    F.np = (psf f).length ∧ F.np + F.nl = N.length ∧ chkB { C with N := N } scope F.body body = true

section
variable {P : Program} {w : World} {K : PySem.W.Frag} {mg : Str → Option Value} {base : Heap} {G : Nat → Addr} {ad : Nat → Addr} {fd : Nat → FuncData} {psf : Nat → List Str} {Pm : List Fn} {C : Ck}
theorem start_rep {H : Hp} {n : Nat} {ι : Nat → Addr} {N : List Str} : ∀ {args : List Val} {vs : List V} {nl : Nat}, Reps K G n ι H args vs → args.length + nl = N.length → StaR K G n ι H (startS args nl) (L2.start N vs) := fun {args vs nl} r hl => by
  have l1 : vs.length = args.length := r.length.symm
  refine ⟨?_, fun i v h => ?_⟩
  · unfold startS L2.start
    rw [List.length_append, List.length_append, List.length_map, List.length_map, List.length_replicate, List.length_replicate]
    omega
  · unfold startS at h
    have get : ∀ {l : Sta} {i : Nat} {v : Val}, getS l i = some v → l[i]? = some (some v) := fun {l} => by
      induction l with
      | nil => intro i v h; cases h
      | cons x l ih =>
        intro i v h
        cases i with
        | zero =>
          have h' : x = some v := h
          rw [h']
          rfl
        | succ i => exact ih (show getS l i = some v from h)
    have h := get h
    by_cases hi : i < args.length
    · rw [List.getElem?_append_left (by rw [List.length_map]; exact hi), List.getElem?_map] at h
      cases ha : args[i]? with
      | none => rw [ha] at h; cases h
      | some z =>
        rw [ha] at h
        have hz : z = v := by cases h; rfl
        subst hz
        obtain ⟨V, hV, rV⟩ := r.get ha
        refine ⟨V, ?_, rV⟩
        unfold L2.start
        rw [List.getElem?_append_left (by rw [List.length_map]; omega), List.getElem?_map, hV]
        rfl
    · rw [List.getElem?_append_right (by rw [List.length_map]; omega), List.getElem?_replicate] at h
      split at h <;> cases h
theorem knot (facts : ∀ f F, Pm[f]? = some F → FnFact K ad fd psf C f F) (ck : CkOk K mg G ad fd psf Pm.length C) : ∀ k f, f < Pm.length → FnG P w K mg base k (ad f) (fd f) (psf f) (spEv K G Pm k f) := by
  intro k
  induction k with
  | zero =>
    intro f hf
    exact ⟨fun vs H Q ⟨m, ι, args, v, m', _, _, e, _⟩ => (by cases e), fun A outer s H args us vs Q _ _ _ _ _ ⟨m, ι, as, v, m', _, _, e, _⟩ => (by cases e)⟩
  | succ k ih =>
    intro f hf
    have hF := List.getElem?_eq_getElem hf
    generalize Pm[f] = F at hF
    obtain ⟨name, qual, params, body, scope, dV, kV, doc, pm, cdv, ct, oc, an, od, osl, N, efd, lk, hcd, S, hnp, hnl, chk⟩ := (facts f F hF).out
    have hlen : ∀ {m : Mem} {args : List Val} {v : Val} {m' : Mem}, run Pm (k + 1) f args m = .val v m' → args.length = F.np ∧ ∃ r, F.body.ev (run Pm k) (startS args F.nl) m = r ∧ (match r with
        | .ret v m' => close m.n v m'
        | .next _ m' => close m.n .non m'
        | _ => .bad) = .val v m' := fun {m args v m'} e => by
      simp only [run, hF] at e
      split at e
      · rename_i h
        exact ⟨Nat.eq_of_beq_eq_true h, _, rfl, e⟩
      · cases e
    rw [efd] at lk ⊢
    refine fnG_of lk hcd S (fun vs H Q ⟨m, ι, args, v, m', _, rs, e, _⟩ => by rw [← rs.length, (hlen e).1, hnp]) fun A outer s H vs Q hr hg ⟨m, ι, args, v, m', R, rs, e, post⟩ => ?_
    obtain ⟨hl, r, er, e⟩ := hlen e
    have o : XOk { C with N := N } G ad fd psf Pm k (cxG P w K mg base N qual scope (ad f) cdv A outer s H) :=
      ⟨rfl, S.nd, hr, hg, rfl, ck.bs, fun g x h => let ⟨q0, q1, q2⟩ := ck.nm g x h; ⟨q1, q2, ih g q0⟩, ck.sg, ck.gs⟩
    have sc : ScOk scope (cxG P w K mg base N qual scope (ad f) cdv A outer s H) := ⟨fun x kd h => .inl h, fun x _ => rfl⟩
    refine st_ok o sc rfl F.body body chk (startS args F.nl) m (L2.start N vs) H ι _ R (start_rep rs (by omega)) ?_
    rw [er]
    have fin : ∀ {u : Val} {mm : Mem} {ι' : Nat → Addr} {H' : Hp} {V : V}, close m.n u mm = .val v m' → Rel K G mm ι' H' → Rep K G mm.n ι' H' u V → Ext K m.n ι H mm.n ι' H' → Q V H' := fun {u mm ι' H' V} hc R' r' E' => by
      unfold close at hc
      split at hc <;> cases hc
      · exact post ι' H' V R'.close r' E'
      · exact post ι' H' V R' r' E'
    cases r <;> first | (cases e; done) | skip
    · exact fun ι' H' ρ' R' S' E' => fin e R' .non E'
    · exact fun ι' H' V R' r' E' => fin e R' r' E'
end

/-! ### the law's call -/
/-- the script's memory -/
def mem0 (ns : List Int) : Mem := ⟨1, [(0, .rol (ns.map Val.int))]⟩
theorem reps_ints {K : PySem.W.Frag} {G : Nat → Addr} {n : Nat} {ι : Nat → Addr} {H : Hp} : ∀ ns : List Int, Reps K G n ι H (ns.map Val.int) (ns.map V.int)
  | [] => .nil
  | x :: r => .cons (.int x) (reps_ints r)
theorem rel0 {K : PySem.W.Frag} {G : Nat → Addr} {H : Hp} {a : Addr} {ns : List Int} (hO : Only H) (h : SqL K H a (ns.map V.int)) : Rel K G (mem0 ns) (fun _ => a) H := by
  have ro : RoL K H a (ns.map V.int) := by
    rcases h with (h | ⟨o, h⟩) | h
    · rcases hO a with z | ⟨ob, xs, z⟩
      · rw [z] at h; cases h
      · rw [z] at h; cases h
    · exact .inl ⟨o, h⟩
    · exact .inr h
  refine ⟨fun i o e => ?_, fun i j o u e f mo mu _ => ?_⟩
  · have e' : hget [(0, HObj.rol (ns.map Val.int))] i = some o := e
    simp only [hget] at e'
    split at e' <;> cases e'
    rename_i hi
    refine ⟨?_, _, ro, reps_ints ns⟩
    have := Nat.eq_of_beq_eq_true hi
    show i < 1
    omega
  · have e' : hget [(0, HObj.rol (ns.map Val.int))] i = some o := e
    simp only [hget] at e'
    split at e' <;> cases e'
    cases mo
/-- a heap in which the script alone may be tracked -/
theorem script_heap {P : Program} {w : World} {K : PySem.W.Frag} {a : Addr} {h : Heap} {vs : List Value} {ns : List Int} (KX : K.In h) (ha : h.get? a = some { cls := .type "list", data := .seq vs.toArray }) (rv : Vals (ns.map V.int) vs) (hl : ns.length ≤ sizeLine) :
    ∃ H : Hp, Only H ∧ SqL K H a (ns.map V.int) ∧ HOk P w H h ∧ ∀ b, H b = none ∨ (b = a ∧ K.lookup a = none ∧ H b = some (.frz { cls := .type "list", data := .seq vs.toArray } (.lst (ns.map V.int)))) := by
  have hz : vs.length = ns.length := by
    rw [← rv.length, List.length_map]
  by_cases hk : K.lookup a = none
  · let H : Hp := fun b => if b = a then some (.frz { cls := .type "list", data := .seq vs.toArray } (.lst (ns.map V.int))) else none
    have at_a : ∀ b, H b = none ∨ (b = a ∧ K.lookup a = none ∧ H b = some (.frz { cls := .type "list", data := .seq vs.toArray } (.lst (ns.map V.int)))) := fun b => by
      by_cases e : b = a
      · exact .inr ⟨e, hk, if_pos e⟩
      · exact .inl (if_neg e)
    refine ⟨H, fun b => ?_, .inl (.inr ⟨_, if_pos rfl⟩), fun b u z => ?_, at_a⟩
    · rcases at_a b with q | ⟨_, _, q⟩
      · exact .inl q
      · exact .inr ⟨_, _, q⟩
    · rcases at_a b with q | ⟨e, _, q⟩
      · rw [q] at z; cases z
      · rw [q] at z
        subst e
        cases z
        exact ⟨ha, by rw [List.length_map]; exact hl, vs, _, rv, ha⟩
  · obtain ⟨o, ho⟩ := Option.ne_none_iff_exists'.mp hk
    have e := (KX a o ho).symm.trans ha
    cases e
    exact ⟨fun _ => none, fun _ => .inl rfl, .inr ⟨_, _, _, ho, rfl, rfl, rfl, by rw [List.size_toArray, hz]; exact hl, by simpa using rv⟩, (fun b u z => (by cases (show (none : Option HO) = some u from z))), fun _ => .inl rfl⟩
theorem law_end {P : Program} {w : World} {K : PySem.W.Frag} {mg mb : Str → Option Value} {k : Nat} {fa a : Addr} {fd : FuncData} {x : Str} {sp : SpG} {s₁ : Shared} {vs : List Value} {ns : List Int}
    (KX : K.In s₁.heap) (g1 : s₁.heap.Ns mainGlobals mg) (g2 : s₁.heap.Ns builtinsNs mb) (g3 : ∀ x : Str, x ≠ "__name__" → mb x = bootBuiltins x) (g4 : s₁.heap.NoLimit) (g5 : s₁.gens = #[])
    (ha : s₁.heap.get? a = some { cls := .type "list", data := .seq vs.toArray }) (hi : IntsAre vs ns) (hl : ns.length ≤ sizeLine) (hr : Room k callerA)
    (F : ∀ base : Heap, K.In base → base.Ns mainGlobals mg → FnG P w K mg base k fa fd [x] sp) (hbind : ∀ (s : Shared) (u : Value), BindsTo s fd ⟨[u], []⟩ [(x, u)])
    (hsp : ∀ H : Hp, Only H → SqL K H a (ns.map V.int) → sp [.ref a] H fun v _ => v = .bl true) :
    codeAny (model P w) callerA (.call (.ref fa) ⟨[.ref a], []⟩) (fun r s' => r = .ok (.ret (.bool true)) ∧ OldK s₁.heap s'.heap ∧ s'.os = s₁.os ∧ AllBare s'.gens) s₁ := by
  obtain ⟨H, hO, hS, hok, hA⟩ := script_heap (P := P) (w := w) KX ha (vals_ints hi) hl
  have seen : ∀ {b : Addr} {o : Obj}, s₁.heap.get? b = some o → (b = a → K.lookup a = none → False) → (hidT s₁.heap H).get? b = some o := fun {b o} e n => hidT_get e (by
    rcases hA b with q | ⟨q1, q2, _⟩
    · exact q
    · exact (n q1 q2).elim)
  have space : ∀ {b : Addr} {m : Str → Option Value}, s₁.heap.Ns b m → (hidT s₁.heap H).Ns b m := fun {b m} ⟨o, es, ep, e, d, r⟩ => ⟨o, es, ep, seen e (fun q _ => by
    subst q
    have eo := e.symm.trans ha
    cases eo
    exact (nomatch (show Data.seq vs.toArray _ = Data.dict es ep from d))), d, r⟩
  have kin : K.In (hidT s₁.heap H) := fun b o e => seen (KX b o e) fun q z => by
    subst q
    rw [z] at e
    cases e
  have hM : Mod K mg (hidT s₁.heap H) := ⟨kin, space g1, ⟨mb, space g2, g3⟩, by
    obtain ⟨mc, z1, z2⟩ := g4
    exact ⟨mc, space z1, z2⟩⟩
  have env : Env0 P w K mg (hidT s₁.heap H) callerA [] s₁ H :=
    { frames := rfl, mod := hM, bs := fun b o e => of_hidT e, bsz := Nat.le_of_eq (hidT_size _ _), funs := trivial, frf := fun b z => absurd (show b ∈ ([] : List Addr) from z) (by simp), hok := hok, bare := .of_eq g5 }
  have c := (F _ kin (space g1)).run callerA [] s₁ H ⟨[.ref a], []⟩ [.ref a] [.ref a] _ hr rfl env (hbind s₁ (.ref a)) (.cons rfl .nil) (hsp H hO hS)
  refine codeAny_mono c fun r s' h => ?_
  obtain ⟨u, rfl, v, H', os, bare, un, hok', rv, q⟩ := h
  cases (show v = .bl true from q)
  cases (show u = Value.bool true from rv)
  refine ⟨rfl, OldK.of_keep fun b o e => ?_, os, bare⟩
  rcases hA b with z | ⟨_, _, z⟩
  · exact un.keep b o e z (fun y => absurd (show b ∈ ([] : List Addr) from y) (by simp)) (by simp)
  · have w1 := (hok b _ z).1
    have w2 := (hok' b _ (un.frzs b _ _ z)).1
    rw [← e, w1] at *
    exact w2
theorem walk_end {l : PySem.W.OpenLaw} {n k : Nat} {q : Program} {loose : List Str} {XP : (Str → Option Value) → Heap → Prop} {YP : World → Heap → Prop} {d : DefRec} {K : Params → PySem.W.Frag} {sp : World → (Str → Option Value) → SpG} {x : Str}
    (h1 : l.most = some n) (h2 : n ≤ sizeLine) (h3 : d.params.defaults = []) (hr : Room k callerA) (hY : ∀ (w : World) (h : Heap), YP w h → (K w.params).In h)
    (F : ∀ (w : World) (mg : Str → Option Value) (fa : Addr) (h : Heap), (K w.params).In h → h.Ns mainGlobals mg → mg d.name = some (.ref fa) →
      ∃ fd : FuncData, (∀ (s : Shared) (u : Value), BindsTo s fd ⟨[u], []⟩ [(x, u)]) ∧ ∀ base : Heap, (K w.params).In base → base.Ns mainGlobals mg → FnG l.prog w (K w.params) mg base k fa fd [x] (sp w mg))
    (hsp : ∀ (w : World) (mg : Str → Option Value) (H : Hp) (a : Addr) (ns : List Int), ns.length ≤ n → Only H → SqL (K w.params) H a (ns.map V.int) → sp w mg [.ref a] H fun v _ => v = .bl true) :
    PySem.W.WalkO q loose XP YP l.row.toRowW d [] (fun f vs => PySem.call f vs) := by
  refine Att.attach_call h1 h3 fun w s₀ s₁ mg mb fa o pm cd doc a vs ns gr Y _ _ _ em eo ei el eg => ?_
  obtain ⟨fd, hb, hF⟩ := F w mg fa _ (hY w _ Y) gr.T.g em
  exact law_end (hY w _ Y) gr.T.g gr.T.b gr.T.builtins gr.T.nolimit eg eo ei (Nat.le_trans el h2) hr hF hb fun H hO hS => hsp w mg H a ns el hO hS
/-- the law's promise from its run -/
theorem law_sp {K : PySem.W.Frag} {G : Nat → Addr} {Pm : List Fn} {k f : Nat} {H : Hp} {a : Addr} {ns : List Int} (hO : Only H) (h : SqL K H a (ns.map V.int)) {m' : Mem} (hrun : run Pm k f [.ref 0] (mem0 ns) = .val (.bl true) m') :
    spEv K G Pm k f [.ref a] H fun v _ => v = .bl true := by
  refine ⟨mem0 ns, fun _ => a, [.ref 0], .bl true, m', rel0 hO h, .cons (.ref 0 (Nat.lt_succ_self 0)) .nil, hrun, fun ι' H' V _ r _ => ?_⟩
  cases r
  rfl
end Mi

/-! What the top has written, as the table of defs wants it. -/
namespace Mi
open PySem L2 PySem.Spec PyProof.Rows
structure DefIn (K : PySem.W.Frag) (x : Str) (st : Stmt) (f : Addr) (fv : FuncData) : Prop where
  ns : PySem.W.nsIn K mainGlobals x = some (some (.ref f))
  out : ∃ (oc kV dc pm cd ct : Value) (od an : Option Addr) (sl : Array (Option Value)), fv = PySem.W.fnOf x x (defArgs st) (defBody st) (defScope st) .none kV dc pm an cd ct ∧ K.lookup f = some ⟨oc, od, .func fv, sl⟩ ∧ PySem.W.codeIn K cd x = true
  kp : PySem.W.keepIn K (.ref f) = true
section
variable {K : PySem.W.Frag} {x : Str} {st : Stmt} {f : Addr} {fv : FuncData}
theorem def_in {oc kV dc pm cd ct : Value} {od an : Option Addr} {sl : Array (Option Value)} (a : PySem.W.nsIn K mainGlobals x = some (some (.ref f))) (l : K.lookup f = some ⟨oc, od, .func (PySem.W.fnOf x x (defArgs st) (defBody st) (defScope st) .none kV dc pm an cd ct), sl⟩)
    (c : PySem.W.codeIn K cd x = true) (k : PySem.W.keepIn K (.ref f) = true) : DefIn K x st f (PySem.W.fnOf x x (defArgs st) (defBody st) (defScope st) .none kV dc pm an cd ct) := ⟨a, ⟨oc, kV, dc, pm, cd, ct, od, an, sl, rfl, l, c⟩, k⟩
theorem DefIn.fact {ad : Nat → Addr} {fd : Nat → FuncData} {psf : Nat → List Str} {C : Ck} {i : Nat} {F : Fn} {N ps : List Str} (D : DefIn K x st f fv) (ha : ad i = f) (hf : fd i = fv) (hp : psf i = ps) (S : FnScope N ps (defScope st)) (h1 : F.np = ps.length) (h2 : F.np + F.nl = N.length)
    (hc : chkB { C with N := N } (defScope st) F.body (defBody st) = true) : FnFact K ad fd psf C i F := by
  obtain ⟨oc, kV, dc, pm, cd, ct, od, an, sl, e, l, c⟩ := D.out
  refine ⟨⟨x, x, defArgs st, defBody st, defScope st, .none, kV, dc, pm, cd, ct, oc, an, od, sl, N, hf.trans e, ?_, c, ?_, ?_, h2, hc⟩⟩
  · rw [ha, hf]
    exact l
  · rw [hp]
    exact S
  · rw [hp]
    exact h1
theorem DefIn.bind {ps ks : List Str} {np : Nat} {perm : List Nat} (D : DefIn K x st f fv)
    (h : ∀ (kV dc pm cd ct : Value) (an : Option Addr) (us ws us' : List Value), us.length = np → ws.length = ks.length → permL (us ++ ws) perm = some us' → bindArgs (PySem.W.fnOf x x (defArgs st) (defBody st) (defScope st) .none kV dc pm an cd ct) ⟨us, ks.zip ws⟩ = pure (ps.zip us')) : BindEv K fv ps ks np perm := fun s us ws us' _ h1 h2 h3 => by
  obtain ⟨oc, kV, dc, pm, cd, ct, od, an, sl, e, l, c⟩ := D.out
  rw [e]
  exact .of_eq (h kV dc pm cd ct an us ws us' h1 h2 h3)
theorem DefIn.mg {mg : Str → Option Value} {h : Heap} (D : DefIn K x st f fv) (X : K.In h) (g : h.Ns mainGlobals mg) : mg x = some (.ref f) := PySem.W.mg_of X g D.ns
end
theorem fm0 {α : Type} {p : α → Prop} : ∀ x ∈ ([] : List α), p x := fun _ h => by cases h
theorem fm {α : Type} {p : α → Prop} {a : α} {l : List α} (h : p a) (t : ∀ x ∈ l, p x) : ∀ x ∈ a :: l, p x := fun x hx => by
  rcases List.mem_cons.mp hx with e | e
  · rw [e]; exact h
  · exact t x e
end Mi

/-! Laws about runs: what is wanted of a value, of values, of a block. -/
namespace Mi
def V (r : Res) (Q : Val → Mem → Prop) : Prop := match r with
  | .val v m => Q v m
  | _ => False
def L (r : Res) (Q : List Val → Mem → Prop) : Prop := match r with
  | .vals v m => Q v m
  | _ => False
def W (r : Res) (Q : Sta → Mem → Prop) (R : Val → Mem → Prop) : Prop := match r with
  | .next σ m => Q σ m
  | .ret v m => R v m
  | _ => False
theorem V_val {v : Val} {m : Mem} {Q} : V (.val v m) Q = Q v m := rfl
theorem L_vals {v : List Val} {m : Mem} {Q} : L (.vals v m) Q = Q v m := rfl
theorem W_next {σ : Sta} {m : Mem} {Q R} : W (.next σ m) Q R = Q σ m := rfl
theorem W_ret {v : Val} {m : Mem} {Q R} : W (.ret v m) Q R = R v m := rfl
theorem V_onV {r : Res} {f : Val → Mem → Res} {Q} : V (r.onV f) Q = V r fun v m => V (f v m) Q := by cases r <;> rfl
theorem V_onL {r : Res} {f : List Val → Mem → Res} {Q} : V (r.onL f) Q = L r fun v m => V (f v m) Q := by cases r <;> rfl
theorem L_onV {r : Res} {f : Val → Mem → Res} {Q} : L (r.onV f) Q = V r fun v m => L (f v m) Q := by cases r <;> rfl
theorem L_onL {r : Res} {f : List Val → Mem → Res} {Q} : L (r.onL f) Q = L r fun v m => L (f v m) Q := by cases r <;> rfl
theorem W_onV {r : Res} {f : Val → Mem → Res} {Q R} : W (r.onV f) Q R = V r fun v m => W (f v m) Q R := by cases r <;> rfl
theorem W_onL {r : Res} {f : List Val → Mem → Res} {Q R} : W (r.onL f) Q R = L r fun v m => W (f v m) Q R := by cases r <;> rfl
theorem W_onN {r : Res} {f : Sta → Mem → Res} {Q R} : W (r.onN f) Q R = W r (fun σ m => W (f σ m) Q R) R := by cases r <;> rfl
theorem V_some {v : Val} {m : Mem} {Q} : V (ofRV (some (v, m))) Q = Q v m := rfl
theorem V.mono {r : Res} {Q Q' : Val → Mem → Prop} (h : V r Q) (f : ∀ v m, Q v m → Q' v m) : V r Q' := by
  cases r <;> first | exact f _ _ h | exact h.elim
theorem W.mono {r : Res} {Q Q' : Sta → Mem → Prop} {R R' : Val → Mem → Prop} (h : W r Q R) (f : ∀ v m, Q v m → Q' v m) (g : ∀ v m, R v m → R' v m) : W r Q' R' := by
  cases r <;> first | exact f _ _ h | exact g _ _ h | exact h.elim
/-- a def's run, by its body -/
theorem V_run {P : List Fn} {k f : Nat} {F : Fn} {vs : List Val} {m : Mem} {Q : Val → Mem → Prop} (hF : P[f]? = some F) (hl : vs.length = F.np)
    (h : W (F.body.ev (run P k) (startS vs F.nl) m) (fun _ m' => V (close m.n .non m') Q) (fun v m' => V (close m.n v m') Q)) : V (run P (k + 1) f vs m) Q := by
  simp only [run, hF]
  rw [if_pos (by rw [hl]; exact Nat.beq_refl _)]
  revert h
  generalize F.body.ev (run P k) (startS vs F.nl) m = r
  intro h
  cases r <;> first | exact h | exact h.elim
/-! ### memories -/
def WF (m : Mem) : Prop := ∀ a o, m.get a = some o → a < m.n
theorem WF.new {m : Mem} {o : HObj} (h : WF m) : WF (m.new o) := fun a u e => by
  rw [Mem.get_new] at e
  show a < m.n + 1
  split at e
  · omega
  · have := h a u e
    omega
theorem hget_put_none {a b : Nat} {o u : HObj} : ∀ {h : List (Nat × HObj)}, hget (hput h a o) b = some u → ∃ w, hget h b = some w
  | [], e => by cases e
  | p :: r, e => by
    unfold hput at e
    split at e
    · unfold hget at e ⊢
      split
      · exact ⟨_, rfl⟩
      · rename_i h1 h2
        rw [if_neg h2] at e
        exact ⟨_, e⟩
    · unfold hget at e ⊢
      split
      · exact ⟨_, rfl⟩
      · rename_i h1 h2
        rw [if_neg h2] at e
        exact hget_put_none e
theorem WF.put {m : Mem} {a : Nat} {o : HObj} (h : WF m) : WF (m.put a o) := fun b u e => by
  obtain ⟨w, e'⟩ := hget_put_none (h := m.h) (show hget (hput m.h a o) b = some u from e)
  exact h b w e'
theorem get_cut {m : Mem} {n0 a : Nat} : (⟨m.n, hcut m.h n0⟩ : Mem).get a = if a < n0 then m.get a else none := hget_cut
theorem WF.cut {m : Mem} {n0 : Nat} (h : WF m) : WF ⟨m.n, hcut m.h n0⟩ := fun a u e => by
  rw [get_cut] at e
  split at e
  · exact h a u e
  · cases e
/-- what stood stands, but for some -/
structure Fr (S : Nat → Prop) (m m' : Mem) : Prop where
  le : m.n ≤ m'.n
  get : ∀ a, a < m.n → ¬ S a → m'.get a = m.get a
  wf : WF m'
abbrev no : Nat → Prop := fun _ => False
theorem Fr.refl {S : Nat → Prop} {m : Mem} (h : WF m) : Fr S m m := ⟨Nat.le_refl _, fun _ _ _ => rfl, h⟩
theorem Fr.trans {S : Nat → Prop} {m m1 m2 : Mem} (a : Fr S m m1) (b : Fr S m1 m2) : Fr S m m2 := ⟨Nat.le_trans a.le b.le, fun c h s => (b.get c (Nat.lt_of_lt_of_le h a.le) s).trans (a.get c h s), b.wf⟩
theorem Fr.mono {S S' : Nat → Prop} {m m1 : Mem} (a : Fr S m m1) (h : ∀ b, b < m.n → S b → S' b) : Fr S' m m1 := ⟨a.le, fun c hc s => a.get c hc fun z => s (h c hc z), a.wf⟩
theorem Fr.new {S : Nat → Prop} {m m1 : Mem} {o : HObj} (a : Fr S m m1) : Fr S m (m1.new o) := ⟨Nat.le_succ_of_le a.le, fun c h s => by
  rw [Mem.get_new, if_neg (by have := a.le; omega)]
  exact a.get c h s, a.wf.new⟩
theorem get_put_ne {m : Mem} {a b : Nat} {o : HObj} (h : b ≠ a) : (m.put a o).get b = m.get b := hget_put_ne h
theorem get_put_same {m : Mem} {a : Nat} {o u : HObj} (h : m.get a = some u) : (m.put a o).get a = some o := hget_put_self h
theorem get_new_same {m : Mem} {o : HObj} : (m.new o).get m.n = some o := by rw [Mem.get_new, if_pos rfl]
theorem get_new_lt {m : Mem} {o : HObj} {a : Nat} (h : a < m.n) : (m.new o).get a = m.get a := by rw [Mem.get_new, if_neg (by omega)]
/-- a write: to a new one, or to one that may change -/
theorem Fr.put {S : Nat → Prop} {m m1 : Mem} {b : Nat} {o : HObj} (a : Fr S m m1) (h : m.n ≤ b ∨ S b) : Fr S m (m1.put b o) := ⟨a.le, fun c hc s => by
  rw [get_put_ne (fun z => by subst z; rcases h with q | q; omega; exact s q)]
  exact a.get c hc s, a.wf.put⟩
theorem Fr.cut {S : Nat → Prop} {m m1 : Mem} (a : Fr S m m1) : Fr S m ⟨m1.n, hcut m1.h m.n⟩ := ⟨a.le, fun c h s => by
  rw [get_cut, if_pos h]
  exact a.get c h s, a.wf.cut⟩
theorem V_close {m m1 : Mem} {v : Val} {Q : Val → Mem → Prop} (h1 : v.flat = true) (h : Q v ⟨m1.n, hcut m1.h m.n⟩) : V (close m.n v m1) Q := by
  unfold close
  rw [if_pos h1]
  exact h
theorem V_close' {n0 : Nat} {m1 : Mem} {a : Nat} {Q : Val → Mem → Prop} (h : Q (.ref a) m1) : V (close n0 (.ref a) m1) Q := h
theorem get_put_eq {m : Mem} {a : Nat} {o : HObj} : (m.put a o).get a = (m.get a).map fun _ => o := by
  cases h : m.get a with
  | some u => exact get_put_same h
  | none =>
    cases e : (m.put a o).get a with
    | none => rfl
    | some u =>
      obtain ⟨w, q⟩ := hget_put_none (h := m.h) (show hget (hput m.h a o) a = some u from e)
      exact absurd ((show m.get a = some w from q).symm.trans h) (by simp)
/-! ### operations -/
section
variable {i j : Int} {m : Mem} {Q : Val → Mem → Prop} {p q : Nat} {xs ys : List Val} {a b : Val}
theorem small_of {α : Type} {xs : List α} (h : xs.length ≤ 8000000) : small xs = true := Nat.ble_eq_true_of_le h
theorem P_add : V (ofRV (prim .add [.int i, .int j] m)) Q = Q (.int (i + j)) m := rfl
theorem P_addT (h1 : xs.length ≤ 8000000) (h2 : ys.length ≤ 8000000) : V (ofRV (prim .add [.tup xs, .tup ys] m)) Q = Q (.tup (xs ++ ys)) m := by
  show V (ofRV (if (small xs && small ys) = true then _ else _)) Q = _
  rw [small_of h1, small_of h2]
  rfl
theorem P_sub : V (ofRV (prim .sub [.int i, .int j] m)) Q = Q (.int (i - j)) m := rfl
theorem P_mul (h : 0 ≤ j) (h2 : j < 18446744073709551616) : V (ofRV (prim .mul [.int i, .int j] m)) Q = Q (.int (i * j)) m := by
  show V (ofRV (if okMul i j = true then _ else _)) Q = _
  rw [if_pos]
  · rfl
  · unfold okMul
    rw [decide_eq_true (show -(2 ^ 64) < j by omega), decide_eq_true (show j < 2 ^ 64 by omega)]
    simp
theorem P_mulL (h : 0 ≤ i) (h2 : i < 18446744073709551616) : V (ofRV (prim .mul [.int i, .int j] m)) Q = Q (.int (i * j)) m := by
  show V (ofRV (if okMul i j = true then _ else _)) Q = _
  rw [if_pos]
  · rfl
  · unfold okMul
    rw [decide_eq_true (show -(2 ^ 64) < i by omega), decide_eq_true (show i < 2 ^ 64 by omega)]
    simp
theorem P_mod (h : 0 < j) : V (ofRV (prim .mod [.int i, .int j] m)) Q = Q (.int (i % j)) m := by
  show V (ofRV (if decide (0 < j) = true then _ else _)) Q = _
  rw [if_pos (decide_eq_true h)]
  rfl
theorem P_fdiv (h : 0 < j) (h2 : j < 1073741824) : V (ofRV (prim .fdiv [.int i, .int j] m)) Q = Q (.int (i / j)) m := by
  show V (ofRV (if (decide (0 < j) && decide (j < 1073741824)) = true then _ else _)) Q = _
  rw [decide_eq_true h, decide_eq_true h2]
  rfl
theorem P_divmod (h : 0 < j) (h2 : j < 1073741824) : V (ofRV (prim .divmod [.int i, .int j] m)) Q = Q (.tup [.int (i / j), .int (i % j)]) m := by
  show V (ofRV (if (decide (0 < j) && decide (j < 1073741824)) = true then _ else _)) Q = _
  rw [decide_eq_true h, decide_eq_true h2]
  rfl
theorem P_pow18 : V (ofRV (prim .pow [.int 10, .int 18] m)) Q = Q (.int 1000000000000000000) m := rfl
theorem P_neg : V (ofRV (prim .neg [.int i] m)) Q = Q (.int (-i)) m := rfl
theorem P_lt : V (ofRV (prim .lt [.int i, .int j] m)) Q = Q (.bl (decide (i < j))) m := rfl
theorem P_le : V (ofRV (prim .le [.int i, .int j] m)) Q = Q (.bl (decide (i ≤ j))) m := rfl
theorem P_gt : V (ofRV (prim .gt [.int i, .int j] m)) Q = Q (.bl (decide (j < i))) m := rfl
theorem P_ge : V (ofRV (prim .ge [.int i, .int j] m)) Q = Q (.bl (decide (j ≤ i))) m := rfl
theorem P_int : V (ofRV (prim .int [.int i] m)) Q = Q (.int i) m := rfl
theorem P_abs : V (ofRV (prim .abs [.int i] m)) Q = Q (.int (if i < 0 then -i else i)) m := rfl
theorem P_max2 : V (ofRV (prim .max2 [.int i, .int j] m)) Q = Q (.int (if j > i then j else i)) m := rfl
def VB (c : Option Bool) (Q : Bool → Prop) : Prop := match c with
  | some c => Q c
  | none => False
theorem VB_some {c : Bool} {Q : Bool → Prop} : VB (some c) Q = Q c := rfl
theorem P_eq : V (ofRV (prim .eq [a, b] m)) Q = VB (eqData m a b) fun c => Q (.bl c) m := by
  show V (ofRV (match eqData m a b with | some c => some (.bl c, m) | none => none)) Q = _
  cases eqData m a b <;> rfl
theorem P_ne : V (ofRV (prim .ne [a, b] m)) Q = VB (eqData m a b) fun c => Q (.bl (!c)) m := by
  show V (ofRV (match eqData m a b with | some c => some (.bl (!c), m) | none => none)) Q = _
  cases eqData m a b <;> rfl
theorem eq_ints : eqData m (.int i) (.int j) = some (decide (i = j)) := by
  unfold eqData
  show (match (some (PySem.PyData.int i)), (some (PySem.PyData.int j)) with | some d, some e => if d.canLay0 && e.canLay0 then some (PySem.PyData.eqv d e) else none | _, _ => none) = _
  simp [PySem.PyData.canLay0, PySem.PyData.eqv]
  exact Bool.eq_iff_iff.mpr (by simp)
theorem P_tupD (h : xs.length ≤ 8000000) : V (ofRV (prim .tupD xs m)) Q = Q (.tup xs) m := by
  show V (ofRV (if small xs = true then _ else _)) Q = _
  rw [if_pos (small_of h)]
  rfl
theorem P_lstD (h : xs.length ≤ 8000000) : V (ofRV (prim .lstD xs m)) Q = Q (.ref m.n) (m.new (.lst xs)) := by
  show V (ofRV (if small xs = true then _ else _)) Q = _
  rw [if_pos (small_of h)]
  rfl
theorem P_dkD : V (ofRV (prim .dkD [] m)) Q = Q (.ref m.n) (m.new (.dk [])) := rfl
/-- an item of a row -/
def VI (c : Option Val) (Q : Val → Prop) : Prop := match c with
  | some c => Q c
  | none => False
theorem VI_some {c : Val} {Q : Val → Prop} : VI (some c) Q = Q c := rfl
def VL (c : Option HObj) (Q : List Val → Prop) : Prop := match c with
  | some (.lst xs) => Q xs
  | _ => False
theorem VL_some {c : List Val} {Q : List Val → Prop} : VL (some (.lst c)) Q = Q c := rfl
theorem P_item (hp : m.get p = some (.lst xs)) : V (ofRV (prim .item [.ref p, .int i] m)) Q = VI (L2.atI xs i) fun v => Q v m := by
  show V (ofRV (match itemV m (.ref p) (.int i) with | some v => some (v, m) | none => none)) Q = _
  unfold itemV
  simp only [hp]
  cases L2.atI xs i <;> rfl
theorem P_itemR (hp : m.get p = some (.rol xs)) : V (ofRV (prim .item [.ref p, .int i] m)) Q = VI (L2.atI xs i) fun v => Q v m := by
  show V (ofRV (match itemV m (.ref p) (.int i) with | some v => some (v, m) | none => none)) Q = _
  unfold itemV
  simp only [hp]
  cases L2.atI xs i <;> rfl
theorem P_itemT : V (ofRV (prim .item [.tup xs, .int i] m)) Q = VI (L2.atI xs i) fun v => Q v m := by
  show V (ofRV (match L2.atI xs i with | some v => some (v, m) | none => none)) Q = _
  cases L2.atI xs i <;> rfl
theorem atI_0 {x : Val} {r : List Val} : L2.atI (x :: r) 0 = some x := L2.atI_nat (j := 0) rfl
theorem atI_1 {x y : Val} {r : List Val} : L2.atI (x :: y :: r) 1 = some y := L2.atI_nat (j := 1) rfl
theorem P_lenT : V (ofRV (prim .len [.tup xs] m)) Q = Q (.int (Int.ofNat xs.length)) m := rfl
theorem P_lenL (hp : m.get p = some (.lst xs)) : V (ofRV (prim .len [.ref p] m)) Q = Q (.int (Int.ofNat xs.length)) m := by
  show V (ofRV (match lenV m (.ref p) with | some n => some (.int (Int.ofNat n), m) | none => none)) Q = _
  unfold lenV
  simp only [hp]
  rfl
theorem P_lenR (hp : m.get p = some (.rol xs)) : V (ofRV (prim .len [.ref p] m)) Q = Q (.int (Int.ofNat xs.length)) m := by
  show V (ofRV (match lenV m (.ref p) with | some n => some (.int (Int.ofNat n), m) | none => none)) Q = _
  unfold lenV
  simp only [hp]
  rfl
theorem P_lenD {kvs : List (L2.Key × Val)} (hp : m.get p = some (.dk kvs)) : V (ofRV (prim .len [.ref p] m)) Q = Q (.int (Int.ofNat kvs.length)) m := by
  show V (ofRV (match lenV m (.ref p) with | some n => some (.int (Int.ofNat n), m) | none => none)) Q = _
  unfold lenV
  simp only [hp]
  rfl
theorem P_append (hp : m.get p = some (.lst xs)) (h : xs.length ≤ 8000000) : V (ofRV (prim .append [.ref p, a] m)) Q = Q .non (m.put p (.lst (xs ++ [a]))) := by
  show V (ofRV (match m.get p with | some (.lst xs) => if small xs then some (.non, m.put p (.lst (xs ++ [a]))) else none | _ => none)) Q = _
  rw [hp]
  simp only [small_of h]
  rfl
theorem P_extend (hp : m.get p = some (.lst xs)) (hq : m.get q = some (.lst ys)) (h : xs.length ≤ 8000000) (h2 : ys.length ≤ 8000000) : V (ofRV (prim .extend [.ref p, .ref q] m)) Q = Q .non (m.put p (.lst (xs ++ ys))) := by
  show V (ofRV (match m.get p, m.get q with | some (.lst xs), some (.lst ys) => if small xs && small ys then some (.non, m.put p (.lst (xs ++ ys))) else none | _, _ => none)) Q = _
  rw [hp, hq]
  simp only [small_of h, small_of h2]
  rfl
theorem P_tupleL (hp : m.get p = some (.lst xs)) : V (ofRV (prim .tuple [.ref p] m)) Q = Q (.tup xs) m := by
  show V (ofRV (match seqOf m (.ref p) with | some xs => some (.tup xs, m) | none => none)) Q = _
  unfold seqOf
  simp only [hp]
  rfl
theorem P_listL (hp : m.get p = some (.lst xs)) : V (ofRV (prim .list [.ref p] m)) Q = Q (.ref m.n) (m.new (.lst xs)) := by
  show V (ofRV (match seqOf m (.ref p) with | some xs => some (.ref m.n, m.new (.lst xs)) | none => none)) Q = _
  unfold seqOf
  simp only [hp]
  rfl
end
/-! ### terms -/
def VT (c : Option Bool) (A B : Prop) : Prop := match c with
  | some true => A
  | some false => B
  | none => False
theorem VT_true {A B : Prop} : VT (some true) A B = A := rfl
theorem VT_false {A B : Prop} : VT (some false) A B = B := rfl
theorem VT_dec {p : Prop} [h : Decidable p] {A B : Prop} : VT (some (decide p)) A B = ((p → A) ∧ (¬p → B)) := by
  by_cases q : p
  · rw [decide_eq_true q]
    exact propext ⟨fun a => ⟨fun _ => a, fun z => absurd q z⟩, fun a => a.1 q⟩
  · rw [decide_eq_false q]
    exact propext ⟨fun a => ⟨fun z => absurd z q, fun _ => a⟩, fun a => a.2 q⟩
theorem VT_ndec {p : Prop} [h : Decidable p] {A B : Prop} : VT (some (!decide p)) A B = ((¬p → A) ∧ (p → B)) := by
  by_cases q : p
  · rw [decide_eq_true q]
    exact propext ⟨fun a => ⟨fun z => absurd q z, fun _ => a⟩, fun a => a.2 q⟩
  · rw [decide_eq_false q]
    exact propext ⟨fun a => ⟨fun _ => a, fun z => absurd z q⟩, fun a => a.1 q⟩
theorem VT_bool {c : Bool} {A B : Prop} : VT (some c) A B = ((c = true → A) ∧ (c = false → B)) := by
  cases c
  · exact propext ⟨fun a => ⟨fun z => (by cases z), fun _ => a⟩, fun a => a.2 rfl⟩
  · exact propext ⟨fun a => ⟨fun _ => a, fun z => (by cases z)⟩, fun a => a.1 rfl⟩
section
variable {call : Nat → List Val → Mem → Res} {σ : Sta} {m : Mem} {Q : Val → Mem → Prop} {QL : List Val → Mem → Prop} {QS : Sta → Mem → Prop} {R : Val → Mem → Prop}
theorem V_var {i : Nat} : V ((E.var i).ev call σ m) Q = VI (getS σ i) fun v => Q v m := by
  simp only [E.ev]
  cases getS σ i <;> rfl
theorem V_cst {v : Val} : V ((E.cst v).ev call σ m) Q = Q v m := rfl
theorem V_prim {p : Prim} {as : E} : V ((E.prim p as).ev call σ m) Q = L (as.ev call σ m) fun vs m1 => V (ofRV (prim p vs m1)) Q := by
  simp only [E.ev, V_onL]
theorem L_nil : L (E.nil.ev call σ m) QL = QL [] m := rfl
theorem L_cons {a r : E} : L ((E.cons a r).ev call σ m) QL = V (a.ev call σ m) fun v m1 => L (r.ev call σ m1) fun vs m2 => QL (v :: vs) m2 := by
  simp only [E.ev, L_onV, L_onL, L_vals]
def VK (c : Option Kind) (p : Prim) (A : Prop) : Prop := match c with
  | some k => methOk p k = true ∧ A
  | none => False
theorem VK_some {k : Kind} {p : Prim} {A : Prop} : VK (some k) p A = (methOk p k = true ∧ A) := rfl
theorem V_meth {p : Prim} {o as : E} : V ((E.meth p o as).ev call σ m) Q = V (o.ev call σ m) fun x m1 => VK (kindOf m1 x) p (L (as.ev call σ m1) fun vs m2 => V (ofRV (prim p (x :: vs) m2)) Q) := by
  simp only [E.ev, V_onV]
  congr 1
  funext x m1
  cases kindOf m1 x with
  | none => rfl
  | some k =>
    show V (if methOk p k = true then _ else _) Q = (methOk p k = true ∧ _)
    by_cases h : methOk p k = true
    · rw [if_pos h, V_onL]
      exact propext ⟨fun z => ⟨h, z⟩, fun z => z.2⟩
    · rw [if_neg h]
      exact propext ⟨fun z => z.elim, fun z => absurd z.1 h⟩
theorem V_and {a b : E} : V ((E.and a b).ev call σ m) Q = V (a.ev call σ m) fun v m1 => VT (truth m1 v) (V (b.ev call σ m1) Q) (Q v m1) := by
  simp only [E.ev, V_onV]
  congr 1
  funext x m1
  cases truth m1 x with
  | none => rfl
  | some c => cases c <;> rfl
theorem V_or {a b : E} : V ((E.or a b).ev call σ m) Q = V (a.ev call σ m) fun v m1 => VT (truth m1 v) (Q v m1) (V (b.ev call σ m1) Q) := by
  simp only [E.ev, V_onV]
  congr 1
  funext x m1
  cases truth m1 x with
  | none => rfl
  | some c => cases c <;> rfl
theorem V_ite {c a b : E} : V ((E.ite c a b).ev call σ m) Q = V (c.ev call σ m) fun v m1 => VT (truth m1 v) (V (a.ev call σ m1) Q) (V (b.ev call σ m1) Q) := by
  simp only [E.ev, V_onV]
  congr 1
  funext x m1
  cases truth m1 x with
  | none => rfl
  | some c => cases c <;> rfl
theorem V_not {a : E} : V ((E.not a).ev call σ m) Q = V (a.ev call σ m) fun v m1 => VB (truth m1 v) fun c => Q (.bl (!c)) m1 := by
  simp only [E.ev, V_onV]
  congr 1
  funext x m1
  cases truth m1 x <;> rfl
theorem V_chain {p q : Prim} {a b c : E} : V ((E.chain p q a b c).ev call σ m) Q = V (a.ev call σ m) fun x m1 => V (b.ev call σ m1) fun y m2 => V (ofRV (prim p [x, y] m2)) fun u m3 => match u with
    | .bl true => V (c.ev call σ m3) fun z m4 => V (ofRV (prim q [y, z] m4)) Q
    | .bl false => Q (.bl false) m3
    | _ => False := by
  simp only [E.ev, V_onV]
  congr 1
  funext x m1
  congr 1
  funext y m2
  cases hp : prim p [x, y] m2 with
  | none => rfl
  | some r =>
    obtain ⟨u, m3⟩ := r
    cases u <;> first | rfl | skip
    rename_i b
    cases b
    · rfl
    · simp only [V_onV]
      rfl
def VP (c : Option (List Val)) (Q : List Val → Prop) : Prop := match c with
  | some c => Q c
  | none => False
theorem VP_some {c : List Val} {Q : List Val → Prop} : VP (some c) Q = Q c := rfl
theorem V_call {f : Nat} {perm : List Nat} {as : E} : V ((E.call f perm as).ev call σ m) Q = L (as.ev call σ m) fun vs m1 => VP (permL vs perm) fun ws => V (call f ws m1) Q := by
  simp only [E.ev, V_onL]
  congr 1
  funext vs m1
  cases permL vs perm <;> rfl
/-! ### targets, blocks -/
theorem W_name {i : Nat} {v : Val} : W ((Tg.name i).ev call v σ m) QS R = QS (setS σ i (some v)) m := rfl
def store (x k v : Val) (m : Mem) (Q : Mem → Prop) : Prop := match x with
  | .ref a => match m.get a with
    | some (.lst xs) => match k with
      | .int j => (0 ≤ j ∧ j.toNat < xs.length) ∧ Q (m.put a (.lst (xs.set j.toNat v)))
      | _ => False
    | some (.dk kvs) => match keyOf k with
      | some k => small kvs = true ∧ Q (m.put a (.dk (kset kvs k v)))
      | none => False
    | _ => False
  | _ => False
theorem W_item {o i : E} {v : Val} : W ((Tg.item o i).ev call v σ m) QS R = V (o.ev call σ m) fun x m1 => V (i.ev call σ m1) fun k m2 => store x k v m2 fun m3 => QS σ m3 := by
  simp only [Tg.ev, W_onV]
  congr 1
  funext x m1
  congr 1
  funext k m2
  cases x <;> first | rfl | skip
  rename_i a
  unfold store
  cases hg : m2.get a with
  | none =>
    simp only [hg]
    rfl
  | some o =>
    cases o with
    | rol xs =>
      simp only [hg]
      rfl
    | lst xs =>
      simp only [hg]
      cases k <;> first | rfl | skip
      rename_i j
      show W (if (decide (0 ≤ j) && Nat.blt j.toNat xs.length) = true then _ else _) QS R = _
      by_cases h : 0 ≤ j ∧ j.toNat < xs.length
      · rw [if_pos (by rw [decide_eq_true h.1, show Nat.blt j.toNat xs.length = true from Nat.ble_eq_true_of_le h.2]; rfl)]
        exact propext ⟨fun z => ⟨h, z⟩, fun z => z.2⟩
      · rw [if_neg (fun z => h (by
          rw [Bool.and_eq_true, decide_eq_true_eq] at z
          exact ⟨z.1, Nat.le_of_ble_eq_true z.2⟩))]
        exact propext ⟨fun z => z.elim, fun z => absurd z.1 h⟩
    | dk kvs =>
      simp only [hg]
      show W (match keyOf k with | some k => if small kvs then .next σ (m2.put a (.dk (kset kvs k v))) else .bad | none => .bad) QS R = match keyOf k with
        | some k => small kvs = true ∧ QS σ (m2.put a (.dk (kset kvs k v)))
        | none => False
      cases keyOf k with
      | none => rfl
      | some kk =>
        show W (if small kvs = true then _ else _) QS R = _
        by_cases h : small kvs = true
        · rw [if_pos h]
          exact propext ⟨fun z => ⟨h, z⟩, fun z => z.2⟩
        · rw [if_neg h]
          exact propext ⟨fun z => z.elim, fun z => absurd z.1 h⟩
theorem store_lst {p : Nat} {j : Int} {v : Val} {xs : List Val} {Q : Mem → Prop} (hp : m.get p = some (.lst xs)) (h1 : 0 ≤ j) (h2 : j.toNat < xs.length) : store (.ref p) (.int j) v m Q = Q (m.put p (.lst (xs.set j.toNat v))) := by
  unfold store
  simp only [hp]
  exact propext ⟨fun z => z.2, fun z => ⟨⟨h1, h2⟩, z⟩⟩
theorem store_dk {p : Nat} {k v : Val} {key : L2.Key} {kvs : List (L2.Key × Val)} {Q : Mem → Prop} (hp : m.get p = some (.dk kvs)) (hk : keyOf k = some key) (h2 : kvs.length ≤ 8000000) : store (.ref p) k v m Q = Q (m.put p (.dk (kset kvs key v))) := by
  unfold store
  simp only [hp, hk]
  exact propext ⟨fun z => z.2, fun z => ⟨small_of h2, z⟩⟩
theorem W_two {a b : Tg} {x y : Val} : W ((Tg.two a b).ev call (.tup [x, y]) σ m) QS R = W (a.ev call x σ m) (fun σ1 m1 => W (b.ev call y σ1 m1) QS R) R := by
  simp only [Tg.ev, W_onN]
theorem W_pass : W (S.pass.ev call σ m) QS R = QS σ m := rfl
theorem W_seq {a b : S} : W ((S.seq a b).ev call σ m) QS R = W (a.ev call σ m) (fun σ1 m1 => W (b.ev call σ1 m1) QS R) R := by
  simp only [S.ev, W_onN]
theorem W_expr {e : E} : W ((S.expr e).ev call σ m) QS R = V (e.ev call σ m) fun _ m1 => QS σ m1 := by
  simp only [S.ev, W_onV, W_next]
theorem W_asg {t : Tg} {e : E} : W ((S.asg t e).ev call σ m) QS R = V (e.ev call σ m) fun v m1 => W (t.ev call v σ m1) QS R := by
  simp only [S.ev, W_onV]
theorem W_par {i j : Nat} {a b : E} : W ((S.par i j a b).ev call σ m) QS R = V (a.ev call σ m) fun v m1 => V (b.ev call σ m1) fun w m2 => QS (setS (setS σ i (some v)) j (some w)) m2 := by
  simp only [S.ev, W_onV, W_next]
theorem W_ret' {e : E} : W ((S.ret e).ev call σ m) QS R = V (e.ev call σ m) R := by
  simp only [S.ev, W_onV]
  cases e.ev call σ m <;> rfl
theorem W_sif {c : E} {a b : S} : W ((S.sif c a b).ev call σ m) QS R = V (c.ev call σ m) fun v m1 => VT (truth m1 v) (W (a.ev call σ m1) QS R) (W (b.ev call σ m1) QS R) := by
  simp only [S.ev, W_onV]
  congr 1
  funext x m1
  cases truth m1 x with
  | none => rfl
  | some c => cases c <;> rfl
theorem truth_bl {c : Bool} : truth m (.bl c) = some c := rfl
theorem truth_int {i : Int} : truth m (.int i) = some (i != 0) := rfl
theorem kind_lst {p : Nat} {xs : List Val} (hp : m.get p = some (.lst xs)) : kindOf m (.ref p) = some .list := by
  unfold kindOf
  simp only [hp]
theorem kind_dk {p : Nat} {xs : List (L2.Key × Val)} (hp : m.get p = some (.dk xs)) : kindOf m (.ref p) = some .dict := by
  unfold kindOf
  simp only [hp]
theorem kind_tup {xs : List Val} : kindOf m (.tup xs) = some .tuple := rfl
theorem getS_0 {x : Option Val} {r : Sta} : getS (x :: r) 0 = x := rfl
theorem getS_s {x : Option Val} {r : Sta} {i : Nat} : getS (x :: r) (i + 1) = getS r i := rfl
end
/-! ### loops -/
theorem turns_inv {f : Val → Sta → Mem → Res} {src : Src} {QS : Sta → Mem → Prop} {R : Val → Mem → Prop} {xs : List Val} (I : Nat → Sta → Mem → Prop) (hn : ∀ i σ m, I i σ m → src.next m i = some xs[i]?)
    (step : ∀ i x σ m, xs[i]? = some x → I i σ m → W (f x σ m) (I (i + 1)) R) (fin : ∀ σ m, I xs.length σ m → QS σ m) : ∀ k i σ m, i + k = xs.length → I i σ m → W (turns f src (k + 1) i σ m) QS R := by
  intro k
  induction k with
  | zero =>
    intro i σ m e h
    have e' : i = xs.length := e
    subst e'
    simp only [turns]
    rw [hn _ _ _ h, List.getElem?_eq_none (Nat.le_refl _)]
    exact fin σ m h
  | succ k ih =>
    intro i σ m e h
    have hx : xs[i]? = some xs[i] := List.getElem?_eq_getElem (by omega)
    unfold turns
    rw [hn _ _ _ h, hx]
    show W ((f xs[i] σ m).onN _) QS R
    rw [W_onN]
    exact (step i _ σ m hx h).mono (fun σ1 m1 h1 => ih (i + 1) σ1 m1 (by omega) h1) fun _ _ q => q
theorem cturns_inv {f : Val → Mem → Res} {src : Src} {Q : Mem → Prop} {xs : List Val} (I : Nat → Mem → Prop) (hn : ∀ i m, I i m → src.next m i = some xs[i]?)
    (step : ∀ i x m, xs[i]? = some x → I i m → V (f x m) fun _ => I (i + 1)) (fin : ∀ m, I xs.length m → Q m) : ∀ k i m, i + k = xs.length → I i m → V (cturns f src (k + 1) i m) fun _ m' => Q m' := by
  intro k
  induction k with
  | zero =>
    intro i m e h
    have e' : i = xs.length := e
    subst e'
    simp only [cturns]
    rw [hn _ _ h, List.getElem?_eq_none (Nat.le_refl _)]
    exact fin m h
  | succ k ih =>
    intro i m e h
    have hx : xs[i]? = some xs[i] := List.getElem?_eq_getElem (by omega)
    unfold cturns
    rw [hn _ _ h, hx]
    have st := step i _ m hx h
    show V (match f xs[i] m with | .val _ m => cturns f src (k + 1) (i + 1) m | _ => .bad) _
    cases e2 : f xs[i] m <;> rw [e2] at st <;> first | exact st.elim | skip
    exact ih (i + 1) _ (by omega) st
section
variable {call : Nat → List Val → Mem → Res} {σ : Sta} {m : Mem} {Q : Val → Mem → Prop} {QS : Sta → Mem → Prop} {R : Val → Mem → Prop}
/-- what a source gives -/
structure Gives (m1 : Mem) (src : Src) (xs : List Val) (ok : Mem → Prop) : Prop where
  size : src.size m1 = xs.length
  next : ∀ m', ok m' → ∀ i, src.next m' i = some xs[i]?
theorem gives_vals {m1 : Mem} {xs : List Val} {ok : Mem → Prop} : Gives m1 (.vals xs) xs ok := ⟨rfl, fun _ _ _ => rfl⟩
theorem gives_lst {m1 : Mem} {a : Nat} {xs : List Val} {ok : Mem → Prop} (h1 : m1.get a = some (.lst xs)) (h : ∀ m', ok m' → m'.get a = some (.lst xs)) : Gives m1 (.lst a) xs ok := by
  refine ⟨?_, fun m' q i => ?_⟩
  · show ((lstAt m1 a).getD []).length = _
    unfold lstAt
    rw [h1]
    rfl
  · show (match lstAt m' a with | some xs => some xs[i]? | none => none) = _
    unfold lstAt
    rw [h m' q]
theorem src_rg1 {n : Int} (h1 : -1000000 ≤ n) (h2 : n ≤ 1000000) : srcOf m .range1 [.int n] = some (.vals (rangeV 0 n.toNat)) := by
  show (if (decide (n ≤ 1000000) && decide (-1000000 ≤ n)) = true then _ else _) = _
  rw [decide_eq_true h1, decide_eq_true h2]
  rfl
theorem src_tup {xs : List Val} : srcOf m .plain [.tup xs] = some (.vals xs) := rfl
theorem src_lst {a : Nat} {xs : List Val} (h : m.get a = some (.lst xs)) : srcOf m .plain [.ref a] = some (.lst a) := by
  show (lstAt m a).map _ = _
  unfold lstAt
  rw [h]
  rfl
theorem W_for {kd : ItK} {tg : Pt} {it : E} {b : S} (xs : List Val) (I : Nat → Sta → Mem → Prop) (h : L (it.ev call σ m) fun vs m1 => ∃ src, srcOf m1 kd vs = some src ∧ Gives m1 src xs (fun m' => ∃ i σ', I i σ' m') ∧ I 0 σ m1)
    (step : ∀ i x σ m, xs[i]? = some x → I i σ m → ∃ σ2, tg.set σ x = some σ2 ∧ W (b.ev call σ2 m) (I (i + 1)) R) (fin : ∀ σ m, I xs.length σ m → QS σ m) : W ((S.sfor kd tg it b).ev call σ m) QS R := by
  simp only [S.ev, W_onL]
  revert h
  generalize it.ev call σ m = r
  intro h
  cases r <;> first | exact h.elim | skip
  obtain ⟨src, e, g, i0⟩ := h
  simp only [L_vals, e]
  rw [g.size]
  refine turns_inv I (fun i σ m q => g.next m ⟨i, σ, q⟩ i) (fun i x σ m hx hI => ?_) fin xs.length 0 σ _ (by omega) i0
  obtain ⟨σ2, e2, w⟩ := step i x σ m hx hI
  simp only [e2]
  exact w
/-- a comprehension whose parts write nothing old -/
theorem V_lcomp {own : List Nat} {kd : ItK} {tg : Pt} {it cond elt : E} (xs : List Val) (g : Val → Option Val) (hz : xs.length ≤ 8000000)
    (h : L (it.ev call σ m) fun vs m1 => ∃ src, srcOf m1 kd vs = some src ∧ Gives m1 src xs (Fr no m1) ∧ WF m1 ∧
      (∀ (i : Nat) (x : Val) (m' : Mem), xs[i]? = some x → Fr no m1 m' → ∃ σ2, tg.set (wipeS σ own) x = some σ2 ∧ V (cond.ev call σ2 m') fun c m2 => VT (truth m2 c) (V (elt.ev call σ2 m2) fun y m3 => g x = some y ∧ Fr no m' m3) (g x = none ∧ Fr no m' m2)) ∧
      ∀ m', Fr no m1 m' → m1.n < m'.n → m'.get m1.n = some (.lst (xs.filterMap g)) → Q (.ref m1.n) m') : V ((E.lcomp own kd tg it cond elt).ev call σ m) Q := by
  simp only [E.ev, V_onL]
  revert h
  generalize it.ev call σ m = r
  intro h
  cases r <;> first | exact h.elim | skip
  rename_i vs m1
  obtain ⟨src, e, gv, wf, step, fin⟩ := h
  simp only [L_vals, e, V_onV]
  rw [gv.size]
  have f0 : Fr no m1 (m1.new (.lst [])) := (Fr.refl wf).new
  refine cturns_inv (Q := fun m' => Q (.ref m1.n) m') (fun i mm => Fr no m1 mm ∧ m1.n < mm.n ∧ mm.get m1.n = some (.lst ((xs.take i).filterMap g))) (fun i mm q => gv.next mm q.1 i) (fun i x mm hx hI => ?_) (fun mm hI => ?_) xs.length 0 _ (by omega) ⟨f0, Nat.lt_succ_self _, get_new_same⟩
  · obtain ⟨hf, hlt, hg⟩ := hI
    obtain ⟨σ2, e2, w⟩ := step i x mm hx hf
    simp only [e2, V_onV]
    refine w.mono fun c m2 q => ?_
    have tk : (xs.take (i + 1)).filterMap g = (xs.take i).filterMap g ++ (match g x with | some y => [y] | none => []) := by
      rw [List.take_add_one, List.filterMap_append, hx]
      cases e3 : g x <;> simp [e3]
    have hlen : ((xs.take i).filterMap g).length ≤ 8000000 := Nat.le_trans (List.length_filterMap_le _ _) (by rw [List.length_take]; omega)
    cases ht : truth m2 c with
    | none => rw [ht] at q; exact q.elim
    | some cc =>
      rw [ht] at q
      cases cc with
      | true =>
        simp only [V_onV]
        refine V.mono (show V _ _ from q) fun y m3 ⟨hy, hf3⟩ => ?_
        have hg3 : m3.get m1.n = some (.lst ((xs.take i).filterMap g)) := (hf3.get _ hlt id).trans hg
        simp only [hg3]
        rw [if_pos (small_of hlen)]
        refine ⟨(hf.trans hf3).put (.inl (Nat.le_refl _)), Nat.lt_of_lt_of_le hlt hf3.le, ?_⟩
        rw [get_put_eq, hg3, tk, hy]
        rfl
      | false =>
        obtain ⟨hy, hf2⟩ := (show g x = none ∧ Fr no mm m2 from q)
        refine ⟨hf.trans hf2, Nat.lt_of_lt_of_le hlt hf2.le, ?_⟩
        rw [hf2.get _ hlt id, hg, tk, hy, List.append_nil]
  · obtain ⟨hf, hlt, hg⟩ := hI
    rw [List.take_length] at hg
    exact fin mm hf hlt hg
end
/-! ### more operations -/
section
variable {i j : Int} {m : Mem} {Q : Val → Mem → Prop} {p q : Nat} {xs ys : List Val} {a b : Val} {kvs : List (L2.Key × Val)} {key : L2.Key}
def VS (c : Option Val) (A : Val → Prop) (B : Prop) : Prop := match c with
  | some v => A v
  | none => B
theorem VS_some {v : Val} {A : Val → Prop} {B : Prop} : VS (some v) A B = A v := rfl
theorem VS_none {A : Val → Prop} {B : Prop} : VS none A B = B := rfl
theorem VS_if {c : Prop} [Decidable c] {v : Val} {A : Val → Prop} {B : Prop} : VS (if c then some v else none) A B = ((c → A v) ∧ (¬c → B)) := by
  by_cases h : c
  · rw [if_pos h]
    exact propext ⟨fun z => ⟨fun _ => z, fun q => absurd h q⟩, fun z => z.1 h⟩
  · rw [if_neg h]
    exact propext ⟨fun z => ⟨fun q => absurd q h, fun _ => z⟩, fun z => z.2 h⟩
theorem key_int : keyOf (.int i) = some (.inl i) := rfl
theorem P_setd (hp : m.get p = some (.dk kvs)) (hk : keyOf a = some key) (hz : kvs.length ≤ 8000000) : V (ofRV (prim .setdefault [.ref p, a, b] m)) Q = VS (kget kvs key) (fun w => Q w m) (Q b (m.put p (.dk (kset kvs key b)))) := by
  show V (ofRV (match m.get p with
    | some (.dk kvs) => match keyOf a with
      | some k => if small kvs then match kget kvs k with
          | some w => some (w, m)
          | none => some (b, m.put p (.dk (kset kvs k b)))
        else none
      | none => none
    | _ => none)) Q = _
  simp only [hp, hk, small_of hz, if_true]
  cases kget kvs key <;> rfl
theorem P_itemD (hp : m.get p = some (.dk kvs)) (hk : keyOf a = some key) : V (ofRV (prim .item [.ref p, a] m)) Q = VI (kget kvs key) fun v => Q v m := by
  show V (ofRV (match itemV m (.ref p) a with | some v => some (v, m) | none => none)) Q = _
  unfold itemV
  simp only [hp, hk]
  cases kget kvs key <;> rfl
theorem P_notInD (hp : m.get p = some (.dk kvs)) (hk : keyOf a = some key) : V (ofRV (prim .notIn [a, .ref p] m)) Q = Q (.bl (!(kget kvs key).isSome)) m := by
  show V (ofRV (match inV m a (.ref p) with | some c => some (.bl (!c), m) | none => none)) Q = _
  unfold inV
  simp only [hp, hk]
  rfl
theorem flat_ints : ∀ ns : List Int, (ns.map Val.int).all flat1 = true
  | [] => rfl
  | x :: r => flat_ints r
theorem any_ints (i : Int) : ∀ ns : List Int, ((ns.map Val.int).any fun y => eq1 y (.int i)) = decide (i ∈ ns)
  | [] => rfl
  | x :: r => by
    rw [List.map_cons, List.any_cons, any_ints i r]
    show (x == i || _) = _
    by_cases h : x = i
    · subst h
      simp
    · have : (x == i) = false := by simpa using h
      rw [this]
      simp only [Bool.false_or, List.mem_cons]
      congr 1
      exact propext ⟨fun z => .inr z, fun z => z.resolve_left (fun e => h e.symm)⟩
theorem P_inT {ns : List Int} : V (ofRV (prim .in_ [.int i, .tup (ns.map Val.int)] m)) Q = Q (.bl (decide (i ∈ ns))) m := by
  show V (ofRV (match inV m (.int i) (.tup (ns.map Val.int)) with | some c => some (.bl c, m) | none => none)) Q = _
  unfold inV
  simp only [flat_ints, flat1, Bool.and_true, if_true, any_ints]
  rfl
theorem intsOf_map : ∀ ns : List Int, intsOf (ns.map Val.int) = some ns
  | [] => rfl
  | x :: r => by
    show (intsOf (r.map Val.int)).map (x :: ·) = _
    rw [intsOf_map r]
    rfl
theorem P_countT {ns : List Int} : V (ofRV (prim .count [.tup (ns.map Val.int), .int i] m)) Q = Q (.int (Int.ofNat (ns.count i))) m := by
  show V (ofRV (match intsOf (ns.map Val.int) with | some ns => some (.int (Int.ofNat (ns.count i)), m) | none => none)) Q = _
  rw [intsOf_map]
  rfl
end
/-! ### while -/
section
variable {call : Nat → List Val → Mem → Res} {QS : Sta → Mem → Prop} {R : Val → Mem → Prop}
theorem W_while {c : E} {b : S} (I : Nat → Sta → Mem → Prop) (step : ∀ k σ m, I k σ m → V (c.ev call σ m) fun v m1 => VT (truth m1 v) (∃ k', k = k' + 1 ∧ W (b.ev call σ m1) (I k') R) (QS σ m1)) :
    ∀ (fuel k : Nat) (σ : Sta) (m : Mem), k < fuel → I k σ m → W ((S.swhile fuel c b).ev call σ m) QS R := by
  intro fuel
  simp only [S.ev]
  induction fuel with
  | zero => intro k σ m h; omega
  | succ f ih =>
    intro k σ m h hI
    unfold wturns
    rw [W_onV]
    refine (step k σ m hI).mono fun v m1 q => ?_
    cases ht : truth m1 v with
    | none => rw [ht] at q; exact q.elim
    | some cc =>
      rw [ht] at q
      cases cc with
      | true =>
        obtain ⟨k', e, w⟩ := (show ∃ k', k = k' + 1 ∧ W (b.ev call σ m1) (I k') R from q)
        show W ((b.ev call σ m1).onN _) QS R
        rw [W_onN]
        exact w.mono (fun σ1 m2 h1 => ih k' σ1 m2 (by omega) h1) fun _ _ z => z
      | false => exact q
theorem P_popAt {m : Mem} {p : Nat} {xs : List Val} {i : Int} {v : Val} {Q : Val → Mem → Prop} (hp : m.get p = some (.lst xs)) (h0 : 0 ≤ i) (hz : xs.length ≤ 8000000) (hv : xs[i.toNat]? = some v) : V (ofRV (prim .popAt [.ref p, .int i] m)) Q = Q v (m.put p (.lst (xs.eraseIdx i.toNat))) := by
  show V (ofRV (match m.get p with
    | some (.lst xs) => if decide (0 ≤ i) && small xs then match xs[i.toNat]? with
        | some v => some (v, m.put p (.lst (xs.eraseIdx i.toNat)))
        | none => none
      else none
    | _ => none)) Q = _
  simp only [hp, decide_eq_true h0, small_of hz, hv]
  rfl
end
section
variable {call : Nat → List Val → Mem → Res} {σ : Sta} {m : Mem} {QS : Sta → Mem → Prop} {R : Val → Mem → Prop}
theorem W_forE {kd : ItK} {tg : Pt} {it : E} {b : S} (h : L (it.ev call σ m) fun vs m1 => ∃ (src : Src) (xs : List Val) (I : Nat → Sta → Mem → Prop), srcOf m1 kd vs = some src ∧ Gives m1 src xs (fun m' => ∃ i σ', I i σ' m') ∧ I 0 σ m1 ∧
    (∀ (i : Nat) (x : Val) (σ : Sta) (m : Mem), xs[i]? = some x → I i σ m → ∃ σ2, tg.set σ x = some σ2 ∧ W (b.ev call σ2 m) (I (i + 1)) R) ∧ ∀ σ m, I xs.length σ m → QS σ m) : W ((S.sfor kd tg it b).ev call σ m) QS R := by
  simp only [S.ev, W_onL]
  revert h
  generalize it.ev call σ m = r
  intro h
  cases r <;> first | exact h.elim | skip
  obtain ⟨src, xs, I, e, g, i0, step, fin⟩ := h
  simp only [L_vals, e]
  rw [g.size]
  refine turns_inv I (fun i σ m q => g.next m ⟨i, σ, q⟩ i) (fun i x σ m hx hI => ?_) fin xs.length 0 σ _ (by omega) i0
  obtain ⟨σ2, e2, w⟩ := step i x σ m hx hI
  simp only [e2]
  exact w
end
end Mi

/-! The defs of the law's text as terms; their checks. -/
namespace K98
open PySem PySem.Spec PyProof.Rows L2 Mi
def topS (i : Nat) : Stmt := PySem.Challenge.pw_passedtwice_k98_whole_small_words.main.body.getD i (.Pass ⟨0, 0, 0, 0⟩)
/-- _law_pot -/
abbrev s0 : Stmt := topS 26
def b0 : S := (.seq (.asg (.name 2) (.prim .add (.cons (.prim .mul (.cons (.cst (.int 1019)) (.cons (.var 1) .nil))) (.cons (.cst (.int 631)) .nil)))) (.seq (.sif (.prim .lt (.cons (.var 1) (.cons (.prim .len (.cons (.var 0) .nil)) .nil))) (.asg (.name 2) (.prim .abs (.cons (.prim .item (.cons (.var 0) (.cons (.var 1) .nil))) .nil))) .pass) (.ret (.prim .lstD (.cons (.prim .max2 (.cons (.cst (.int 0)) (.cons (.prim .sub (.cons (.var 2) (.cons (.prim .pow (.cons (.cst (.int 10)) (.cons (.cst (.int 18)) .nil))) .nil))) .nil))) (.cons (.prim .add (.cons (.prim .mod (.cons (.prim .int (.cons (.prim .add (.cons (.prim .add (.cons (.prim .mul (.cons (.prim .mod (.cons (.prim .int (.cons (.var 2) .nil)) (.cons (.cst (.int 2147483549)) .nil))) (.cons (.cst (.int 41201)) .nil))) (.cons (.prim .mul (.cons (.cst (.int 631)) (.cons (.var 1) .nil))) .nil))) (.cons (.cst (.int 59)) .nil))) .nil)) (.cons (.cst (.int 2147483563)) .nil))) (.cons (.cst (.int 1)) .nil))) .nil))))))
def n0 : List Str := ["script", "k", "cell"]
def p0 : List Str := ["script", "k"]
def f0 : Fn := ⟨2, 1, b0⟩
/-- _law_draw -/
abbrev s1 : Stmt := topS 27
def b1 : S := (.seq (.sif (.prim .gt (.cons (.prim .item (.cons (.var 0) (.cons (.cst (.int 0)) .nil))) (.cons (.cst (.int 0)) .nil))) (.seq (.asg (.two (.item (.var 0) (.cst (.int 0))) (.name 2)) (.prim .divmod (.cons (.prim .item (.cons (.var 0) (.cons (.cst (.int 0)) .nil))) (.cons (.var 1) .nil)))) (.ret (.var 2))) .pass) (.seq (.asg (.item (.var 0) (.cst (.int 1))) (.prim .mod (.cons (.prim .int (.cons (.prim .add (.cons (.prim .mul (.cons (.prim .item (.cons (.var 0) (.cons (.cst (.int 1)) .nil))) (.cons (.cst (.int 48271)) .nil))) (.cons (.cst (.int 1063)) .nil))) .nil)) (.cons (.cst (.int 2147483587)) .nil)))) (.ret (.prim .mod (.cons (.prim .int (.cons (.prim .fdiv (.cons (.prim .mod (.cons (.prim .int (.cons (.prim .mul (.cons (.prim .item (.cons (.var 0) (.cons (.cst (.int 1)) .nil))) (.cons (.prim .item (.cons (.var 0) (.cons (.cst (.int 1)) .nil))) .nil))) .nil)) (.cons (.cst (.int 2147483563)) .nil))) (.cons (.cst (.int 19)) .nil))) .nil)) (.cons (.var 1) .nil))))))
def n1 : List Str := ["pot", "many", "digit"]
def p1 : List Str := ["pot", "many"]
def f1 : Fn := ⟨2, 1, b1⟩
/-- grown -/
abbrev s2 : Stmt := topS 19
def b2 : S := (.seq (.asg (.name 2) (.prim .lstD .nil)) (.seq (.sfor .range1 (.one 3) (.cons (.var 1) .nil) (.sif (.and (.prim .lt (.cons (.meth .count (.var 0) (.cons (.var 3) .nil)) (.cons (.cst (.int 2)) .nil))) (.or (.prim .eq (.cons (.var 3) (.cons (.cst (.int 0)) .nil))) (.prim .in_ (.cons (.prim .sub (.cons (.var 3) (.cons (.cst (.int 1)) .nil))) (.cons (.var 0) .nil))))) (.expr (.meth .append (.var 2) (.cons (.prim .add (.cons (.var 0) (.cons (.prim .tupD (.cons (.var 3) .nil)) .nil))) .nil))) .pass)) (.ret (.var 2))))
def n2 : List Str := ["letters", "many", "found", "letter"]
def p2 : List Str := ["letters", "many"]
def f2 : Fn := ⟨2, 2, b2⟩
/-- named_words -/
abbrev s3 : Stmt := topS 20
def b3 : S := (.seq (.asg (.name 1) (.prim .lstD (.cons (.prim .tupD .nil) .nil))) (.seq (.sfor .range1 (.one 2) (.cons (.prim .mul (.cons (.cst (.int 2)) (.cons (.var 0) .nil))) .nil) (.seq (.asg (.name 3) (.prim .lstD .nil)) (.seq (.sfor .plain (.one 4) (.cons (.var 1) .nil) (.expr (.meth .extend (.var 3) (.cons (.call 2 [0, 1] (.cons (.var 4) (.cons (.var 0) .nil))) .nil)))) (.asg (.name 1) (.var 3))))) (.ret (.prim .sortT (.cons (.var 1) .nil)))))
def n3 : List Str := ["many", "found", "turn", "longer", "letters"]
def p3 : List Str := ["many"]
def f3 : Fn := ⟨1, 4, b3⟩
/-- relabelled -/
abbrev s4 : Stmt := topS 13
def b4 : S := (.seq (.par 1 2 (.prim .dkD .nil) (.prim .lstD .nil)) (.seq (.sfor .plain (.one 3) (.cons (.var 0) .nil) (.seq (.expr (.meth .setdefault (.var 1) (.cons (.var 3) (.cons (.prim .len (.cons (.var 1) .nil)) .nil)))) (.expr (.meth .append (.var 2) (.cons (.prim .item (.cons (.var 1) (.cons (.var 3) .nil))) .nil))))) (.ret (.prim .tuple (.cons (.var 2) .nil)))))
def n4 : List Str := ["letters", "names", "found", "letter"]
def p4 : List Str := ["letters"]
def f4 : Fn := ⟨1, 3, b4⟩
/-- turned_of -/
abbrev s5 : Stmt := topS 12
def b5 : S := (.ret (.prim .add (.cons (.prim (.slc true false) (.cons (.var 0) (.cons (.var 1) .nil))) (.cons (.prim (.slc false true) (.cons (.var 0) (.cons (.var 1) .nil))) .nil))))
def n5 : List Str := ["word", "position"]
def p5 : List Str := ["word", "position"]
def f5 : Fn := ⟨2, 0, b5⟩
/-- all_readings -/
abbrev s6 : Stmt := topS 14
def b6 : S := (.seq (.asg (.name 1) (.prim .lstD .nil)) (.seq (.sfor .plain (.one 2) (.cons (.prim .tupD (.cons (.var 0) (.cons (.prim .rev (.cons (.var 0) .nil)) .nil))) .nil) (.expr (.meth .extend (.var 1) (.cons (.lcomp [3] .range1 (.one 3) (.cons (.prim .max2 (.cons (.prim .len (.cons (.var 2) .nil)) (.cons (.cst (.int 1)) .nil))) .nil) .yes (.call 4 [0] (.cons (.call 5 [0, 1] (.cons (.var 2) (.cons (.var 3) .nil))) .nil))) .nil)))) (.ret (.var 1))))
def n6 : List Str := ["word", "found", "ring", "at"]
def p6 : List Str := ["word"]
def f6 : Fn := ⟨1, 3, b6⟩
/-- normal_of -/
abbrev s7 : Stmt := topS 15
def b7 : S := (.ret (.prim .minT (.cons (.call 6 [0] (.cons (.var 0) .nil)) .nil)))
def n7 : List Str := ["word"]
def p7 : List Str := ["word"]
def f7 : Fn := ⟨1, 0, b7⟩
/-- small_of -/
abbrev s8 : Stmt := topS 21
def b8 : S := (.ret (.lcomp [1] .plain (.one 1) (.cons (.call 3 [0] (.cons (.var 0) .nil)) .nil) (.prim .eq (.cons (.call 7 [0] (.cons (.var 1) .nil)) (.cons (.var 1) .nil))) (.var 1)))
def n8 : List Str := ["many", "word"]
def p8 : List Str := ["many"]
def f8 : Fn := ⟨1, 1, b8⟩
/-- is_integer -/
abbrev s9 : Stmt := topS 5
def b9 : S := (.ret (.and (.prim (.isinst .int) (.cons (.var 0) .nil)) (.not (.prim (.isinst .bool) (.cons (.var 0) .nil)))))
def n9 : List Str := ["value"]
def p9 : List Str := ["value"]
def f9 : Fn := ⟨1, 0, b9⟩
/-- is_count -/
abbrev s10 : Stmt := topS 6
def b10 : S := (.ret (.and (.call 9 [0] (.cons (.var 0) .nil)) (.prim .ge (.cons (.var 0) (.cons (.cst (.int 0)) .nil)))))
def n10 : List Str := ["value"]
def p10 : List Str := ["value"]
def f10 : Fn := ⟨1, 0, b10⟩
/-- want_many -/
abbrev s11 : Stmt := topS 8
def b11 : S := (.seq (.sif (.or (.not (.call 10 [0] (.cons (.var 0) .nil))) (.not (.chain .le .le (.var 1) (.var 0) (.var 2)))) .stuck .pass) (.ret (.var 0)))
def n11 : List Str := ["value", "least", "most"]
def p11 : List Str := ["value", "least", "most"]
def f11 : Fn := ⟨3, 0, b11⟩
/-- small_words -/
abbrev s12 : Stmt := topS 24
def b12 : S := (.ret (.call 8 [0] (.cons (.call 11 [0, 1, 2] (.cons (.var 0) (.cons (.cst (.int 0)) (.cons (.cst (.int 5)) .nil)))) .nil)))
def n12 : List Str := ["count"]
def p12 : List Str := ["count"]
def f12 : Fn := ⟨1, 0, b12⟩
/-- _law_shuffled -/
abbrev s13 : Stmt := topS 30
def b13 : S := (.seq (.par 2 3 (.prim .list (.cons (.var 1) .nil)) (.prim .lstD .nil)) (.seq (.swhile 1000 (.prim .ne (.cons (.var 2) (.cons (.prim .lstD .nil) .nil))) (.expr (.meth .append (.var 3) (.cons (.meth .popAt (.var 2) (.cons (.call 1 [0, 1] (.cons (.var 0) (.cons (.prim .len (.cons (.var 2) .nil)) .nil))) .nil)) .nil)))) (.ret (.var 3))))
def n13 : List Str := ["pot", "some", "left", "found"]
def p13 : List Str := ["pot", "some"]
def f13 : Fn := ⟨2, 2, b13⟩
/-- _law_pick -/
abbrev s14 : Stmt := topS 28
def b14 : S := (.ret (.prim .item (.cons (.var 1) (.cons (.call 1 [0, 1] (.cons (.var 0) (.cons (.prim .len (.cons (.var 1) .nil)) .nil))) .nil))))
def n14 : List Str := ["pot", "some"]
def p14 : List Str := ["pot", "some"]
def f14 : Fn := ⟨2, 0, b14⟩
/-- _law_joined -/
abbrev s15 : Stmt := topS 32
def b15 : S := (.seq (.asg (.name 3) (.prim .fdiv (.cons (.prim .len (.cons (.var 0) .nil)) (.cons (.cst (.int 2)) .nil)))) (.ret (.prim .add (.cons (.prim .add (.cons (.prim (.slc false true) (.cons (.var 0) (.cons (.var 2) .nil))) (.cons (.prim .tuple (.cons (.lcomp [4] .plain (.one 4) (.cons (.var 1) .nil) .yes (.prim .add (.cons (.var 3) (.cons (.var 4) .nil)))) .nil)) .nil))) (.cons (.prim (.slc true false) (.cons (.var 0) (.cons (.var 2) .nil))) .nil)))))
def n15 : List Str := ["one", "other", "at", "many", "letter"]
def p15 : List Str := ["one", "other", "at"]
def f15 : Fn := ⟨3, 2, b15⟩
/-- _law_clovers -/
abbrev s16 : Stmt := topS 33
def b16 : S := (.seq (.asg (.name 2) (.prim .tupD .nil)) (.seq (.sfor .range1 (.one 3) (.cons (.prim .add (.cons (.cst (.int 1)) (.cons (.call 1 [0, 1] (.cons (.var 0) (.cons (.cst (.int 3)) .nil))) .nil))) .nil) (.seq (.asg (.name 4) (.call 14 [0, 1] (.cons (.var 0) (.cons (.prim .lstD (.cons (.cst (.int 1)) (.cons (.cst (.int 1)) (.cons (.cst (.int 3)) (.cons (.cst (.int 3)) (.cons (.cst (.int 5)) .nil)))))) .nil)))) (.sif (.prim .le (.cons (.prim .add (.cons (.prim .fdiv (.cons (.prim .len (.cons (.var 2) .nil)) (.cons (.cst (.int 2)) .nil))) (.cons (.var 4) .nil))) (.cons (.var 1) .nil))) (.asg (.name 2) (.call 15 [0, 1, 2] (.cons (.var 2) (.cons (.prim .tuple (.cons (.prim .mul (.cons (.prim .listRange (.cons (.var 4) .nil)) (.cons (.cst (.int 2)) .nil))) .nil)) (.cons (.call 1 [0, 1] (.cons (.var 0) (.cons (.prim .add (.cons (.prim .len (.cons (.var 2) .nil)) (.cons (.cst (.int 1)) .nil))) .nil))) .nil))))) .pass))) (.seq (.asg (.name 5) (.call 13 [0, 1] (.cons (.var 0) (.cons (.prim .listRange (.cons (.prim .fdiv (.cons (.prim .len (.cons (.var 2) .nil)) (.cons (.cst (.int 2)) .nil))) .nil)) .nil)))) (.ret (.prim .tuple (.cons (.lcomp [6] .plain (.one 6) (.cons (.var 2) .nil) .yes (.prim .item (.cons (.var 5) (.cons (.var 6) .nil)))) .nil))))))
def n16 : List Str := ["pot", "most", "word", "turn", "many", "names", "letter"]
def p16 : List Str := ["pot", "most"]
def f16 : Fn := ⟨2, 5, b16⟩
/-- _law_any -/
abbrev s17 : Stmt := topS 31
def b17 : S := (.seq (.asg (.name 2) (.call 1 [0, 1] (.cons (.var 0) (.cons (.prim .add (.cons (.var 1) (.cons (.cst (.int 1)) .nil))) .nil)))) (.ret (.prim .tuple (.cons (.call 13 [0, 1] (.cons (.var 0) (.cons (.prim .mul (.cons (.prim .listRange (.cons (.var 2) .nil)) (.cons (.cst (.int 2)) .nil))) .nil))) .nil))))
def n17 : List Str := ["pot", "most", "many"]
def p17 : List Str := ["pot", "most"]
def f17 : Fn := ⟨2, 1, b17⟩
/-- _law_word -/
abbrev s18 : Stmt := topS 34
def b18 : S := (.ret (.ite (.prim .eq (.cons (.call 1 [0, 1] (.cons (.var 0) (.cons (.cst (.int 2)) .nil))) (.cons (.cst (.int 0)) .nil))) (.call 16 [0, 1] (.cons (.var 0) (.cons (.var 1) .nil))) (.call 17 [0, 1] (.cons (.var 0) (.cons (.var 1) .nil)))))
def n18 : List Str := ["pot", "most"]
def p18 : List Str := ["pot", "most"]
def f18 : Fn := ⟨2, 0, b18⟩
/-- _law_named -/
abbrev s19 : Stmt := topS 29
def b19 : S := (.seq (.par 1 2 (.prim .dkD .nil) (.prim .lstD .nil)) (.seq (.sfor .plain (.one 3) (.cons (.var 0) .nil) (.seq (.sif (.prim .notIn (.cons (.var 3) (.cons (.var 1) .nil))) (.asg (.item (.var 1) (.var 3)) (.prim .len (.cons (.var 1) .nil))) .pass) (.expr (.meth .append (.var 2) (.cons (.prim .item (.cons (.var 1) (.cons (.var 3) .nil))) .nil))))) (.ret (.prim .tuple (.cons (.var 2) .nil)))))
def n19 : List Str := ["letters", "names", "found", "letter"]
def p19 : List Str := ["letters"]
def f19 : Fn := ⟨1, 3, b19⟩
/-- _law_views -/
abbrev s20 : Stmt := topS 35
def b20 : S := (.seq (.asg (.name 1) (.ite (.prim .eq (.cons (.var 0) (.cons (.prim .tupD .nil) .nil))) (.prim .lstD (.cons (.prim .tupD .nil) .nil)) (.prim .lstD .nil))) (.seq (.sfor .plain (.one 2) (.cons (.prim .tupD (.cons (.var 0) (.cons (.prim .rev (.cons (.var 0) .nil)) .nil))) .nil) (.expr (.meth .extend (.var 1) (.cons (.lcomp [3] .range1 (.one 3) (.cons (.prim .len (.cons (.var 2) .nil)) .nil) .yes (.call 19 [0] (.cons (.prim .add (.cons (.prim (.slc true false) (.cons (.var 2) (.cons (.var 3) .nil))) (.cons (.prim (.slc false true) (.cons (.var 2) (.cons (.var 3) .nil))) .nil))) .nil))) .nil)))) (.ret (.prim .ssetT (.cons (.var 1) .nil)))))
def n20 : List Str := ["word", "found", "ring", "at"]
def p20 : List Str := ["word"]
def f20 : Fn := ⟨1, 3, b20⟩
/-- is_below -/
abbrev s21 : Stmt := topS 7
def b21 : S := (.ret (.and (.call 10 [0] (.cons (.var 0) .nil)) (.prim .lt (.cons (.var 0) (.cons (.var 1) .nil)))))
def n21 : List Str := ["value", "many"]
def p21 : List Str := ["value", "many"]
def f21 : Fn := ⟨2, 0, b21⟩
/-- is_word_of -/
abbrev s22 : Stmt := topS 11
def b22 : S := (.seq (.sif (.or (.not (.prim (.isinst .tuple) (.cons (.var 0) .nil))) (.or (.prim .eq (.cons (.prim .mod (.cons (.prim .len (.cons (.var 0) .nil)) (.cons (.cst (.int 2)) .nil))) (.cons (.cst (.int 1)) .nil))) (.prim .gt (.cons (.prim .len (.cons (.var 0) .nil)) (.cons (.prim .mul (.cons (.cst (.int 2)) (.cons (.cst (.int 10)) .nil))) .nil))))) (.ret (.cst (.bl false))) .pass) (.seq (.asg (.name 1) (.prim .fdiv (.cons (.prim .len (.cons (.var 0) .nil)) (.cons (.cst (.int 2)) .nil)))) (.ret (.and (.prim .all (.cons (.lcomp [2] .plain (.one 2) (.cons (.var 0) .nil) .yes (.call 21 [0, 1] (.cons (.var 2) (.cons (.var 1) .nil)))) .nil)) (.prim .all (.cons (.lcomp [3] .range1 (.one 3) (.cons (.var 1) .nil) .yes (.prim .eq (.cons (.meth .count (.var 0) (.cons (.var 3) .nil)) (.cons (.cst (.int 2)) .nil)))) .nil))))))
def n22 : List Str := ["value", "many", "letter", "at"]
def p22 : List Str := ["value"]
def f22 : Fn := ⟨1, 3, b22⟩
/-- want_word -/
abbrev s23 : Stmt := topS 16
def b23 : S := (.seq (.sif (.not (.call 22 [0] (.cons (.var 0) .nil))) .stuck .pass) (.ret (.var 0)))
def n23 : List Str := ["value"]
def p23 : List Str := ["value"]
def f23 : Fn := ⟨1, 0, b23⟩
/-- least_view -/
abbrev s24 : Stmt := topS 22
def b24 : S := (.ret (.call 7 [0] (.cons (.call 23 [0] (.cons (.var 0) .nil)) .nil)))
def n24 : List Str := ["word"]
def p24 : List Str := ["word"]
def f24 : Fn := ⟨1, 0, b24⟩
/-- all_views -/
abbrev s25 : Stmt := topS 23
def b25 : S := (.ret (.prim .ssetT (.cons (.call 6 [0] (.cons (.call 23 [0] (.cons (.var 0) .nil)) .nil)) .nil)))
def n25 : List Str := ["word"]
def p25 : List Str := ["word"]
def f25 : Fn := ⟨1, 0, b25⟩
/-- _law_all -/
abbrev s26 : Stmt := topS 36
def b26 : S := (.seq (.asg (.name 1) (.prim .lstD (.cons (.prim .tupD .nil) .nil))) (.seq (.sfor .range1 (.one 2) (.cons (.prim .mul (.cons (.cst (.int 2)) (.cons (.var 0) .nil))) .nil) (.seq (.asg (.name 3) (.prim .lstD .nil)) (.seq (.sfor .plain (.one 4) (.cons (.var 1) .nil) (.sfor .range1 (.one 5) (.cons (.var 0) .nil) (.sif (.and (.prim .lt (.cons (.meth .count (.var 4) (.cons (.var 5) .nil)) (.cons (.cst (.int 2)) .nil))) (.prim .eq (.cons (.call 19 [0] (.cons (.prim .add (.cons (.var 4) (.cons (.prim .tupD (.cons (.var 5) .nil)) .nil))) .nil)) (.cons (.prim .add (.cons (.var 4) (.cons (.prim .tupD (.cons (.var 5) .nil)) .nil))) .nil)))) (.expr (.meth .append (.var 3) (.cons (.prim .add (.cons (.var 4) (.cons (.prim .tupD (.cons (.var 5) .nil)) .nil))) .nil))) .pass))) (.asg (.name 1) (.var 3))))) (.ret (.var 1))))
def n26 : List Str := ["many", "found", "turn", "longer", "letters", "letter"]
def p26 : List Str := ["many"]
def f26 : Fn := ⟨1, 5, b26⟩
/-- law -/
abbrev s27 : Stmt := topS 37
def b27 : S := (.seq (.asg (.name 1) (.call 0 [0, 1] (.cons (.var 0) (.cons (.cst (.int 0)) .nil)))) (.seq (.asg (.name 2) (.call 1 [0, 1] (.cons (.var 1) (.cons (.cst (.int 5)) .nil)))) (.seq (.asg (.name 3) (.call 12 [0] (.cons (.var 2) .nil))) (.seq (.asg (.name 4) (.prim .ssetT (.cons (.lcomp [6] .plain (.one 6) (.cons (.call 26 [0] (.cons (.var 2) .nil)) .nil) .yes (.prim .item (.cons (.call 20 [0] (.cons (.var 6) .nil)) (.cons (.cst (.int 0)) .nil)))) .nil))) (.seq (.sif (.or (.prim .ne (.cons (.prim .repr (.cons (.prim .lstD (.cons (.var 3) (.cons (.call 12 [0] (.cons (.var 2) .nil)) .nil))) .nil)) (.cons (.prim .repr (.cons (.prim .lstD (.cons (.var 4) (.cons (.var 4) .nil))) .nil)) .nil))) (.prim .ne (.cons (.prim .len (.cons (.var 3) .nil)) (.cons (.prim .item (.cons (.prim .lstD (.cons (.cst (.int 1)) (.cons (.cst (.int 1)) (.cons (.cst (.int 2)) (.cons (.cst (.int 5)) (.cons (.cst (.int 17)) .nil)))))) (.cons (.var 2) .nil))) .nil)))) (.ret (.cst (.bl false))) .pass) (.seq (.sfor .range1 (.one 5) (.cons (.cst (.int 4)) .nil) (.seq (.asg (.name 6) (.call 18 [0, 1] (.cons (.var 1) (.cons (.cst (.int 8)) .nil)))) (.seq (.asg (.name 7) (.call 20 [0] (.cons (.var 6) .nil))) (.seq (.asg (.name 8) (.prim .lstD (.cons (.call 24 [0] (.cons (.var 6) .nil)) (.cons (.call 25 [0] (.cons (.var 6) .nil)) (.cons (.call 24 [0] (.cons (.var 6) .nil)) (.cons (.call 25 [0] (.cons (.var 6) .nil)) .nil)))))) (.seq (.sif (.prim .ne (.cons (.prim .repr (.cons (.var 8) .nil)) (.cons (.prim .repr (.cons (.prim .mul (.cons (.prim .lstD (.cons (.prim .item (.cons (.var 7) (.cons (.cst (.int 0)) .nil))) (.cons (.var 7) .nil))) (.cons (.cst (.int 2)) .nil))) .nil)) .nil))) (.ret (.cst (.bl false))) .pass) (.seq (.asg (.name 9) (.call 17 [0, 1] (.cons (.var 1) (.cons (.cst (.int 4)) .nil)))) (.sif (.or (.prim .notIn (.cons (.call 24 [0] (.cons (.var 9) .nil)) (.cons (.call 12 [0] (.cons (.prim .fdiv (.cons (.prim .len (.cons (.var 9) .nil)) (.cons (.cst (.int 2)) .nil))) .nil)) .nil))) (.prim .ne (.cons (.call 24 [0] (.cons (.call 24 [0] (.cons (.var 9) .nil)) .nil)) (.cons (.call 24 [0] (.cons (.var 9) .nil)) .nil)))) (.ret (.cst (.bl false))) .pass))))))) (.ret (.prim .eq (.cons (.lcomp [6] .plain (.one 6) (.cons (.var 3) .nil) (.prim .ne (.cons (.call 24 [0] (.cons (.var 6) .nil)) (.cons (.var 6) .nil))) (.var 6)) (.cons (.prim .lstD .nil) .nil))))))))))
def n27 : List Str := ["script", "pot", "many", "some", "due", "turn", "word", "views", "told", "other"]
def p27 : List Str := ["script"]
def f27 : Fn := ⟨1, 9, b27⟩
def P : List Fn := [f0, f1, f2, f3, f4, f5, f6, f7, f8, f9, f10, f11, f12, f13, f14, f15, f16, f17, f18, f19, f20, f21, f22, f23, f24, f25, f26, f27]
def bsL : List Str := ["abs", "all", "bool", "divmod", "int", "isinstance", "len", "list", "max", "min", "range", "repr", "set", "sorted", "tuple"]
def nmL : List Str := ["_law_pot", "_law_draw", "grown", "named_words", "relabelled", "turned_of", "all_readings", "normal_of", "small_of", "is_integer", "is_count", "want_many", "small_words", "_law_shuffled", "_law_pick", "_law_joined", "_law_clovers", "_law_any", "_law_word", "_law_named", "_law_views", "is_below", "is_word_of", "want_word", "least_view", "all_views", "_law_all", "law"]
def sgL : List (Nat × Nat × List Str × List Nat) := [(0, 2, [], [0, 1]), (1, 2, [], [0, 1]), (2, 2, [], [0, 1]), (3, 1, [], [0]), (4, 1, [], [0]), (5, 2, [], [0, 1]), (6, 1, [], [0]), (7, 1, [], [0]), (8, 1, [], [0]), (9, 1, [], [0]), (10, 1, [], [0]), (11, 3, [], [0, 1, 2]), (12, 0, ["count"], [0]), (12, 1, [], [0]), (13, 2, [], [0, 1]), (14, 2, [], [0, 1]), (15, 3, [], [0, 1, 2]), (16, 2, [], [0, 1]), (17, 2, [], [0, 1]), (18, 2, [], [0, 1]), (19, 1, [], [0]), (20, 1, [], [0]), (21, 2, [], [0, 1]), (22, 1, [], [0]), (23, 1, [], [0]), (24, 0, ["word"], [0]), (24, 1, [], [0]), (25, 0, ["word"], [0]), (25, 1, [], [0]), (26, 1, [], [0])]
def gsL : List (Str × Val) := [("MOST_LETTERS", (.int 10)), ("MOST_SMALL", (.int 5))]
def CK : Ck := ⟨[], bsL, nmL, sgL, gsL⟩
def psf (i : Nat) : List Str := [p0, p1, p2, p3, p4, p5, p6, p7, p8, p9, p10, p11, p12, p13, p14, p15, p16, p17, p18, p19, p20, p21, p22, p23, p24, p25, p26, p27].getD i []
theorem c0 : chkB { CK with N := n0 } (defScope s0) b0 (defBody s0) = true := by decide +kernel
theorem sc0 : FnScope n0 p0 (defScope s0) := ⟨rfl, rfl, rfl, by decide +kernel, rfl, by decide +kernel, by decide +kernel⟩
theorem c1 : chkB { CK with N := n1 } (defScope s1) b1 (defBody s1) = true := by decide +kernel
theorem sc1 : FnScope n1 p1 (defScope s1) := ⟨rfl, rfl, rfl, by decide +kernel, rfl, by decide +kernel, by decide +kernel⟩
theorem c2 : chkB { CK with N := n2 } (defScope s2) b2 (defBody s2) = true := by decide +kernel
theorem sc2 : FnScope n2 p2 (defScope s2) := ⟨rfl, rfl, rfl, by decide +kernel, rfl, by decide +kernel, by decide +kernel⟩
theorem c3 : chkB { CK with N := n3 } (defScope s3) b3 (defBody s3) = true := by decide +kernel
theorem sc3 : FnScope n3 p3 (defScope s3) := ⟨rfl, rfl, rfl, by decide +kernel, rfl, by decide +kernel, by decide +kernel⟩
theorem c4 : chkB { CK with N := n4 } (defScope s4) b4 (defBody s4) = true := by decide +kernel
theorem sc4 : FnScope n4 p4 (defScope s4) := ⟨rfl, rfl, rfl, by decide +kernel, rfl, by decide +kernel, by decide +kernel⟩
theorem c5 : chkB { CK with N := n5 } (defScope s5) b5 (defBody s5) = true := by decide +kernel
theorem sc5 : FnScope n5 p5 (defScope s5) := ⟨rfl, rfl, rfl, by decide +kernel, rfl, by decide +kernel, by decide +kernel⟩
theorem c6 : chkB { CK with N := n6 } (defScope s6) b6 (defBody s6) = true := by decide +kernel
theorem sc6 : FnScope n6 p6 (defScope s6) := ⟨rfl, rfl, rfl, by decide +kernel, rfl, by decide +kernel, by decide +kernel⟩
theorem c7 : chkB { CK with N := n7 } (defScope s7) b7 (defBody s7) = true := by decide +kernel
theorem sc7 : FnScope n7 p7 (defScope s7) := ⟨rfl, rfl, rfl, by decide +kernel, rfl, by decide +kernel, by decide +kernel⟩
theorem c8 : chkB { CK with N := n8 } (defScope s8) b8 (defBody s8) = true := by decide +kernel
theorem sc8 : FnScope n8 p8 (defScope s8) := ⟨rfl, rfl, rfl, by decide +kernel, rfl, by decide +kernel, by decide +kernel⟩
theorem c9 : chkB { CK with N := n9 } (defScope s9) b9 (defBody s9) = true := by decide +kernel
theorem sc9 : FnScope n9 p9 (defScope s9) := ⟨rfl, rfl, rfl, by decide +kernel, rfl, by decide +kernel, by decide +kernel⟩
theorem c10 : chkB { CK with N := n10 } (defScope s10) b10 (defBody s10) = true := by decide +kernel
theorem sc10 : FnScope n10 p10 (defScope s10) := ⟨rfl, rfl, rfl, by decide +kernel, rfl, by decide +kernel, by decide +kernel⟩
theorem c11 : chkB { CK with N := n11 } (defScope s11) b11 (defBody s11) = true := by decide +kernel
theorem sc11 : FnScope n11 p11 (defScope s11) := ⟨rfl, rfl, rfl, by decide +kernel, rfl, by decide +kernel, by decide +kernel⟩
theorem c12 : chkB { CK with N := n12 } (defScope s12) b12 (defBody s12) = true := by decide +kernel
theorem sc12 : FnScope n12 p12 (defScope s12) := ⟨rfl, rfl, rfl, by decide +kernel, rfl, by decide +kernel, by decide +kernel⟩
theorem c13 : chkB { CK with N := n13 } (defScope s13) b13 (defBody s13) = true := by decide +kernel
theorem sc13 : FnScope n13 p13 (defScope s13) := ⟨rfl, rfl, rfl, by decide +kernel, rfl, by decide +kernel, by decide +kernel⟩
theorem c14 : chkB { CK with N := n14 } (defScope s14) b14 (defBody s14) = true := by decide +kernel
theorem sc14 : FnScope n14 p14 (defScope s14) := ⟨rfl, rfl, rfl, by decide +kernel, rfl, by decide +kernel, by decide +kernel⟩
theorem c15 : chkB { CK with N := n15 } (defScope s15) b15 (defBody s15) = true := by decide +kernel
theorem sc15 : FnScope n15 p15 (defScope s15) := ⟨rfl, rfl, rfl, by decide +kernel, rfl, by decide +kernel, by decide +kernel⟩
theorem c16 : chkB { CK with N := n16 } (defScope s16) b16 (defBody s16) = true := by decide +kernel
theorem sc16 : FnScope n16 p16 (defScope s16) := ⟨rfl, rfl, rfl, by decide +kernel, rfl, by decide +kernel, by decide +kernel⟩
theorem c17 : chkB { CK with N := n17 } (defScope s17) b17 (defBody s17) = true := by decide +kernel
theorem sc17 : FnScope n17 p17 (defScope s17) := ⟨rfl, rfl, rfl, by decide +kernel, rfl, by decide +kernel, by decide +kernel⟩
theorem c18 : chkB { CK with N := n18 } (defScope s18) b18 (defBody s18) = true := by decide +kernel
theorem sc18 : FnScope n18 p18 (defScope s18) := ⟨rfl, rfl, rfl, by decide +kernel, rfl, by decide +kernel, by decide +kernel⟩
theorem c19 : chkB { CK with N := n19 } (defScope s19) b19 (defBody s19) = true := by decide +kernel
theorem sc19 : FnScope n19 p19 (defScope s19) := ⟨rfl, rfl, rfl, by decide +kernel, rfl, by decide +kernel, by decide +kernel⟩
theorem c20 : chkB { CK with N := n20 } (defScope s20) b20 (defBody s20) = true := by decide +kernel
theorem sc20 : FnScope n20 p20 (defScope s20) := ⟨rfl, rfl, rfl, by decide +kernel, rfl, by decide +kernel, by decide +kernel⟩
theorem c21 : chkB { CK with N := n21 } (defScope s21) b21 (defBody s21) = true := by decide +kernel
theorem sc21 : FnScope n21 p21 (defScope s21) := ⟨rfl, rfl, rfl, by decide +kernel, rfl, by decide +kernel, by decide +kernel⟩
theorem c22 : chkB { CK with N := n22 } (defScope s22) b22 (defBody s22) = true := by decide +kernel
theorem sc22 : FnScope n22 p22 (defScope s22) := ⟨rfl, rfl, rfl, by decide +kernel, rfl, by decide +kernel, by decide +kernel⟩
theorem c23 : chkB { CK with N := n23 } (defScope s23) b23 (defBody s23) = true := by decide +kernel
theorem sc23 : FnScope n23 p23 (defScope s23) := ⟨rfl, rfl, rfl, by decide +kernel, rfl, by decide +kernel, by decide +kernel⟩
theorem c24 : chkB { CK with N := n24 } (defScope s24) b24 (defBody s24) = true := by decide +kernel
theorem sc24 : FnScope n24 p24 (defScope s24) := ⟨rfl, rfl, rfl, by decide +kernel, rfl, by decide +kernel, by decide +kernel⟩
theorem c25 : chkB { CK with N := n25 } (defScope s25) b25 (defBody s25) = true := by decide +kernel
theorem sc25 : FnScope n25 p25 (defScope s25) := ⟨rfl, rfl, rfl, by decide +kernel, rfl, by decide +kernel, by decide +kernel⟩
theorem c26 : chkB { CK with N := n26 } (defScope s26) b26 (defBody s26) = true := by decide +kernel
theorem sc26 : FnScope n26 p26 (defScope s26) := ⟨rfl, rfl, rfl, by decide +kernel, rfl, by decide +kernel, by decide +kernel⟩
theorem c27 : chkB { CK with N := n27 } (defScope s27) b27 (defBody s27) = true := by decide +kernel
theorem sc27 : FnScope n27 p27 (defScope s27) := ⟨rfl, rfl, rfl, by decide +kernel, rfl, by decide +kernel, by decide +kernel⟩
end K98

namespace K98
open Mi
structure PotOk (a b : Int) : Prop where
  a0 : 0 ≤ a
  b0 : 0 ≤ b
  b1 : b < 2147483587
abbrev one (p : Nat) : Nat → Prop := fun a => a = p
theorem okMul_l {i j : Int} (h1 : 0 ≤ i) (h2 : i < 18446744073709551616) : okMul i j = true := by
  unfold okMul
  rw [decide_eq_true (show -(2 ^ 64) < i by omega), decide_eq_true (show i < 2 ^ 64 by omega)]
  rfl
theorem draw_spec (j : Nat) {m : Mem} {p : Nat} {a b many : Int} (wf : WF m) (hp : m.get p = some (.lst [.int a, .int b])) (ok : PotOk a b) (h1 : 0 < many) (h2 : many < 1073741824) :
    V (run P (j + 1) 1 [.ref p, .int many] m) fun v m' => ∃ d a' b', v = .int d ∧ 0 ≤ d ∧ d < many ∧ m'.get p = some (.lst [.int a', .int b']) ∧ PotOk a' b' ∧ Fr (one p) m m' := by
  have plt := wf p _ hp
  refine V_run (F := f1) rfl rfl ?_
  simp (disch := omega) only [f1, b1, W_seq, W_sif, W_asg, W_two, W_item, W_name, W_ret', W_pass, V_var, V_cst, V_prim, V_call, L_nil, L_cons, V_ite, startS, List.map, List.cons_append, List.nil_append, List.replicate, getS, setS, VI_some, P_item hp, P_gt, atI_0, atI_1, truth_bl, VT_dec, P_divmod, P_mod, P_fdiv, P_mul, P_int, P_add, store_lst hp]
  refine ⟨fun h => ?_, fun h => ?_⟩
  · rw [store_lst hp (by decide) (Nat.lt_of_sub_eq_succ rfl)]
    refine V_close rfl ⟨_, a / many, b, rfl, Int.emod_nonneg _ (by omega), Int.emod_lt_of_pos _ h1, ?_, ⟨Int.ediv_nonneg ok.a0 (by omega), ok.b0, ok.b1⟩, ((Fr.refl (S := one p) wf).put (.inr (show p = p from rfl))).cut⟩
    rw [get_cut, if_pos plt, get_put_eq, hp]
    rfl
  · rw [store_lst hp (by decide) (Nat.lt_of_sub_eq_succ rfl)]
    generalize hx : (b * 48271 + 1063) % 2147483587 = x
    have x0 : 0 ≤ x := by omega
    have x1 : x < 2147483587 := by omega
    have hp' : (m.put p (.lst ([Val.int a, Val.int b].set (1 : Int).toNat (.int x)))).get p = some (.lst [.int a, .int x]) := by
      rw [get_put_eq, hp]
      rfl
    simp (disch := omega) only [P_item hp', atI_1, VI_some, P_mul, P_int, P_mod, P_fdiv]
    refine V_close rfl ⟨_, a, x, rfl, Int.emod_nonneg _ (by omega), Int.emod_lt_of_pos _ h1, ?_, ⟨ok.a0, x0, x1⟩, ((Fr.refl (S := one p) wf).put (.inr (show p = p from rfl))).cut⟩
    rw [get_cut, if_pos plt]
    exact hp'
end K98

namespace K98
open Mi L2
/-! ### renaming -/
def idx : List Int → Int → Nat
  | [], _ => 0
  | y :: r, x => if y = x then 0 else idx r x + 1
def relabA (seen : List Int) : List Int → List Int
  | [] => []
  | x :: r => if x ∈ seen then Int.ofNat (idx seen x) :: relabA seen r else Int.ofNat seen.length :: relabA (seen ++ [x]) r
def relab (w : List Int) : List Int := relabA [] w
def dkF : Nat → List Int → List (Key × Val)
  | _, [] => []
  | i, x :: r => (.inl x, .int (Int.ofNat i)) :: dkF (i + 1) r
theorem dkF_len : ∀ (i : Nat) (s : List Int), (dkF i s).length = s.length
  | _, [] => rfl
  | i, x :: r => by
    show (dkF (i + 1) r).length + 1 = r.length + 1
    rw [dkF_len (i + 1) r]
theorem dkF_snoc : ∀ (i : Nat) (s : List Int) (x : Int), dkF i (s ++ [x]) = dkF i s ++ [(.inl x, .int (Int.ofNat (i + s.length)))]
  | i, [], x => rfl
  | i, y :: r, x => by
    show (Sum.inl y, Val.int (Int.ofNat i)) :: dkF (i + 1) (r ++ [x]) = _
    rw [dkF_snoc (i + 1) r x]
    show _ = (Sum.inl y, Val.int (Int.ofNat i)) :: (dkF (i + 1) r ++ [(.inl x, .int (Int.ofNat (i + (r.length + 1))))])
    rw [show i + 1 + r.length = i + (r.length + 1) by omega]
theorem dkF_get : ∀ (i : Nat) (s : List Int) (x : Int), kget (dkF i s) (.inl x) = if x ∈ s then some (.int (Int.ofNat (i + idx s x))) else none
  | i, [], x => rfl
  | i, y :: r, x => by
    show (if (Sum.inl y : Key) = .inl x then some (Val.int (Int.ofNat i)) else kget (dkF (i + 1) r) (.inl x)) = _
    by_cases e : y = x
    · subst e
      rw [if_pos rfl, if_pos List.mem_cons_self]
      show _ = some (Val.int (Int.ofNat (i + (if y = y then 0 else idx r y + 1))))
      rw [if_pos rfl]
      rfl
    · rw [if_neg (fun z => e (by injection z)), dkF_get (i + 1) r x]
      by_cases h : x ∈ r
      · rw [if_pos h, if_pos (List.mem_cons_of_mem _ h)]
        show _ = some (Val.int (Int.ofNat (i + (if y = x then 0 else idx r x + 1))))
        rw [if_neg e, show i + 1 + idx r x = i + (idx r x + 1) by omega]
      · rw [if_neg h, if_neg (fun z => by
          rcases List.mem_cons.mp z with q | q
          · exact e q.symm
          · exact h q)]
theorem dkF_set {s : List Int} {x : Int} (h : x ∉ s) (v : Val) (hv : v = .int (Int.ofNat s.length)) : kset (dkF 0 s) (.inl x) v = dkF 0 (s ++ [x]) := by
  unfold kset
  rw [dkF_get, if_neg h, dkF_snoc, hv, Nat.zero_add]
  rfl
theorem relabA_snoc : ∀ (s l : List Int) (x : Int), ∃ s', (∀ y, y ∈ s' ↔ y ∈ s ∨ y ∈ l) ∧ relabA s (l ++ [x]) = relabA s l ++ relabA s' [x]
  | s, [], x => ⟨s, fun y => by simp, rfl⟩
  | s, y :: l, x => by
    show ∃ s', _ ∧ (if y ∈ s then Int.ofNat (idx s y) :: relabA s (l ++ [x]) else Int.ofNat s.length :: relabA (s ++ [y]) (l ++ [x])) = (if y ∈ s then Int.ofNat (idx s y) :: relabA s l else Int.ofNat s.length :: relabA (s ++ [y]) l) ++ relabA s' [x]
    by_cases h : y ∈ s
    · obtain ⟨s', h1, h2⟩ := relabA_snoc s l x
      refine ⟨s', fun z => ?_, ?_⟩
      · rw [h1]
        constructor
        · rintro (q | q)
          · exact .inl q
          · exact .inr (List.mem_cons_of_mem _ q)
        · rintro (q | q)
          · exact .inl q
          · rcases List.mem_cons.mp q with q | q
            · exact .inl (q ▸ h)
            · exact .inr q
      · rw [if_pos h, if_pos h, h2]
        rfl
    · obtain ⟨s', h1, h2⟩ := relabA_snoc (s ++ [y]) l x
      refine ⟨s', fun z => ?_, ?_⟩
      · rw [h1, List.mem_append, List.mem_singleton, List.mem_cons, or_assoc]
      · rw [if_neg h, if_neg h, h2]
        rfl
/-- the names met so far, in their order -/
def seenOf (s : List Int) : List Int → List Int
  | [] => s
  | x :: r => if x ∈ s then seenOf s r else seenOf (s ++ [x]) r
theorem seenOf_snoc : ∀ (s l : List Int) (x : Int), seenOf s (l ++ [x]) = if x ∈ seenOf s l then seenOf s l else seenOf s l ++ [x]
  | s, [], x => rfl
  | s, y :: l, x => by
    show (if y ∈ s then seenOf s (l ++ [x]) else seenOf (s ++ [y]) (l ++ [x])) = if x ∈ (if y ∈ s then seenOf s l else seenOf (s ++ [y]) l) then (if y ∈ s then seenOf s l else seenOf (s ++ [y]) l) else (if y ∈ s then seenOf s l else seenOf (s ++ [y]) l) ++ [x]
    by_cases h : y ∈ s
    · simp only [if_pos h]
      exact seenOf_snoc s l x
    · simp only [if_neg h]
      exact seenOf_snoc (s ++ [y]) l x
theorem relabA_snoc' : ∀ (s l : List Int) (x : Int), relabA s (l ++ [x]) = relabA s l ++ [if x ∈ seenOf s l then Int.ofNat (idx (seenOf s l) x) else Int.ofNat (seenOf s l).length]
  | s, [], x => by
    show relabA s [x] = [if x ∈ s then _ else _]
    show (if x ∈ s then [Int.ofNat (idx s x)] else [Int.ofNat s.length]) = _
    split <;> rfl
  | s, y :: l, x => by
    show (if y ∈ s then Int.ofNat (idx s y) :: relabA s (l ++ [x]) else Int.ofNat s.length :: relabA (s ++ [y]) (l ++ [x])) = (if y ∈ s then Int.ofNat (idx s y) :: relabA s l else Int.ofNat s.length :: relabA (s ++ [y]) l) ++ [if x ∈ (if y ∈ s then seenOf s l else seenOf (s ++ [y]) l) then Int.ofNat (idx (if y ∈ s then seenOf s l else seenOf (s ++ [y]) l) x) else Int.ofNat (if y ∈ s then seenOf s l else seenOf (s ++ [y]) l).length]
    by_cases h : y ∈ s
    · simp only [if_pos h]
      rw [relabA_snoc' s l x]
      rfl
    · simp only [if_neg h]
      rw [relabA_snoc' (s ++ [y]) l x]
      rfl
theorem idx_snoc : ∀ (s : List Int) (x : Int), x ∉ s → idx (s ++ [x]) x = s.length
  | [], x, _ => by
    show (if x = x then 0 else _) = 0
    rw [if_pos rfl]
  | y :: s, x, h => by
    show (if y = x then 0 else idx (s ++ [x]) x + 1) = s.length + 1
    rw [if_neg (fun (e : y = x) => h (e ▸ List.mem_cons_self)), idx_snoc s x fun z => h (List.mem_cons_of_mem _ z)]

theorem seenOf_mem : ∀ (s l : List Int) (x : Int), x ∈ seenOf s l ↔ x ∈ s ∨ x ∈ l
  | s, [], x => by
    show x ∈ s ↔ _
    simp
  | s, y :: l, x => by
    show x ∈ (if y ∈ s then seenOf s l else seenOf (s ++ [y]) l) ↔ _
    by_cases h : y ∈ s
    · rw [if_pos h, seenOf_mem s l x]
      constructor
      · rintro (q | q)
        · exact .inl q
        · exact .inr (List.mem_cons_of_mem _ q)
      · rintro (q | q)
        · exact .inl q
        · rcases List.mem_cons.mp q with q | q
          · exact .inl (q ▸ h)
          · exact .inr q
    · rw [if_neg h, seenOf_mem _ l x, List.mem_append, List.mem_singleton, List.mem_cons, or_assoc]
theorem seenOf_len : ∀ (s l : List Int), (seenOf s l).length ≤ s.length + l.length
  | s, [] => Nat.le_refl _
  | s, y :: l => by
    show (if y ∈ s then seenOf s l else seenOf (s ++ [y]) l).length ≤ s.length + (l.length + 1)
    have h1 := seenOf_len s l
    have h2 := seenOf_len (s ++ [y]) l
    rw [List.length_append] at h2
    have e : [y].length = 1 := rfl
    split <;> omega
theorem relab_len : ∀ (s l : List Int), (relabA s l).length = l.length
  | s, [] => rfl
  | s, y :: l => by
    show (if y ∈ s then Int.ofNat (idx s y) :: relabA s l else Int.ofNat s.length :: relabA (s ++ [y]) l).length = l.length + 1
    split
    · rw [List.length_cons, relab_len s l]
    · rw [List.length_cons, relab_len _ l]
theorem flats_ints : ∀ ns : List Int, Val.flats (ns.map Val.int) = true
  | [] => rfl
  | x :: r => by
    show (Val.flat (.int x) && Val.flats (r.map Val.int)) = true
    rw [flats_ints r]
    rfl
theorem flat_ints' (ns : List Int) : (tupI ns).flat = true := flats_ints ns
theorem relabelled_spec (j : Nat) {m : Mem} (wf : WF m) (w : List Int) (hw : w.length ≤ 1000) : V (run P (j + 1) 4 [tupI w] m) fun v m' => v = tupI (relab w) ∧ Fr no m m' := by
  refine V_run (F := f4) rfl rfl ?_
  simp (disch := (first | omega | (simp; done))) only [f4, b4, W_seq, W_par, V_prim, L_nil, P_dkD, P_lstD, startS, List.map, List.cons_append, List.nil_append, List.replicate, setS]
  refine W_for (w.map Val.int) (fun i σ m' => ∃ y, σ = [some (tupI w), some (.ref m.n), some (.ref (m.n + 1)), y] ∧ Fr no m m' ∧ m.n + 1 < m'.n ∧ m'.get m.n = some (.dk (dkF 0 (seenOf [] (w.take i)))) ∧ m'.get (m.n + 1) = some (.lst ((relab (w.take i)).map Val.int))) ?_ ?_ ?_
  · simp only [L_cons, L_nil, V_var, getS, VI_some]
    refine ⟨_, src_tup, gives_vals, none, rfl, ((Fr.refl wf).new).new, Nat.lt_succ_self _, ?_, get_new_same⟩
    rw [get_new_lt (Nat.lt_succ_self _)]
    exact get_new_same
  · intro i x σ m1 hx ⟨y, e, fr, lt, hd, hl⟩
    subst e
    rw [List.getElem?_map] at hx
    cases hi : w[i]? with
    | none => rw [hi] at hx; cases hx
    | some z =>
      rw [hi] at hx
      cases hx
      have tk : w.take (i + 1) = w.take i ++ [z] := by
        rw [List.take_add_one, hi]
        rfl
      refine ⟨_, rfl, ?_⟩
      have sl : (seenOf [] (w.take i)).length ≤ 1000 := by
        have := seenOf_len [] (w.take i)
        rw [List.length_take] at this
        have e : ([] : List Int).length = 0 := rfl
        omega
      have dl : (dkF 0 (seenOf [] (w.take i))).length ≤ 8000000 := by
        rw [dkF_len]
        omega
      have rl : ((relab (w.take i)).map Val.int).length ≤ 8000000 := by
        rw [List.length_map]
        unfold relab
        rw [relab_len, List.length_take]
        omega
      have done : ∀ {m2 : Mem}, Fr no m m2 → m.n + 1 < m2.n → m2.get m.n = some (.dk (dkF 0 (seenOf [] (w.take (i + 1))))) → m2.get (m.n + 1) = some (.lst ((relab (w.take i)).map Val.int)) →
          W ((S.expr (E.meth Prim.append (E.var 2) ((E.prim Prim.item ((E.var 1).cons ((E.var 3).cons E.nil))).cons E.nil))).ev (run P j) [some (tupI w), some (.ref m.n), some (.ref (m.n + 1)), some (.int z)] m2) (fun σ m' => ∃ y, σ = [some (tupI w), some (.ref m.n), some (.ref (m.n + 1)), y] ∧ Fr no m m' ∧ m.n + 1 < m'.n ∧ m'.get m.n = some (.dk (dkF 0 (seenOf [] (w.take (i + 1))))) ∧ m'.get (m.n + 1) = some (.lst ((relab (w.take (i + 1))).map Val.int))) fun v m' => Mi.V (close m.n v m') fun v m' => v = tupI (relab w) ∧ Fr no m m' := fun {m2} fr2 lt2 hd2 hl2 => by
        simp only [W_expr, V_meth, V_var, getS, VI_some, kind_lst hl2, VK_some, L_cons, L_nil, V_prim, P_itemD hd2 key_int, dkF_get, P_append hl2 rl]
        refine ⟨rfl, ?_⟩
        have hm : z ∈ seenOf [] (w.take (i + 1)) := by
          rw [tk, seenOf_mem]
          exact .inr (by simp)
        rw [if_pos hm, VI_some]
        refine ⟨_, rfl, fr2.put (.inl (by omega)), lt2, ?_, ?_⟩
        · rw [get_put_ne (by omega)]
          exact hd2
        · rw [get_put_eq, hl2]
          show some (HObj.lst _) = some (HObj.lst _)
          rw [tk]
          unfold relab
          rw [relabA_snoc', seenOf_snoc, List.map_append]
          by_cases h : z ∈ seenOf [] (w.take i)
          · rw [if_pos h, if_pos h, Nat.zero_add]
            rfl
          · rw [if_neg h, if_neg h, idx_snoc _ _ h, Nat.zero_add]
            rfl
      simp only [W_seq, setS]
      rw [W_expr]
      simp only [V_meth, V_var, getS, VI_some, kind_dk hd, VK_some, L_cons, L_nil, V_prim, P_lenD hd, P_setd hd key_int dl, dkF_get, VS_if, dkF_len]
      refine ⟨rfl, fun h => ?_, fun h => ?_⟩
      · refine done fr lt ?_ hl
        rw [hd, tk, seenOf_snoc, if_pos h]
      · refine done (fr.put (.inl (Nat.le_refl _))) lt ?_ ?_
        · rw [get_put_eq, hd, tk, seenOf_snoc, if_neg h, ← dkF_set h _ rfl]
          rfl
        · rw [get_put_ne (by omega)]
          exact hl
  · intro σ m1 ⟨y, e, fr, lt, hd, hl⟩
    subst e
    rw [List.length_map, List.take_length] at hl
    simp only [W_ret', V_prim, L_cons, L_nil, V_var, getS, VI_some, P_tupleL hl]
    exact V_close (flat_ints' _) ⟨rfl, fr.cut⟩
end K98

namespace K98
open Mi L2
theorem named_spec (j : Nat) {m : Mem} (wf : WF m) (w : List Int) (hw : w.length ≤ 1000) : V (run P (j + 1) 19 [tupI w] m) fun v m' => v = tupI (relab w) ∧ Fr no m m' := by
  refine V_run (F := f19) rfl rfl ?_
  simp (disch := (first | omega | (simp; done))) only [f19, b19, W_seq, W_par, V_prim, L_nil, P_dkD, P_lstD, startS, List.map, List.cons_append, List.nil_append, List.replicate, setS]
  refine W_for (w.map Val.int) (fun i σ m' => ∃ y, σ = [some (tupI w), some (.ref m.n), some (.ref (m.n + 1)), y] ∧ Fr no m m' ∧ m.n + 1 < m'.n ∧ m'.get m.n = some (.dk (dkF 0 (seenOf [] (w.take i)))) ∧ m'.get (m.n + 1) = some (.lst ((relab (w.take i)).map Val.int))) ?_ ?_ ?_
  · simp only [L_cons, L_nil, V_var, getS, VI_some]
    refine ⟨_, src_tup, gives_vals, none, rfl, ((Fr.refl wf).new).new, Nat.lt_succ_self _, ?_, get_new_same⟩
    rw [get_new_lt (Nat.lt_succ_self _)]
    exact get_new_same
  · intro i x σ m1 hx ⟨y, e, fr, lt, hd, hl⟩
    subst e
    rw [List.getElem?_map] at hx
    cases hi : w[i]? with
    | none => rw [hi] at hx; cases hx
    | some z =>
      rw [hi] at hx
      cases hx
      have tk : w.take (i + 1) = w.take i ++ [z] := by
        rw [List.take_add_one, hi]
        rfl
      refine ⟨_, rfl, ?_⟩
      have sl : (seenOf [] (w.take i)).length ≤ 1000 := by
        have := seenOf_len [] (w.take i)
        rw [List.length_take] at this
        have e : ([] : List Int).length = 0 := rfl
        omega
      have dl : (dkF 0 (seenOf [] (w.take i))).length ≤ 8000000 := by
        rw [dkF_len]
        omega
      have rl : ((relab (w.take i)).map Val.int).length ≤ 8000000 := by
        rw [List.length_map]
        unfold relab
        rw [relab_len, List.length_take]
        omega
      have done : ∀ {m2 : Mem}, Fr no m m2 → m.n + 1 < m2.n → m2.get m.n = some (.dk (dkF 0 (seenOf [] (w.take (i + 1))))) → m2.get (m.n + 1) = some (.lst ((relab (w.take i)).map Val.int)) →
          W ((S.expr (E.meth Prim.append (E.var 2) ((E.prim Prim.item ((E.var 1).cons ((E.var 3).cons E.nil))).cons E.nil))).ev (run P j) [some (tupI w), some (.ref m.n), some (.ref (m.n + 1)), some (.int z)] m2) (fun σ m' => ∃ y, σ = [some (tupI w), some (.ref m.n), some (.ref (m.n + 1)), y] ∧ Fr no m m' ∧ m.n + 1 < m'.n ∧ m'.get m.n = some (.dk (dkF 0 (seenOf [] (w.take (i + 1))))) ∧ m'.get (m.n + 1) = some (.lst ((relab (w.take (i + 1))).map Val.int))) fun v m' => Mi.V (close m.n v m') fun v m' => v = tupI (relab w) ∧ Fr no m m' := fun {m2} fr2 lt2 hd2 hl2 => by
        simp only [W_expr, V_meth, V_var, getS, VI_some, kind_lst hl2, VK_some, L_cons, L_nil, V_prim, P_itemD hd2 key_int, dkF_get, P_append hl2 rl]
        refine ⟨rfl, ?_⟩
        have hm : z ∈ seenOf [] (w.take (i + 1)) := by
          rw [tk, seenOf_mem]
          exact .inr (by simp)
        rw [if_pos hm, VI_some]
        refine ⟨_, rfl, fr2.put (.inl (by omega)), lt2, ?_, ?_⟩
        · rw [get_put_ne (by omega)]
          exact hd2
        · rw [get_put_eq, hl2]
          show some (HObj.lst _) = some (HObj.lst _)
          rw [tk]
          unfold relab
          rw [relabA_snoc', seenOf_snoc, List.map_append]
          by_cases h : z ∈ seenOf [] (w.take i)
          · rw [if_pos h, if_pos h, Nat.zero_add]
            rfl
          · rw [if_neg h, if_neg h, idx_snoc _ _ h, Nat.zero_add]
            rfl
      simp only [W_seq, setS]
      rw [W_sif]
      simp only [V_var, getS, VI_some, L_cons, L_nil, V_prim, P_notInD hd key_int, dkF_get, truth_bl]
      by_cases h : z ∈ seenOf [] (w.take i)
      · rw [if_pos h]
        refine done fr lt ?_ hl
        rw [hd, tk, seenOf_snoc, if_pos h]
      · rw [if_neg h]
        simp only [Option.isSome_none, Bool.not_false, VT_true, W_asg, V_prim, L_cons, L_nil, V_var, getS, VI_some, P_lenD hd, W_item, store_dk hd key_int dl, dkF_len]
        refine done (fr.put (.inl (Nat.le_refl _))) lt ?_ ?_
        · rw [get_put_eq, hd, tk, seenOf_snoc, if_neg h, ← dkF_set h _ rfl]
          rfl
        · rw [get_put_ne (by omega)]
          exact hl
  · intro σ m1 ⟨y, e, fr, lt, hd, hl⟩
    subst e
    rw [List.length_map, List.take_length] at hl
    simp only [W_ret', V_prim, L_cons, L_nil, V_var, getS, VI_some, P_tupleL hl]
    exact V_close (flat_ints' _) ⟨rfl, fr.cut⟩

/-! ### slices, ranges -/
theorem cut_from (xs : List Val) (a : Nat) : cut xs (some (Int.ofNat a)) none = xs.drop a := by
  unfold cut
  rw [show HT.sIx xs.length 0 (some (Int.ofNat a)) = min a xs.length from HT.sIx_nat _ _ _, HT.sIx_none]
  by_cases h : a ≤ xs.length
  · rw [Nat.min_eq_left h, List.take_of_length_le (by rw [List.length_drop]; exact Nat.le_refl _)]
  · rw [Nat.min_eq_right (by omega), Nat.sub_self, List.take_zero, List.drop_of_length_le (by omega)]
theorem cut_to (xs : List Val) (a : Nat) : cut xs none (some (Int.ofNat a)) = xs.take a := by
  unfold cut
  rw [show HT.sIx xs.length xs.length (some (Int.ofNat a)) = min a xs.length from HT.sIx_nat _ _ _, HT.sIx_none, List.drop_zero, Nat.sub_zero]
  by_cases h : a ≤ xs.length
  · rw [Nat.min_eq_left h]
  · rw [Nat.min_eq_right (by omega), List.take_of_length_le (Nat.le_refl _), List.take_of_length_le (by omega)]
theorem P_from {xs : List Val} {a : Nat} {m : Mem} {Q : Val → Mem → Prop} : Mi.V (ofRV (prim (.slc true false) [.tup xs, .int (Int.ofNat a)] m)) Q = Q (.tup (xs.drop a)) m := by
  show Q (.tup (cut xs (some (Int.ofNat a)) none)) m = _
  rw [cut_from]
theorem P_to {xs : List Val} {a : Nat} {m : Mem} {Q : Val → Mem → Prop} : Mi.V (ofRV (prim (.slc false true) [.tup xs, .int (Int.ofNat a)] m)) Q = Q (.tup (xs.take a)) m := by
  show Q (.tup (cut xs none (some (Int.ofNat a)))) m = _
  rw [cut_to]
theorem P_rev {xs : List Val} {m : Mem} {Q : Val → Mem → Prop} : Mi.V (ofRV (prim .rev [.tup xs] m)) Q = Q (.tup xs.reverse) m := rfl
theorem rangeV_eq : ∀ (n : Nat) (a : Int), rangeV a n = (List.range n).map fun i => Val.int (a + Int.ofNat i)
  | 0, _ => rfl
  | n + 1, a => by
    show Val.int a :: rangeV (a + 1) n = _
    rw [rangeV_eq n (a + 1), List.range_succ_eq_map, List.map_cons, List.map_map]
    congr 1
    · show Val.int a = Val.int (a + 0)
      rw [Int.add_zero]
    · refine List.map_congr_left fun i _ => ?_
      show Val.int (a + 1 + Int.ofNat i) = Val.int (a + Int.ofNat (i + 1))
      congr 1
      show a + 1 + (i : Int) = a + ((i + 1 : Nat) : Int)
      omega
theorem range_eq (n : Nat) : rangeV 0 n = (List.range n).map fun i => Val.int (Int.ofNat i) := by
  rw [rangeV_eq]
  refine List.map_congr_left fun i _ => ?_
  rw [Int.zero_add]
theorem range_at {n i : Nat} {x : Val} (h : ((List.range n).map fun i => Val.int (Int.ofNat i))[i]? = some x) : i < n ∧ x = .int (Int.ofNat i) := by
  rw [List.getElem?_map] at h
  by_cases hi : i < n
  · rw [List.getElem?_range hi] at h
    cases h
    exact ⟨hi, rfl⟩
  · rw [List.getElem?_eq_none (by rw [List.length_range]; omega)] at h
    cases h
/-! ### readings -/
def rot (w : List Int) (a : Nat) : List Int := w.drop a ++ w.take a
theorem rot_len (w : List Int) (a : Nat) : (rot w a).length = w.length := by
  unfold rot
  rw [List.length_append, List.length_drop, List.length_take]
  omega
theorem tup_rot (w : List Int) (a : Nat) : Val.tup ((w.map Val.int).drop a ++ (w.map Val.int).take a) = tupI (rot w a) := by
  unfold tupI rot
  rw [List.map_append, List.map_drop, List.map_take]
theorem turned_spec (j : Nat) {m : Mem} (wf : WF m) (w : List Int) (a : Nat) (hw : w.length ≤ 1000) : Mi.V (run P (j + 1) 5 [tupI w, .int (Int.ofNat a)] m) fun v m' => v = tupI (rot w a) ∧ Fr no m m' := by
  refine V_run (F := f5) rfl rfl ?_
  have h1 : ((w.map Val.int).drop a).length ≤ 8000000 := by
    rw [List.length_drop, List.length_map]
    omega
  have h2 : ((w.map Val.int).take a).length ≤ 8000000 := by
    rw [List.length_take, List.length_map]
    omega
  simp only [f5, b5, tupI, W_ret', V_prim, L_cons, L_nil, V_var, startS, List.map, List.cons_append, List.nil_append, List.replicate, getS, VI_some, P_from, P_to, P_addT h1 h2]
  rw [tup_rot]
  exact V_close (flat_ints' _) ⟨rfl, (Fr.refl wf).cut⟩
end K98

namespace K98
open Mi L2
def rds (w : List Int) : List (List Int) := (List.range (max w.length 1)).map fun a => relab (rot w a)
def allR (w : List Int) : List (List Int) := rds w ++ rds w.reverse
/-- a new list -/
def NewL (S : Nat → Prop) (m : Mem) (xs : List Val) (v : Val) (m' : Mem) : Prop := ∃ r, v = .ref r ∧ m'.get r = some (.lst xs) ∧ m.n ≤ r ∧ r < m'.n ∧ Fr S m m'
theorem V_yes {call : Nat → List Val → Mem → Res} {σ : Sta} {m : Mem} {Q : Val → Mem → Prop} : Mi.V (E.yes.ev call σ m) Q = Q (.bl true) m := rfl
def gR (u : List Int) : Val → Option Val
  | .int a => some (tupI (relab (rot u a.toNat)))
  | _ => none
theorem gR_map (u : List Int) (n : Nat) : ((List.range n).map fun i => Val.int (Int.ofNat i)).filterMap (gR u) = ((List.range n).map fun a => relab (rot u a)).map tupI := by
  rw [List.filterMap_map, List.map_map]
  induction (List.range n) with
  | nil => rfl
  | cons x r ih =>
    rw [List.filterMap_cons, List.map_cons, ih]
    rfl
theorem readings_ext (j : Nat) {m1 : Mem} {σ : Sta} (u : List Int) (hu : u.length ≤ 1000) {n : Nat} {E1 : E} {Q : Val → Mem → Prop} (hs : ∀ v, getS (setS (wipeS σ [3]) 3 v) 2 = some (tupI u)) (hv : ∀ v, getS (setS (wipeS σ [3]) 3 (some v)) 3 = some v) (wf : WF m1) (hn : n ≤ 1000)
    (hE : L (E1.ev (run P (j + 1)) σ m1) fun vs m2 => vs = [.int (Int.ofNat n)] ∧ m2 = m1)
    (fin : ∀ m', Fr no m1 m' → m1.n < m'.n → m'.get m1.n = some (.lst (((List.range n).map fun a => relab (rot u a)).map tupI)) → Q (.ref m1.n) m') :
    Mi.V ((E.lcomp [3] .range1 (.one 3) E1 .yes (.call 4 [0] (.cons (.call 5 [0, 1] (.cons (.var 2) (.cons (.var 3) .nil))) .nil))).ev (run P (j + 1)) σ m1) Q := by
  refine V_lcomp ((List.range n).map fun i => Val.int (Int.ofNat i)) (gR u) (by rw [List.length_map, List.length_range]; omega) ?_
  revert hE
  generalize E1.ev (run P (j + 1)) σ m1 = r
  intro hE
  cases r <;> first | exact hE.elim | skip
  obtain ⟨e1, e2⟩ := hE
  subst e1
  subst e2
  refine ⟨_, src_rg1 (by show (-1000000 : Int) ≤ (n : Int); omega) (by show (n : Int) ≤ 1000000; omega), ?_, wf, fun i x m' hx fr => ?_, fun m' fr lt hg => fin m' fr lt (by rw [hg, gR_map])⟩
  · rw [range_eq]
    exact gives_vals
  · obtain ⟨hi, rfl⟩ := range_at hx
    refine ⟨_, rfl, ?_⟩
    rw [V_yes]
    simp only [truth_bl, VT_true, V_call, L_cons, L_nil, V_var, hs, hv, VI_some, permL, List.getElem?_cons_zero, List.getElem?_cons_succ, VP_some]
    refine (turned_spec j fr.wf u i hu).mono fun v m2 ⟨e, f2⟩ => ?_
    subst e
    refine (relabelled_spec j f2.wf (rot u i) (by rw [rot_len]; exact hu)).mono fun v m3 ⟨e, f3⟩ => ?_
    subst e
    exact ⟨rfl, f2.trans f3⟩
theorem readings_spec (j : Nat) {m : Mem} (wf : WF m) (w : List Int) (hw : w.length ≤ 500) : Mi.V (run P (j + 2) 6 [tupI w] m) (NewL no m ((allR w).map tupI)) := by
  refine V_run (F := f6) rfl rfl ?_
  have l0 : ([] : List Val).length ≤ 8000000 := by decide
  simp only [f6, b6, W_seq, W_asg, V_prim, L_nil, P_lstD l0, W_name, startS, List.map, List.cons_append, List.nil_append, List.replicate, setS]
  refine W_for [tupI w, tupI w.reverse] (fun i σ m' => ∃ y, σ = [some (tupI w), some (.ref m.n), y, none] ∧ Fr no m m' ∧ m.n < m'.n ∧ m'.get m.n = some (.lst ((([rds w, rds w.reverse].take i).flatten).map tupI))) ?_ ?_ ?_
  · have l2 : [Val.tup (w.map Val.int), Val.tup (w.map Val.int).reverse].length ≤ 8000000 := by simp
    simp only [L_cons, L_nil, V_prim, V_var, getS, VI_some, tupI, P_rev, P_tupD l2]
    rw [← List.map_reverse]
    exact ⟨_, src_tup, gives_vals, none, rfl, (Fr.refl wf).new, Nat.lt_succ_self _, get_new_same⟩
  · intro i x σ m1 hx ⟨y, e, fr, lt, hl⟩
    subst e
    obtain ⟨u, hxu, hui, hul⟩ : ∃ u : List Int, x = tupI u ∧ [rds w, rds w.reverse][i]? = some (rds u) ∧ u.length ≤ 500 := by
      match i, hx with
      | 0, hx => cases hx; exact ⟨w, rfl, rfl, hw⟩
      | 1, hx => cases hx; exact ⟨w.reverse, rfl, rfl, by rw [List.length_reverse]; exact hw⟩
      | i + 2, hx => simp at hx
    subst hxu
    have tk : [rds w, rds w.reverse].take (i + 1) = [rds w, rds w.reverse].take i ++ [rds u] := by
      rw [List.take_add_one, hui]
      rfl
    have lr : ∀ u : List Int, u.length ≤ 500 → (rds u).length ≤ 500 := fun u h => by
      unfold rds
      rw [List.length_map, List.length_range]
      omega
    have ll : ((([rds w, rds w.reverse].take i).flatten).map tupI).length ≤ 8000000 := by
      rw [List.length_map]
      have h1 := lr w hw
      have h2 := lr w.reverse (by rw [List.length_reverse]; exact hw)
      match i with
      | 0 => simp
      | 1 => simp; omega
      | i + 2 => simp; omega
    refine ⟨_, rfl, ?_⟩
    simp only [setS, W_expr, V_meth, V_var, getS, VI_some, kind_lst hl, VK_some, L_cons, L_nil]
    refine ⟨rfl, readings_ext j u (by omega) (n := max u.length 1) (fun v => rfl) (fun v => rfl) fr.wf (by omega) ?_ fun m2 f2 lt2 hg => ?_⟩
    · simp only [L_cons, L_nil, V_prim, V_var, V_cst, getS, VI_some, tupI, P_lenT, P_max2]
      refine ⟨?_, trivial⟩
      rw [List.length_map]
      congr 2
      show (if (1 : Int) > (u.length : Int) then (1 : Int) else (u.length : Int)) = ((max u.length 1 : Nat) : Int)
      split <;> omega
    · have hl2 : m2.get m.n = _ := (f2.get _ lt id).trans hl
      rw [P_extend hl2 hg ll (by rw [List.length_map]; exact Nat.le_trans (lr u hul) (by decide))]
      refine ⟨_, rfl, (fr.trans f2).put (.inl (Nat.le_refl _)), Nat.lt_of_lt_of_le lt f2.le, ?_⟩
      rw [get_put_eq, hl2, tk, List.flatten_append, List.map_append]
      show some (HObj.lst _) = some (HObj.lst _)
      simp only [List.flatten_cons, List.flatten_nil, List.append_nil]
      rfl
  · intro σ m1 ⟨y, e, fr, lt, hl⟩
    subst e
    simp only [W_ret', V_var, getS, VI_some]
    refine V_close' ⟨_, rfl, ?_, Nat.le_refl _, lt, fr⟩
    rw [hl]
    unfold allR
    simp

theorem keysT_map : ∀ ks : List (List Int), keysT (ks.map tupI) = some ks
  | [] => rfl
  | k :: r => by
    rw [List.map_cons, tupI, keysT, intsOf_map]
    simp only [keysT_map r]
theorem lstAt_lst {m : Mem} {a : Nat} {xs : List Val} (h : m.get a = some (.lst xs)) : lstAt m a = some xs := by
  unfold lstAt
  rw [h]
theorem P_minT {m : Mem} {a : Nat} {k : List Int} {ks : List (List Int)} {Q : Val → Mem → Prop} (h : m.get a = some (.lst ((k :: ks).map tupI))) : Mi.V (ofRV (prim .minT [.ref a] m)) Q = Q (tupI (minK k ks)) m := by
  show Mi.V (ofRV (match lstAt m a with
    | some xs => match keysT xs with
      | some (k :: ks) => some (tupI (minK k ks), m)
      | _ => none
    | none => none)) Q = _
  rw [lstAt_lst h]
  simp only [keysT_map]
  rfl
theorem P_sset {m : Mem} {a : Nat} {ks : List (List Int)} {Q : Val → Mem → Prop} (h : m.get a = some (.lst (ks.map tupI))) (h1 : (sortU ks).length < 60) (h2 : ks.length ≤ 8000000) (h3 : (sortU ks).length < 2 ∨ ∀ k ∈ ks, k ≠ []) :
    Mi.V (ofRV (prim .ssetT [.ref a] m)) Q = Q (.ref m.n) (m.new (.lst ((sortU ks).map tupI))) := by
  show Mi.V (ofRV (match lstAt m a with
    | some xs => match keysT xs with
      | some ks => if Nat.blt (sortU ks).length 60 && small ks && (sortU ks).all fun k => !k.isEmpty || Nat.blt (sortU ks).length 2 then some (.ref m.n, m.new (.lst ((sortU ks).map tupI))) else none
      | none => none
    | none => none)) Q = _
  rw [lstAt_lst h]
  simp only [keysT_map]
  rw [if_pos]
  · rfl
  · rw [show Nat.blt (sortU ks).length 60 = true from Nat.ble_eq_true_of_le h1, small_of h2]
    refine List.all_eq_true.mpr fun k hk => ?_
    rcases h3 with q | q
    · rw [show Nat.blt (sortU ks).length 2 = true from Nat.ble_eq_true_of_le q, Bool.or_true]
    · have := q k ((sortU_mem ks k).mp hk)
      cases k with
      | nil => exact absurd rfl this
      | cons _ _ => rfl
def normal (w : List Int) : List Int := match allR w with
  | [] => []
  | k :: ks => minK k ks
theorem rds_cons (w : List Int) : ∃ k r, rds w = k :: r := by
  unfold rds
  have : max w.length 1 = (max w.length 1 - 1) + 1 := by omega
  rw [this, List.range_succ_eq_map, List.map_cons]
  exact ⟨_, _, rfl⟩
theorem allR_cons (w : List Int) : ∃ k r, allR w = k :: r := by
  obtain ⟨k, r, e⟩ := rds_cons w
  unfold allR
  rw [e]
  exact ⟨k, _, rfl⟩
theorem normal_spec (j : Nat) {m : Mem} (wf : WF m) (w : List Int) (hw : w.length ≤ 500) : Mi.V (run P (j + 3) 7 [tupI w] m) fun v m' => v = tupI (normal w) ∧ Fr no m m' := by
  refine V_run (F := f7) rfl rfl ?_
  simp only [f7, b7, W_ret', V_prim, V_call, L_cons, L_nil, V_var, startS, List.map, List.cons_append, List.nil_append, List.replicate, getS, VI_some, permL, List.getElem?_cons_zero, VP_some]
  refine (readings_spec j wf w hw).mono fun v m1 ⟨r, e, hg, h1, h2, fr⟩ => ?_
  subst e
  obtain ⟨k, ks, e⟩ := allR_cons w
  rw [e] at hg
  rw [P_minT hg]
  refine V_close (flat_ints' _) ⟨?_, fr.cut⟩
  unfold normal
  rw [e]
end K98

namespace K98
open Mi L2
/-! ### == of rows -/
theorem mapO_ints (h : List (Nat × HObj)) (n : Nat) : ∀ ns : List Int, mapO (dataF h (n + 1)) (ns.map Val.int) = some (ns.map PySem.PyData.int)
  | [] => rfl
  | x :: r => by
    have e : dataF h (n + 1) (.int x) = some (PySem.PyData.int x) := by unfold dataF; rfl
    rw [List.map_cons, mapO, e]
    simp only [mapO_ints h n r]
    rfl
theorem data_row (h : List (Nat × HObj)) (n : Nat) (ns : List Int) : dataF h (n + 2) (tupI ns) = some (intD ns) := by
  unfold dataF
  show (mapO (dataF h (n + 1)) (ns.map Val.int)).map PySem.PyData.tuple = _
  rw [mapO_ints]
  rfl
theorem eqvAll_ints : ∀ a b : List Int, PySem.PyData.eqvAll (a.map PySem.PyData.int) (b.map PySem.PyData.int) = decide (a = b)
  | [], [] => by simp [PySem.PyData.eqvAll]
  | [], y :: b => by simp [PySem.PyData.eqvAll]
  | x :: a, [] => by simp [PySem.PyData.eqvAll]
  | x :: a, y :: b => by
    rw [List.map_cons, List.map_cons, PySem.PyData.eqvAll, eqvAll_ints a b]
    have : PySem.PyData.eqv (.int x) (.int y) = decide (x = y) := by
      simp [PySem.PyData.eqv]
      exact Bool.eq_iff_iff.mpr (by simp)
    rw [this]
    by_cases h1 : x = y <;> by_cases h2 : a = b <;> simp [h1, h2]
theorem eqv_row (a b : List Int) : PySem.PyData.eqv (intD a) (intD b) = decide (a = b) := by
  unfold PySem.PyData.eqv
  exact eqvAll_ints a b
theorem lay_ints : ∀ ns : List Int, PySem.PyData.canLayAll0 (ns.map PySem.PyData.int) = true
  | [] => by simp [PySem.PyData.canLayAll0]
  | x :: r => by
    rw [List.map_cons, PySem.PyData.canLayAll0, lay_ints r]
    simp [PySem.PyData.canLay0]
theorem lay_row (ns : List Int) : (intD ns).canLay0 = true := by
  unfold PySem.PyData.canLay0
  exact lay_ints ns
theorem eq_rows {m : Mem} (a b : List Int) : eqData m (tupI a) (tupI b) = some (decide (a = b)) := by
  unfold eqData
  show (match m.data (tupI a), m.data (tupI b) with | some d, some e => if d.canLay0 && e.canLay0 then some (PySem.PyData.eqv d e) else none | _, _ => none) = _
  unfold Mem.data
  rw [data_row, data_row]
  simp only [lay_row, Bool.and_true, if_true, eqv_row]
/-! ### the law's views -/
def rdsL (w : List Int) : List (List Int) := (List.range w.length).map fun a => relab (rot w a)
def viewL (w : List Int) : List (List Int) := (if w = [] then [[]] else []) ++ (rdsL w ++ rdsL w.reverse)
def views (w : List Int) : List (List Int) := sortU (allR w)
theorem rds_eq {w : List Int} (h : w ≠ []) : rds w = rdsL w := by
  unfold rds rdsL
  have : 0 < w.length := List.length_pos_iff.mpr h
  rw [show max w.length 1 = w.length by omega]
theorem views_eq (w : List Int) : sortU (viewL w) = views w := by
  unfold views viewL allR
  by_cases h : w = []
  · subst h
    rfl
  · rw [if_neg h, rds_eq h, rds_eq (fun z => h (by simpa using z))]
    rfl
theorem sortU_le (l : List (List Int)) : (sortU l).length ≤ l.length := nodup_le (sortU_nodup l) fun x hx => (sortU_mem l x).mp hx
theorem rdsL_len (w : List Int) : (rdsL w).length = w.length := by
  unfold rdsL
  rw [List.length_map, List.length_range]
theorem rdsL_ne {w : List Int} (h : w ≠ []) : ∀ k ∈ rdsL w, k ≠ [] := fun k hk e => by
  unfold rdsL at hk
  obtain ⟨a, _, e2⟩ := List.mem_map.mp hk
  have := relab_len [] (rot w a)
  rw [show relabA [] (rot w a) = k from e2, e, rot_len] at this
  exact h (List.length_eq_zero_iff.mp this.symm)
theorem views_ext (j : Nat) {m1 : Mem} {σ : Sta} (u : List Int) (hu : u.length ≤ 1000) {E1 : E} {Q : Val → Mem → Prop} (hs : ∀ v, getS (setS (wipeS σ [3]) 3 v) 2 = some (tupI u)) (hv : ∀ v, getS (setS (wipeS σ [3]) 3 (some v)) 3 = some v) (wf : WF m1)
    (hE : L (E1.ev (run P (j + 1)) σ m1) fun vs m2 => vs = [.int (Int.ofNat u.length)] ∧ m2 = m1)
    (fin : ∀ m', Fr no m1 m' → m1.n < m'.n → m'.get m1.n = some (.lst ((rdsL u).map tupI)) → Q (.ref m1.n) m') :
    Mi.V ((E.lcomp [3] .range1 (.one 3) E1 .yes (.call 19 [0] (.cons (.prim .add (.cons (.prim (.slc true false) (.cons (.var 2) (.cons (.var 3) .nil))) (.cons (.prim (.slc false true) (.cons (.var 2) (.cons (.var 3) .nil))) .nil))) .nil))).ev (run P (j + 1)) σ m1) Q := by
  refine V_lcomp ((List.range u.length).map fun i => Val.int (Int.ofNat i)) (gR u) (by rw [List.length_map, List.length_range]; omega) ?_
  revert hE
  generalize E1.ev (run P (j + 1)) σ m1 = r
  intro hE
  cases r <;> first | exact hE.elim | skip
  obtain ⟨e1, e2⟩ := hE
  subst e1
  subst e2
  refine ⟨_, src_rg1 (by show (-1000000 : Int) ≤ (u.length : Int); omega) (by show (u.length : Int) ≤ 1000000; omega), ?_, wf, fun i x m' hx fr => ?_, fun m' fr lt hg => fin m' fr lt (by rw [hg, gR_map]; rfl)⟩
  · rw [range_eq]
    exact gives_vals
  · obtain ⟨hi, rfl⟩ := range_at hx
    refine ⟨_, rfl, ?_⟩
    rw [V_yes]
    have h1 : ((u.map Val.int).drop i).length ≤ 8000000 := by
      rw [List.length_drop, List.length_map]
      omega
    have h2 : ((u.map Val.int).take i).length ≤ 8000000 := by
      rw [List.length_take, List.length_map]
      omega
    simp only [truth_bl, VT_true, V_call, V_prim, L_cons, L_nil, V_var, hs, hv, VI_some, permL, List.getElem?_cons_zero, List.getElem?_cons_succ, VP_some]
    rw [tupI, P_from, P_to, P_addT h1 h2, tup_rot]
    refine (named_spec j fr.wf (rot u i) (by rw [rot_len]; exact hu)).mono fun v m3 ⟨e, f3⟩ => ?_
    subst e
    exact ⟨rfl, f3⟩
theorem views_spec (j : Nat) {m : Mem} (wf : WF m) (w : List Int) (hw : w.length ≤ 25) : Mi.V (run P (j + 2) 20 [tupI w] m) (NewL no m ((views w).map tupI)) := by
  refine V_run (F := f20) rfl rfl ?_
  have l0 : ([] : List Val).length ≤ 8000000 := by decide
  have start : ∀ {QS : Sta → Mem → Prop} {R : Val → Mem → Prop}, QS [some (tupI w), some (.ref m.n), none, none] (m.new (.lst (((if w = [] then [[]] else []) : List (List Int)).map tupI))) →
      W ((S.asg (.name 1) (.ite (.prim .eq (.cons (.var 0) (.cons (.prim .tupD .nil) .nil))) (.prim .lstD (.cons (.prim .tupD .nil) .nil)) (.prim .lstD .nil))).ev (run P (j + 1)) [some (tupI w), none, none, none] m) QS R := fun {QS R} h => by
    have l1 : [Val.tup []].length ≤ 8000000 := by simp
    simp only [W_asg, V_ite, V_prim, L_cons, L_nil, V_var, getS, VI_some, P_tupD l0]
    rw [P_eq, show eqData m (tupI w) (.tup []) = some (decide (w = [])) from eq_rows w []]
    simp only [VB_some, truth_bl, VT_dec, P_lstD l1, P_lstD l0, W_name, setS]
    exact ⟨fun e => by rw [if_pos e] at h; exact h, fun e => by rw [if_neg e] at h; exact h⟩
  simp only [f20, b20, startS, List.map, List.cons_append, List.nil_append, List.replicate]
  rw [W_seq]
  refine start ?_
  rw [W_seq]
  refine W_for [tupI w, tupI w.reverse] (fun i σ m' => ∃ y, σ = [some (tupI w), some (.ref m.n), y, none] ∧ Fr no m m' ∧ m.n < m'.n ∧ m'.get m.n = some (.lst (((if w = [] then [[]] else []) ++ ([rdsL w, rdsL w.reverse].take i).flatten).map tupI))) ?_ ?_ ?_
  · have l2 : [Val.tup (w.map Val.int), Val.tup (w.map Val.int).reverse].length ≤ 8000000 := by simp
    simp only [L_cons, L_nil, V_prim, V_var, getS, VI_some, tupI, P_rev, P_tupD l2]
    rw [← List.map_reverse]
    refine ⟨_, src_tup, gives_vals, none, rfl, (Fr.refl wf).new, Nat.lt_succ_self _, ?_⟩
    rw [get_new_same]
    simp
  · intro i x σ m1 hx ⟨y, e, fr, lt, hl⟩
    subst e
    obtain ⟨u, hxu, hui, hul⟩ : ∃ u : List Int, x = tupI u ∧ [rdsL w, rdsL w.reverse][i]? = some (rdsL u) ∧ u.length ≤ 25 := by
      match i, hx with
      | 0, hx => cases hx; exact ⟨w, rfl, rfl, hw⟩
      | 1, hx => cases hx; exact ⟨w.reverse, rfl, rfl, by rw [List.length_reverse]; exact hw⟩
      | i + 2, hx => simp at hx
    subst hxu
    have tk : [rdsL w, rdsL w.reverse].take (i + 1) = [rdsL w, rdsL w.reverse].take i ++ [rdsL u] := by
      rw [List.take_add_one, hui]
      rfl
    have ll : (((if w = [] then [[]] else []) ++ ([rdsL w, rdsL w.reverse].take i).flatten).map tupI).length ≤ 8000000 := by
      rw [List.length_map, List.length_append]
      have h1 := rdsL_len w
      have h2 := rdsL_len w.reverse
      rw [List.length_reverse] at h2
      have h3 : (if w = [] then [[]] else [] : List (List Int)).length ≤ 1 := by split <;> simp
      match i with
      | 0 => simp; omega
      | 1 => simp; omega
      | i + 2 => simp; omega
    refine ⟨_, rfl, ?_⟩
    simp only [setS, W_expr, V_meth, V_var, getS, VI_some, kind_lst hl, VK_some, L_cons, L_nil]
    refine ⟨rfl, views_ext j u (by omega) (fun v => rfl) (fun v => rfl) fr.wf ?_ fun m2 f2 lt2 hg => ?_⟩
    · simp only [L_cons, L_nil, V_prim, V_var, V_cst, getS, VI_some, tupI, P_lenT]
      rw [List.length_map]
      exact ⟨rfl, trivial⟩
    · have hl2 : m2.get m.n = _ := (f2.get _ lt id).trans hl
      rw [P_extend hl2 hg ll (by rw [List.length_map, rdsL_len]; omega)]
      refine ⟨_, rfl, (fr.trans f2).put (.inl (Nat.le_refl _)), Nat.lt_of_lt_of_le lt f2.le, ?_⟩
      rw [get_put_eq, hl2, tk, List.flatten_append, ← List.append_assoc, List.map_append (l₁ := _ ++ _)]
      show some (HObj.lst _) = some (HObj.lst _)
      simp only [List.flatten_cons, List.flatten_nil, List.append_nil]
  · intro σ m1 ⟨y, e, fr, lt, hl⟩
    subst e
    have hl' : m1.get m.n = some (.lst ((viewL w).map tupI)) := by
      rw [hl]
      unfold viewL
      simp
    have len : (viewL w).length ≤ 51 := by
      unfold viewL
      rw [List.length_append, List.length_append, rdsL_len, rdsL_len, List.length_reverse]
      split <;> simp <;> omega
    simp only [W_ret', V_prim, L_cons, L_nil, V_var, getS, VI_some]
    rw [P_sset hl' (by have := sortU_le (viewL w); omega) (by omega)]
    · rw [views_eq]
      exact V_close' ⟨_, rfl, get_new_same, Nat.le_of_lt lt, Nat.lt_succ_self _, fr.new⟩
    · by_cases h : w = []
      · subst h
        exact .inl (by decide)
      · refine .inr fun k hk => ?_
        unfold viewL at hk
        rw [if_neg h, List.nil_append] at hk
        rcases List.mem_append.mp hk with q | q
        · exact rdsL_ne h k q
        · exact rdsL_ne (fun z => h (by simpa using z)) k q
end K98

namespace K98
open Mi L2
/-! ### what is a word -/
structure Word (n : Nat) (w : List Int) : Prop where
  len : w.length = 2 * n
  rng : ∀ x ∈ w, 0 ≤ x ∧ x < n
  two : ∀ a : Nat, a < n → w.count (a : Int) = 2
theorem P_isInt {i : Int} {m : Mem} {Q : Val → Mem → Prop} : Mi.V (ofRV (prim (.isinst .int) [.int i] m)) Q = Q (.bl true) m := rfl
theorem P_isBool {i : Int} {m : Mem} {Q : Val → Mem → Prop} : Mi.V (ofRV (prim (.isinst .bool) [.int i] m)) Q = Q (.bl false) m := rfl
theorem P_isTup {xs : List Val} {m : Mem} {Q : Val → Mem → Prop} : Mi.V (ofRV (prim (.isinst .tuple) [.tup xs] m)) Q = Q (.bl true) m := rfl
theorem integer_spec (j : Nat) {m : Mem} (wf : WF m) (i : Int) : Mi.V (run P (j + 1) 9 [.int i] m) fun v m' => v = .bl true ∧ Fr no m m' := by
  refine V_run (F := f9) rfl rfl ?_
  simp only [f9, b9, W_ret', V_and, V_not, V_prim, L_cons, L_nil, V_var, startS, List.map, List.cons_append, List.nil_append, List.replicate, getS, VI_some, P_isInt, P_isBool, truth_bl, VT_true, VB_some]
  exact V_close rfl ⟨rfl, (Fr.refl wf).cut⟩
theorem count_spec (j : Nat) {m : Mem} (wf : WF m) (i : Int) : Mi.V (run P (j + 2) 10 [.int i] m) fun v m' => v = .bl (decide (0 ≤ i)) ∧ Fr no m m' := by
  refine V_run (F := f10) rfl rfl ?_
  simp only [f10, b10, W_ret', V_and, V_call, V_prim, V_cst, L_cons, L_nil, V_var, startS, List.map, List.cons_append, List.nil_append, List.replicate, getS, VI_some, permL, List.getElem?_cons_zero, VP_some]
  refine (integer_spec j wf i).mono fun v m1 ⟨e, f1⟩ => ?_
  subst e
  simp only [truth_bl, VT_true, P_ge]
  exact V_close rfl ⟨rfl, f1.cut⟩
theorem below_spec (j : Nat) {m : Mem} (wf : WF m) (i n : Int) : Mi.V (run P (j + 3) 21 [.int i, .int n] m) fun v m' => v = .bl (decide (0 ≤ i) && decide (i < n)) ∧ Fr no m m' := by
  refine V_run (F := f21) rfl rfl ?_
  simp only [f21, b21, W_ret', V_and, V_call, V_prim, V_cst, L_cons, L_nil, V_var, startS, List.map, List.cons_append, List.nil_append, List.replicate, getS, VI_some, permL, List.getElem?_cons_zero, VP_some]
  refine (count_spec j wf i).mono fun v m1 ⟨e, f1⟩ => ?_
  subst e
  simp only [truth_bl, P_lt]
  by_cases h : 0 ≤ i
  · rw [decide_eq_true h]
    simp only [VT_true, Bool.true_and]
    exact V_close rfl ⟨rfl, f1.cut⟩
  · rw [decide_eq_false h]
    simp only [VT_false, Bool.false_and]
    exact V_close rfl ⟨rfl, f1.cut⟩
theorem boolsOf_map : ∀ bs : List Bool, boolsOf (bs.map Val.bl) = some bs
  | [] => rfl
  | b :: r => by
    show (boolsOf (r.map Val.bl)).map (b :: ·) = _
    rw [boolsOf_map r]
    rfl
theorem P_all {m : Mem} {a : Nat} {bs : List Bool} {Q : Val → Mem → Prop} (h : m.get a = some (.lst (bs.map Val.bl))) : Mi.V (ofRV (prim .all [.ref a] m)) Q = Q (.bl (bs.all id)) m := by
  show Mi.V (ofRV (match m.get a with
    | some (.lst xs) => match boolsOf xs with
      | some bs => some (.bl (bs.all id), m)
      | none => none
    | _ => none)) Q = _
  rw [h]
  simp only [boolsOf_map]
  rfl
def gB (n : Int) : Val → Option Val
  | .int i => some (.bl (decide (0 ≤ i) && decide (i < n)))
  | _ => none
def gC (w : List Int) : Val → Option Val
  | .int i => some (.bl (decide ((Int.ofNat (w.count i)) = 2)))
  | _ => none
theorem gB_map (n : Int) : ∀ w : List Int, (w.map Val.int).filterMap (gB n) = (w.map fun i => decide (0 ≤ i) && decide (i < n)).map Val.bl
  | [] => rfl
  | x :: r => by
    rw [List.map_cons, List.filterMap_cons, List.map_cons, List.map_cons, ← gB_map n r]
    rfl
theorem gC_map (w : List Int) : ∀ l : List Nat, (l.map fun i => Val.int (Int.ofNat i)).filterMap (gC w) = (l.map fun i => decide (Int.ofNat (w.count (Int.ofNat i)) = 2)).map Val.bl
  | [] => rfl
  | x :: r => by
    rw [List.map_cons, List.filterMap_cons, List.map_cons, List.map_cons, ← gC_map w r]
    rfl
theorem word_spec (j : Nat) {m : Mem} (wf : WF m) {n : Nat} {w : List Int} (hw : Word n w) (hn : n ≤ 10) : Mi.V (run P (j + 4) 22 [tupI w] m) fun v m' => v = .bl true ∧ Fr no m m' := by
  refine V_run (F := f22) rfl rfl ?_
  have hl := hw.len
  have e1 : ¬ (Int.ofNat w.length % 2 = 1) := by
    show ¬ ((w.length : Int) % 2 = 1)
    omega
  have e2 : ¬ ((2 : Int) * 10 < Int.ofNat w.length) := by
    show ¬ ((2 : Int) * 10 < (w.length : Int))
    omega
  have e3 : Int.ofNat w.length / 2 = Int.ofNat n := by
    show (w.length : Int) / 2 = (n : Int)
    omega
  simp (disch := omega) only [f22, b22, tupI, W_seq, W_sif, W_asg, W_name, W_ret', V_or, V_not, V_and, V_prim, V_cst, L_cons, L_nil, V_var, startS, List.map, List.cons_append, List.nil_append, List.replicate, getS, setS, VI_some, P_isTup, truth_bl, VB_some, Bool.not_true, VT_false, P_lenT, P_mod, P_eq, eq_ints, P_mul, P_gt, P_fdiv, W_pass, List.length_map]
  rw [decide_eq_false e1, decide_eq_false e2, e3]
  simp only [VT_false]
  refine V_lcomp (w.map Val.int) (gB (Int.ofNat n)) (by rw [List.length_map]; omega) ?_
  simp only [L_cons, L_nil, V_var, getS, VI_some]
  refine ⟨_, src_tup, gives_vals, wf, fun i x m' hx fr => ?_, fun m1 fr lt hg => ?_⟩
  · rw [List.getElem?_map] at hx
    cases hi : w[i]? with
    | none => rw [hi] at hx; cases hx
    | some z =>
      rw [hi] at hx
      cases hx
      refine ⟨_, rfl, ?_⟩
      simp only [V_yes, truth_bl, VT_true, V_call, L_cons, L_nil, V_var, wipeS, setS, getS, VI_some, permL, List.getElem?_cons_zero, List.getElem?_cons_succ, VP_some]
      refine (below_spec j fr.wf z (Int.ofNat n)).mono fun v m2 ⟨e, f2⟩ => ?_
      subst e
      exact ⟨rfl, f2⟩
  · rw [gB_map] at hg
    rw [P_all hg]
    have ha : (w.map fun i => decide (0 ≤ i) && decide (i < Int.ofNat n)).all id = true := by
      rw [List.all_map]
      refine List.all_eq_true.mpr fun x hx => ?_
      have := hw.rng x hx
      show (decide (0 ≤ x) && decide (x < (n : Int))) = true
      rw [decide_eq_true this.1, decide_eq_true this.2]
      rfl
    rw [ha]
    simp only [truth_bl, VT_true, V_prim, L_cons, L_nil]
    refine V_lcomp ((List.range n).map fun i => Val.int (Int.ofNat i)) (gC w) (by rw [List.length_map, List.length_range]; omega) ?_
    simp only [L_cons, L_nil, V_var, getS, VI_some]
    refine ⟨_, src_rg1 (by show (-1000000 : Int) ≤ (n : Int); omega) (by show (n : Int) ≤ 1000000; omega), by rw [range_eq]; exact gives_vals, fr.wf, fun i x m' hx f1 => ?_, fun m2 f2 lt2 hg2 => ?_⟩
    · obtain ⟨hi, rfl⟩ := range_at hx
      refine ⟨_, rfl, ?_⟩
      simp only [V_yes, truth_bl, VT_true, V_prim, V_meth, V_cst, L_cons, L_nil, V_var, wipeS, setS, getS, VI_some, kind_tup, VK_some, P_countT, P_eq, eq_ints, VB_some]
      exact ⟨rfl, rfl, Fr.refl f1.wf⟩
    · rw [gC_map] at hg2
      rw [P_all hg2]
      have hc : ((List.range n).map fun i => decide (Int.ofNat (w.count (Int.ofNat i)) = 2)).all id = true := by
        rw [List.all_map]
        refine List.all_eq_true.mpr fun a ha => ?_
        have h2 : w.count (Int.ofNat a) = 2 := hw.two a (List.mem_range.mp ha)
        show decide (Int.ofNat (w.count (Int.ofNat a)) = 2) = true
        rw [h2]
        rfl
      rw [hc]
      exact V_close rfl ⟨rfl, (fr.trans f2).cut⟩
theorem want_spec (j : Nat) {m : Mem} (wf : WF m) {n : Nat} {w : List Int} (hw : Word n w) (hn : n ≤ 10) : Mi.V (run P (j + 5) 23 [tupI w] m) fun v m' => v = tupI w ∧ Fr no m m' := by
  refine V_run (F := f23) rfl rfl ?_
  simp only [f23, b23, W_seq, W_sif, V_not, V_call, L_cons, L_nil, V_var, startS, List.map, List.cons_append, List.nil_append, List.replicate, getS, VI_some, permL, List.getElem?_cons_zero, VP_some]
  refine (word_spec j wf hw hn).mono fun v m1 ⟨e, f1⟩ => ?_
  subst e
  simp only [truth_bl, VB_some, Bool.not_true, VT_false, W_pass, W_ret', V_var, getS, VI_some]
  exact V_close (flat_ints' _) ⟨rfl, f1.cut⟩
theorem least_spec (j : Nat) {m : Mem} (wf : WF m) {n : Nat} {w : List Int} (hw : Word n w) (hn : n ≤ 10) : Mi.V (run P (j + 6) 24 [tupI w] m) fun v m' => v = tupI (normal w) ∧ Fr no m m' := by
  refine V_run (F := f24) rfl rfl ?_
  simp only [f24, b24, W_ret', V_call, L_cons, L_nil, V_var, startS, List.map, List.cons_append, List.nil_append, List.replicate, getS, VI_some, permL, List.getElem?_cons_zero, VP_some]
  refine (want_spec j wf hw hn).mono fun v m1 ⟨e, f1⟩ => ?_
  subst e
  refine (normal_spec (j + 2) f1.wf w (by have := hw.len; omega)).mono fun v m2 ⟨e, f2⟩ => ?_
  subst e
  exact V_close (flat_ints' _) ⟨rfl, (f1.trans f2).cut⟩
theorem rds_len (w : List Int) : (rds w).length = max w.length 1 := by
  unfold rds
  rw [List.length_map, List.length_range]
theorem allR_len (w : List Int) : (allR w).length = 2 * max w.length 1 := by
  unfold allR
  rw [List.length_append, rds_len, rds_len, List.length_reverse]
  omega
theorem allR_ne {w : List Int} (h : w ≠ []) : ∀ k ∈ allR w, k ≠ [] := fun k hk => by
  unfold allR at hk
  rw [rds_eq h, rds_eq (fun z => h (by simpa using z))] at hk
  rcases List.mem_append.mp hk with q | q
  · exact rdsL_ne h k q
  · exact rdsL_ne (fun z => h (by simpa using z)) k q
theorem allviews_spec (j : Nat) {m : Mem} (wf : WF m) {n : Nat} {w : List Int} (hw : Word n w) (hn : n ≤ 10) : Mi.V (run P (j + 6) 25 [tupI w] m) (NewL no m ((views w).map tupI)) := by
  refine V_run (F := f25) rfl rfl ?_
  simp only [f25, b25, W_ret', V_call, V_prim, L_cons, L_nil, V_var, startS, List.map, List.cons_append, List.nil_append, List.replicate, getS, VI_some, permL, List.getElem?_cons_zero, VP_some]
  refine (want_spec j wf hw hn).mono fun v m1 ⟨e, f1⟩ => ?_
  subst e
  refine (readings_spec (j + 3) f1.wf w (by have := hw.len; omega)).mono fun v m2 ⟨r, e, hg, h1, h2, f2⟩ => ?_
  subst e
  have hl := hw.len
  have al := allR_len w
  rw [P_sset hg (by have := sortU_le (allR w); omega) (by omega)]
  · exact V_close' ⟨_, rfl, get_new_same, Nat.le_trans f1.le f2.le, Nat.lt_succ_self _, (f1.trans f2).new⟩
  · by_cases h : w = []
    · subst h
      exact .inl (by decide)
    · exact .inr (allR_ne h)
end K98

namespace K98
open Mi L2
/-! ### growing -/
def okG (w : List Int) (l : Nat) : Bool := decide ((w.count (Int.ofNat l)) < 2) && (decide (Int.ofNat l = 0) || decide (Int.ofNat l - 1 ∈ w))
def grow (n : Nat) (w : List Int) : List (List Int) := (List.range n).filterMap fun l => if okG w l then some (w ++ [Int.ofNat l]) else none
theorem grow_len (n : Nat) (w : List Int) : (grow n w).length ≤ n := by
  have := List.length_filterMap_le (fun l => if okG w l then some (w ++ [Int.ofNat l]) else none) (List.range n)
  rw [List.length_range] at this
  exact this
theorem grow_mem {n : Nat} {w u : List Int} (h : u ∈ grow n w) : u.length = w.length + 1 := by
  unfold grow at h
  obtain ⟨l, _, e⟩ := List.mem_filterMap.mp h
  split at e <;> cases e
  rw [List.length_append]
  rfl
theorem tup_snoc (w : List Int) (x : Int) : Val.tup (w.map Val.int ++ [Val.int x]) = tupI (w ++ [x]) := by
  unfold tupI
  rw [List.map_append]
  rfl
theorem grown_spec (j : Nat) {m : Mem} (wf : WF m) (w : List Int) (n : Nat) (hw : w.length ≤ 1000) (hn : n ≤ 1000) : Mi.V (run P (j + 1) 2 [tupI w, .int (Int.ofNat n)] m) (NewL no m ((grow n w).map tupI)) := by
  refine V_run (F := f2) rfl rfl ?_
  have l0 : ([] : List Val).length ≤ 8000000 := by decide
  simp only [f2, b2, W_seq, W_asg, V_prim, L_nil, P_lstD l0, W_name, startS, List.map, List.cons_append, List.nil_append, List.replicate, setS]
  refine W_for ((List.range n).map fun i => Val.int (Int.ofNat i)) (fun i σ m' => ∃ y, σ = [some (tupI w), some (.int (Int.ofNat n)), some (.ref m.n), y] ∧ Fr no m m' ∧ m.n < m'.n ∧ m'.get m.n = some (.lst ((((List.range n).take i).filterMap fun l => if okG w l then some (w ++ [Int.ofNat l]) else none).map tupI))) ?_ ?_ ?_
  · simp only [L_cons, L_nil, V_var, getS, VI_some]
    refine ⟨_, src_rg1 (by show (-1000000 : Int) ≤ (n : Int); omega) (by show (n : Int) ≤ 1000000; omega), by rw [range_eq]; exact gives_vals, none, rfl, (Fr.refl wf).new, Nat.lt_succ_self _, ?_⟩
    rw [get_new_same]
    rfl
  · intro i x σ m1 hx ⟨y, e, fr, lt, hl⟩
    subst e
    obtain ⟨hi, rfl⟩ := range_at hx
    have tk : (List.range n).take (i + 1) = (List.range n).take i ++ [i] := by
      rw [List.take_add_one, List.getElem?_range hi]
      rfl
    have ll : ((((List.range n).take i).filterMap fun l => if okG w l then some (w ++ [Int.ofNat l]) else none).map tupI).length ≤ 8000000 := by
      rw [List.length_map]
      have := List.length_filterMap_le (fun l => if okG w l then some (w ++ [Int.ofNat l]) else none) ((List.range n).take i)
      rw [List.length_take, List.length_range] at this
      omega
    have wl : (w.map Val.int).length ≤ 8000000 := by
      rw [List.length_map]
      omega
    refine ⟨_, rfl, ?_⟩
    have yes : okG w i = true → ∀ {m2 : Mem}, m2 = m1 → W ((S.expr (.meth .append (.var 2) (.cons (.prim .add (.cons (.var 0) (.cons (.prim .tupD (.cons (.var 3) .nil)) .nil))) .nil))).ev (run P j) [some (tupI w), some (.int (Int.ofNat n)), some (.ref m.n), some (.int (Int.ofNat i))] m2) (fun σ m' => ∃ y, σ = [some (tupI w), some (.int (Int.ofNat n)), some (.ref m.n), y] ∧ Fr no m m' ∧ m.n < m'.n ∧ m'.get m.n = some (.lst ((((List.range n).take (i + 1)).filterMap fun l => if okG w l then some (w ++ [Int.ofNat l]) else none).map tupI))) fun v m' => Mi.V (close m.n v m') (NewL no m ((grow n w).map tupI)) := fun h {m2} e => by
      subst e
      have l1 : [Val.int (Int.ofNat i)].length ≤ 8000000 := by simp
      simp only [W_expr, V_meth, V_prim, V_var, L_cons, L_nil, getS, VI_some, kind_lst hl, VK_some, tupI, P_tupD l1, P_addT wl l1, P_append hl ll]
      refine ⟨rfl, _, rfl, fr.put (.inl (Nat.le_refl _)), lt, ?_⟩
      rw [get_put_eq, hl, tk, List.filterMap_append, List.map_append]
      show some (HObj.lst _) = some (HObj.lst _)
      simp only [List.filterMap_cons, List.filterMap_nil, h, if_true, List.map_cons, List.map_nil]
      rw [tup_snoc]
    have nope : okG w i = false → ∃ y, [some (tupI w), some (.int (Int.ofNat n)), some (.ref m.n), some (.int (Int.ofNat i))] = [some (tupI w), some (.int (Int.ofNat n)), some (.ref m.n), y] ∧ Fr no m m1 ∧ m.n < m1.n ∧ m1.get m.n = some (.lst ((((List.range n).take (i + 1)).filterMap fun l => if okG w l then some (w ++ [Int.ofNat l]) else none).map tupI)) := fun h => by
      refine ⟨_, rfl, fr, lt, ?_⟩
      rw [hl, tk, List.filterMap_append]
      simp only [List.filterMap_cons, List.filterMap_nil, h, Bool.false_eq_true, if_false, List.append_nil]
    rw [W_sif]
    have P_in : ∀ {Q : Val → Mem → Prop}, Mi.V (ofRV (prim .in_ [.int (Int.ofNat i - 1), tupI w] m1)) Q = Q (.bl (decide (Int.ofNat i - 1 ∈ w))) m1 := P_inT
    have P_ct : ∀ {Q : Val → Mem → Prop}, Mi.V (ofRV (prim .count [tupI w, .int (Int.ofNat i)] m1)) Q = Q (.int (Int.ofNat (w.count (Int.ofNat i)))) m1 := P_countT
    have kt : kindOf m1 (tupI w) = some .tuple := rfl
    simp only [setS, V_and, V_or, V_prim, V_meth, V_cst, V_var, L_cons, L_nil, getS, VI_some, kt, VK_some, P_ct, P_lt, truth_bl, P_eq, eq_ints, VB_some, P_sub, P_in]
    refine ⟨rfl, ?_⟩
    by_cases h1 : Int.ofNat (w.count (Int.ofNat i)) < 2
    · have h1' : w.count (Int.ofNat i) < 2 := by
        have : ((w.count (Int.ofNat i) : Nat) : Int) < 2 := h1
        omega
      rw [decide_eq_true h1]
      simp only [VT_true]
      by_cases h2 : Int.ofNat i = 0
      · rw [decide_eq_true h2]
        simp only [VT_true]
        exact yes (by unfold okG; rw [decide_eq_true h1', decide_eq_true h2]; rfl) rfl
      · rw [decide_eq_false h2]
        simp only [VT_false]
        by_cases h3 : Int.ofNat i - 1 ∈ w
        · rw [decide_eq_true h3]
          simp only [VT_true]
          exact yes (by unfold okG; rw [decide_eq_true h1', decide_eq_true h3]; simp) rfl
        · rw [decide_eq_false h3]
          simp only [VT_false, W_pass]
          exact nope (by unfold okG; rw [decide_eq_false h2, decide_eq_false h3]; simp)
    · have h1' : ¬ w.count (Int.ofNat i) < 2 := fun z => h1 (by
        show ((w.count (Int.ofNat i) : Nat) : Int) < 2
        omega)
      rw [decide_eq_false h1]
      simp only [VT_false, W_pass]
      exact nope (by unfold okG; rw [decide_eq_false h1']; rfl)
  · intro σ m1 ⟨y, e, fr, lt, hl⟩
    subst e
    rw [List.length_map, List.take_length] at hl
    simp only [W_ret', V_var, getS, VI_some]
    exact V_close' ⟨_, rfl, hl, Nat.le_refl _, lt, fr⟩
end K98

namespace K98
open Mi L2
def stg (n : Nat) : Nat → List (List Int)
  | 0 => [[]]
  | i + 1 => (stg n i).flatMap (grow n)
theorem flat_len {n : Nat} : ∀ l : List (List Int), (l.flatMap (grow n)).length ≤ l.length * n
  | [] => Nat.zero_le _
  | x :: r => by
    rw [List.flatMap_cons, List.length_append, List.length_cons, Nat.add_mul, Nat.one_mul]
    have h1 := grow_len n x
    have h2 := flat_len (n := n) r
    omega
theorem stg_len (n : Nat) : ∀ i, (stg n i).length ≤ n ^ i
  | 0 => Nat.le_refl _
  | i + 1 => by
    show ((stg n i).flatMap (grow n)).length ≤ n ^ i * n
    exact Nat.le_trans (flat_len _) (Nat.mul_le_mul_right n (stg_len n i))
theorem stg_w (n : Nat) : ∀ i, ∀ u ∈ stg n i, u.length = i
  | 0, u, h => by
    rw [List.mem_singleton.mp h]
    rfl
  | i + 1, u, h => by
    obtain ⟨v, hv, hu⟩ := List.mem_flatMap.mp (show u ∈ (stg n i).flatMap (grow n) from h)
    rw [grow_mem hu, stg_w n i v hv]
theorem small4 {n i : Nat} (hn : n ≤ 4) (hi : i ≤ 8) : n ^ i ≤ 65536 := by
  have h1 : n ^ i ≤ 4 ^ i := Nat.pow_le_pow_left hn i
  have h2 : 4 ^ i ≤ 4 ^ 8 := Nat.pow_le_pow_right (by decide) hi
  exact Nat.le_trans h1 (Nat.le_trans h2 (by decide))
theorem P_sort {m : Mem} {a : Nat} {ks : List (List Int)} {Q : Val → Mem → Prop} (h : m.get a = some (.lst (ks.map tupI))) (h2 : ks.length ≤ 8000000) (h3 : ks.length < 2 ∨ ∀ k ∈ ks, k ≠ []) :
    Mi.V (ofRV (prim .sortT [.ref a] m)) Q = Q (.ref m.n) (m.new (.lst ((sortK ks).map tupI))) := by
  show Mi.V (ofRV (match lstAt m a with
    | some xs => match keysT xs with
      | some ks => if small ks && ks.all fun k => !k.isEmpty || Nat.blt ks.length 2 then some (.ref m.n, m.new (.lst ((sortK ks).map tupI))) else none
      | none => none
    | none => none)) Q = _
  rw [lstAt_lst h]
  simp only [keysT_map]
  rw [if_pos]
  · rfl
  · rw [small_of h2]
    refine List.all_eq_true.mpr fun k hk => ?_
    rcases h3 with q | q
    · rw [show Nat.blt ks.length 2 = true from Nat.ble_eq_true_of_le q, Bool.or_true]
    · have := q k hk
      cases k with
      | nil => exact absurd rfl this
      | cons _ _ => rfl
def named (n : Nat) : List (List Int) := sortK (stg n (2 * n))
theorem map_at {l : List (List Int)} {k : Nat} {x : Val} (h : (l.map tupI)[k]? = some x) : ∃ u, l[k]? = some u ∧ x = tupI u := by
  rw [List.getElem?_map] at h
  cases hu : l[k]? with
  | none => rw [hu] at h; cases h
  | some u =>
    rw [hu] at h
    cases h
    exact ⟨u, rfl, rfl⟩
theorem named_words_spec (j : Nat) {m : Mem} (wf : WF m) (n : Nat) (hn : n ≤ 4) : Mi.V (run P (j + 2) 3 [.int (Int.ofNat n)] m) (NewL no m ((named n).map tupI)) := by
  refine V_run (F := f3) rfl rfl ?_
  have l0 : ([] : List Val).length ≤ 8000000 := by decide
  have l1 : [Val.tup []].length ≤ 8000000 := by simp
  simp only [f3, b3, W_seq, W_asg, V_prim, L_cons, L_nil, P_tupD l0, P_lstD l1, W_name, startS, List.map, List.cons_append, List.nil_append, List.replicate, setS]
  refine W_for ((List.range (2 * n)).map fun i => Val.int (Int.ofNat i)) (fun i σ m' => i ≤ 2 * n ∧ ∃ F y z t, σ = [some (.int (Int.ofNat n)), some (.ref F), y, z, t] ∧ Fr no m m' ∧ m.n ≤ F ∧ F < m'.n ∧ m'.get F = some (.lst ((stg n i).map tupI))) ?_ ?_ ?_
  · simp (disch := omega) only [L_cons, L_nil, V_prim, V_cst, V_var, getS, VI_some, P_mulL]
    have e : (2 : Int) * Int.ofNat n = Int.ofNat (2 * n) := by
      show (2 : Int) * (n : Int) = ((2 * n : Nat) : Int)
      omega
    rw [e]
    exact ⟨_, src_rg1 (by show (-1000000 : Int) ≤ ((2 * n : Nat) : Int); omega) (by show ((2 * n : Nat) : Int) ≤ 1000000; omega), by rw [range_eq]; exact gives_vals, Nat.zero_le _, m.n, none, none, none, rfl, (Fr.refl wf).new, Nat.le_refl _, Nat.lt_succ_self _, get_new_same⟩
  · intro i x σ m1 hx ⟨hile, F, y, z, t, e, fr, le, lt, hl⟩
    subst e
    obtain ⟨hi, rfl⟩ := range_at hx
    have sl : (stg n i).length ≤ 65536 := Nat.le_trans (stg_len n i) (small4 hn (by omega))
    refine ⟨_, rfl, ?_⟩
    simp only [setS, W_seq, W_asg, V_prim, L_nil, P_lstD l0, W_name]
    have g0 : (m1.new (.lst [])).get F = some (.lst ((stg n i).map tupI)) := by
      rw [get_new_lt lt]
      exact hl
    refine W_for ((stg n i).map tupI) (fun k σ m' => ∃ t, σ = [some (.int (Int.ofNat n)), some (.ref F), some (.int (Int.ofNat i)), some (.ref m1.n), t] ∧ Fr no m1 m' ∧ m1.n < m'.n ∧ m'.get m1.n = some (.lst ((((stg n i).take k).flatMap (grow n)).map tupI))) ?_ ?_ ?_
    · simp only [L_cons, L_nil, V_var, getS, VI_some]
      exact ⟨_, src_lst g0, gives_lst g0 (fun m' ⟨_, _, _, _, f, _⟩ => (f.get _ lt id).trans hl), t, rfl, (Fr.refl fr.wf).new, Nat.lt_succ_self _, get_new_same⟩
    · intro k x σ m2 hx2 ⟨t2, e2, f2, lt2, hg2⟩
      subst e2
      obtain ⟨u, hu, rfl⟩ := map_at hx2
      have ul : u.length = i := stg_w n i u (List.mem_of_getElem? hu)
      have tk : (stg n i).take (k + 1) = (stg n i).take k ++ [u] := by
        rw [List.take_add_one, hu]
        rfl
      have cl : ((((stg n i).take k).flatMap (grow n)).map tupI).length ≤ 8000000 := by
        rw [List.length_map]
        have h1 := flat_len (n := n) ((stg n i).take k)
        have h2 : ((stg n i).take k).length ≤ 65536 := by
          rw [List.length_take]
          omega
        have h3 : ((stg n i).take k).length * n ≤ 65536 * 4 := Nat.mul_le_mul h2 hn
        omega
      refine ⟨_, rfl, ?_⟩
      simp only [setS, W_expr, V_meth, V_call, V_var, L_cons, L_nil, getS, VI_some, kind_lst hg2, VK_some, permL, List.getElem?_cons_zero, List.getElem?_cons_succ, VP_some]
      refine ⟨rfl, (grown_spec j f2.wf u n (by omega) (by omega)).mono fun v m3 ⟨r, ev, hr, hr1, hr2, f3⟩ => ?_⟩
      subst ev
      have hg3 := (f3.get _ lt2 id).trans hg2
      have gl : ((grow n u).map tupI).length ≤ 8000000 := by
        rw [List.length_map]
        have := grow_len n u
        omega
      rw [P_extend hg3 hr cl gl]
      refine ⟨_, rfl, (f2.trans f3).put (.inl (Nat.le_refl _)), Nat.lt_of_lt_of_le lt2 f3.le, ?_⟩
      rw [get_put_eq, hg3, tk, List.flatMap_append, List.map_append]
      show some (HObj.lst _) = some (HObj.lst _)
      simp only [List.flatMap_cons, List.flatMap_nil, List.append_nil]
    · intro σ m2 ⟨t2, e2, f2, lt2, hg2⟩
      subst e2
      rw [List.length_map, List.take_length] at hg2
      simp only [V_var, getS, VI_some, W_asg, W_name, setS]
      exact ⟨hi, m1.n, _, _, _, rfl, fr.trans f2, fr.le, lt2, hg2⟩
  · intro σ m1 ⟨_, F, y, z, t, e, fr, le, lt, hl⟩
    subst e
    rw [List.length_map, List.length_range] at hl
    simp only [W_ret', V_prim, L_cons, L_nil, V_var, getS, VI_some]
    rw [P_sort hl (by have := stg_len n (2 * n); have := small4 hn (show 2 * n ≤ 8 by omega); omega)]
    · exact V_close' ⟨_, rfl, get_new_same, fr.le, Nat.lt_succ_self _, fr.new⟩
    · by_cases h : n = 0
      · subst h
        exact .inl (by decide)
      · refine .inr fun k hk e => ?_
        have := stg_w n _ k hk
        rw [e] at this
        have e0 : ([] : List Int).length = 0 := rfl
        omega
def smallW (n : Nat) : List (List Int) := (named n).filter fun w => decide (normal w = w)
def gS : Val → Option Val
  | .tup xs => match intsOf xs with
    | some w => if normal w = w then some (tupI w) else none
    | none => none
  | _ => none
theorem gS_tup (w : List Int) : gS (tupI w) = if normal w = w then some (tupI w) else none := by
  show (match intsOf (w.map Val.int) with | some w => if normal w = w then some (tupI w) else none | none => none) = _
  rw [intsOf_map]
theorem gS_map : ∀ l : List (List Int), (l.map tupI).filterMap gS = (l.filter fun w => decide (normal w = w)).map tupI
  | [] => rfl
  | x :: r => by
    have ih := gS_map r
    rw [List.map_cons, List.filterMap_cons, gS_tup, List.filter_cons]
    by_cases h : normal x = x
    · rw [if_pos h, if_pos (decide_eq_true h), List.map_cons, ← ih]
    · rw [if_neg h, if_neg (by rw [decide_eq_false h]; simp), ← ih]
theorem named_mem {n : Nat} {w : List Int} (h : w ∈ named n) : w.length = 2 * n := stg_w n _ w ((sortK_perm _).mem_iff.mp h)
theorem named_len {n : Nat} (hn : n ≤ 4) : (named n).length ≤ 65536 := by
  unfold named
  rw [(sortK_perm _).length_eq]
  exact Nat.le_trans (stg_len _ _) (small4 hn (by omega))
theorem small_of_spec (j : Nat) {m : Mem} (wf : WF m) (n : Nat) (hn : n ≤ 4) : Mi.V (run P (j + 4) 8 [.int (Int.ofNat n)] m) (NewL no m ((smallW n).map tupI)) := by
  refine V_run (F := f8) rfl rfl ?_
  simp only [f8, b8, W_ret', startS, List.map, List.cons_append, List.nil_append, List.replicate]
  refine V_lcomp ((named n).map tupI) gS (by rw [List.length_map]; have := named_len hn; omega) ?_
  simp only [L_cons, L_nil, V_call, V_var, getS, VI_some, permL, List.getElem?_cons_zero, VP_some]
  refine (named_words_spec (j + 1) wf n hn).mono fun v m1 ⟨r, e, hg, h1, h2, f1⟩ => ?_
  subst e
  refine ⟨_, src_lst hg, gives_lst hg (fun m' f => (f.get _ h2 id).trans hg), f1.wf, fun i x m' hx fr => ?_, fun m' fr lt hl => ?_⟩
  · obtain ⟨u, hu, rfl⟩ := map_at hx
    have ul := named_mem (List.mem_of_getElem? hu)
    refine ⟨_, rfl, ?_⟩
    simp only [V_prim, V_call, L_cons, L_nil, V_var, wipeS, setS, getS, VI_some, permL, List.getElem?_cons_zero, VP_some]
    refine (normal_spec j fr.wf u (by omega)).mono fun v m2 ⟨e, f2⟩ => ?_
    subst e
    rw [P_eq, eq_rows]
    simp only [VB_some, truth_bl, VT_dec]
    exact ⟨fun h => ⟨by rw [gS_tup, if_pos h], f2⟩, fun h => ⟨by rw [gS_tup, if_neg h], f2⟩⟩
  · rw [gS_map] at hl
    exact V_close' ⟨_, rfl, hl, f1.le, lt, f1.trans fr⟩
theorem want_many_spec (j : Nat) {m : Mem} (wf : WF m) (n : Nat) (hn : n ≤ 4) : Mi.V (run P (j + 3) 11 [.int (Int.ofNat n), .int 0, .int 5] m) fun v m' => v = .int (Int.ofNat n) ∧ Fr no m m' := by
  refine V_run (F := f11) rfl rfl ?_
  simp only [f11, b11, W_seq, W_sif, V_or, V_not, V_chain, V_call, L_cons, L_nil, V_var, startS, List.map, List.cons_append, List.nil_append, List.replicate, getS, VI_some, permL, List.getElem?_cons_zero, VP_some]
  refine (count_spec j wf (Int.ofNat n)).mono fun v m1 ⟨e, f1⟩ => ?_
  subst e
  have e0 : (0 : Int) ≤ Int.ofNat n := Int.natCast_nonneg n
  have e5 : Int.ofNat n ≤ 5 := by
    show (n : Int) ≤ 5
    omega
  rw [decide_eq_true e0]
  simp only [truth_bl, VB_some, Bool.not_true, VT_false, P_le, decide_eq_true e0, decide_eq_true e5, W_pass, W_ret', V_var, getS, VI_some]
  exact V_close rfl ⟨rfl, f1.cut⟩
theorem small_words_spec (j : Nat) {m : Mem} (wf : WF m) (n : Nat) (hn : n ≤ 4) : Mi.V (run P (j + 5) 12 [.int (Int.ofNat n)] m) (NewL no m ((smallW n).map tupI)) := by
  refine V_run (F := f12) rfl rfl ?_
  simp only [f12, b12, W_ret', V_call, V_cst, L_cons, L_nil, V_var, startS, List.map, List.cons_append, List.nil_append, List.replicate, getS, VI_some, permL, List.getElem?_cons_zero, List.getElem?_cons_succ, VP_some]
  refine (want_many_spec (j + 1) wf n hn).mono fun v m1 ⟨e, f1⟩ => ?_
  subst e
  refine (small_of_spec j f1.wf n hn).mono fun v m2 ⟨r, e, hg, h1, h2, f2⟩ => ?_
  subst e
  exact V_close' ⟨_, rfl, hg, Nat.le_trans f1.le h1, h2, f1.trans f2⟩
end K98

namespace K98
open Mi L2
def okL (w : List Int) (l : Nat) : Bool := decide ((w.count (Int.ofNat l)) < 2) && decide (relab (w ++ [Int.ofNat l]) = w ++ [Int.ofNat l])
def growL (n : Nat) (w : List Int) : List (List Int) := (List.range n).filterMap fun l => if okL w l then some (w ++ [Int.ofNat l]) else none
theorem growL_len (n : Nat) (w : List Int) : (growL n w).length ≤ n := by
  have := List.length_filterMap_le (fun l => if okL w l then some (w ++ [Int.ofNat l]) else none) (List.range n)
  rw [List.length_range] at this
  exact this
theorem growL_mem {n : Nat} {w u : List Int} (h : u ∈ growL n w) : u.length = w.length + 1 := by
  unfold growL at h
  obtain ⟨l, _, e⟩ := List.mem_filterMap.mp h
  split at e <;> cases e
  rw [List.length_append]
  rfl
def stgL (n : Nat) : Nat → List (List Int)
  | 0 => [[]]
  | i + 1 => (stgL n i).flatMap (growL n)
theorem flatL_len {n : Nat} : ∀ l : List (List Int), (l.flatMap (growL n)).length ≤ l.length * n
  | [] => Nat.zero_le _
  | x :: r => by
    rw [List.flatMap_cons, List.length_append, List.length_cons, Nat.add_mul, Nat.one_mul]
    have h1 := growL_len n x
    have h2 := flatL_len (n := n) r
    omega
theorem stgL_len (n : Nat) : ∀ i, (stgL n i).length ≤ n ^ i
  | 0 => Nat.le_refl _
  | i + 1 => by
    show ((stgL n i).flatMap (growL n)).length ≤ n ^ i * n
    exact Nat.le_trans (flatL_len _) (Nat.mul_le_mul_right n (stgL_len n i))
theorem stgL_w (n : Nat) : ∀ i, ∀ u ∈ stgL n i, u.length = i
  | 0, u, h => by
    rw [List.mem_singleton.mp h]
    rfl
  | i + 1, u, h => by
    obtain ⟨v, hv, hu⟩ := List.mem_flatMap.mp (show u ∈ (stgL n i).flatMap (growL n) from h)
    rw [growL_mem hu, stgL_w n i v hv]
theorem _root_.Mi.Fr.trans' {m1 m2 m3 : Mem} (a : Fr no m1 m2) (b : Fr (one m1.n) m2 m3) : Fr no m1 m3 := ⟨Nat.le_trans a.le b.le, fun c h s => (b.get c (Nat.lt_of_lt_of_le h a.le) (fun z => by have z' : c = m1.n := z; omega)).trans (a.get c h s), b.wf⟩
/-- the inmost loop -/
theorem growL_loop (j : Nat) {m1 : Mem} {F G n : Nat} {z : Option Val} {u : List Int} {acc : List (List Int)} {y : Option Val} {QS : Sta → Mem → Prop} {R : Val → Mem → Prop} (wf : WF m1) (hG : G < m1.n) (hg : m1.get G = some (.lst (acc.map tupI))) (hn : n ≤ 4) (ha : acc.length ≤ 1000000) (hu : u.length ≤ 100)
    (fin : ∀ m' y', Fr (one G) m1 m' → m'.get G = some (.lst ((acc ++ growL n u).map tupI)) → QS [some (.int (Int.ofNat n)), some (.ref F), z, some (.ref G), some (tupI u), y'] m') :
    W ((S.sfor .range1 (.one 5) (.cons (.var 0) .nil) (.sif (.and (.prim .lt (.cons (.meth .count (.var 4) (.cons (.var 5) .nil)) (.cons (.cst (.int 2)) .nil))) (.prim .eq (.cons (.call 19 [0] (.cons (.prim .add (.cons (.var 4) (.cons (.prim .tupD (.cons (.var 5) .nil)) .nil))) .nil)) (.cons (.prim .add (.cons (.var 4) (.cons (.prim .tupD (.cons (.var 5) .nil)) .nil))) .nil)))) (.expr (.meth .append (.var 3) (.cons (.prim .add (.cons (.var 4) (.cons (.prim .tupD (.cons (.var 5) .nil)) .nil))) .nil))) .pass)).ev (run P (j + 1)) [some (.int (Int.ofNat n)), some (.ref F), z, some (.ref G), some (tupI u), y] m1) QS R := by
  refine W_for ((List.range n).map fun i => Val.int (Int.ofNat i)) (fun i σ m' => ∃ y, σ = [some (.int (Int.ofNat n)), some (.ref F), z, some (.ref G), some (tupI u), y] ∧ Fr (one G) m1 m' ∧ m'.get G = some (.lst ((acc ++ (((List.range n).take i).filterMap fun l => if okL u l then some (u ++ [Int.ofNat l]) else none)).map tupI))) ?_ ?_ ?_
  · simp only [L_cons, L_nil, V_var, getS, VI_some]
    refine ⟨_, src_rg1 (by show (-1000000 : Int) ≤ (n : Int); omega) (by show (n : Int) ≤ 1000000; omega), by rw [range_eq]; exact gives_vals, _, rfl, Fr.refl wf, ?_⟩
    rw [hg]
    simp
  · intro i x σ m2 hx ⟨y2, e, fr, hl⟩
    subst e
    obtain ⟨hi, rfl⟩ := range_at hx
    have tk : (List.range n).take (i + 1) = (List.range n).take i ++ [i] := by
      rw [List.take_add_one, List.getElem?_range hi]
      rfl
    have lt2 : G < m2.n := Nat.lt_of_lt_of_le hG fr.le
    have ll : ((acc ++ (((List.range n).take i).filterMap fun l => if okL u l then some (u ++ [Int.ofNat l]) else none)).map tupI).length ≤ 8000000 := by
      rw [List.length_map, List.length_append]
      have := List.length_filterMap_le (fun l => if okL u l then some (u ++ [Int.ofNat l]) else none) ((List.range n).take i)
      rw [List.length_take, List.length_range] at this
      omega
    have wl : (u.map Val.int).length ≤ 8000000 := by
      rw [List.length_map]
      omega
    have l1 : [Val.int (Int.ofNat i)].length ≤ 8000000 := by simp
    have ul : (u ++ [Int.ofNat i]).length ≤ 1000 := by
      rw [List.length_append]
      have : [Int.ofNat i].length = 1 := rfl
      omega
    refine ⟨_, rfl, ?_⟩
    have addP : ∀ {m : Mem} {Q : Val → Mem → Prop}, Mi.V (ofRV (prim .add [tupI u, .tup [.int (Int.ofNat i)]] m)) Q = Q (tupI (u ++ [Int.ofNat i])) m := fun {m Q} => by
      rw [tupI, P_addT wl l1, tup_snoc]
    have nope : ∀ {m3 : Mem}, Fr no m2 m3 → okL u i = false → ∃ y, [some (.int (Int.ofNat n)), some (.ref F), z, some (.ref G), some (tupI u), some (.int (Int.ofNat i))] = [some (.int (Int.ofNat n)), some (.ref F), z, some (.ref G), some (tupI u), y] ∧ Fr (one G) m1 m3 ∧ m3.get G = some (.lst ((acc ++ (((List.range n).take (i + 1)).filterMap fun l => if okL u l then some (u ++ [Int.ofNat l]) else none)).map tupI)) := fun {m3} f3 h => by
      refine ⟨_, rfl, fr.trans (f3.mono fun _ _ q => q.elim), ?_⟩
      rw [f3.get _ lt2 id, hl, tk, List.filterMap_append]
      simp only [List.filterMap_cons, List.filterMap_nil, h, Bool.false_eq_true, if_false, List.append_nil]
    rw [W_sif]
    have P_ct : ∀ {Q : Val → Mem → Prop}, Mi.V (ofRV (prim .count [tupI u, .int (Int.ofNat i)] m2)) Q = Q (.int (Int.ofNat (u.count (Int.ofNat i)))) m2 := P_countT
    have kt : kindOf m2 (tupI u) = some .tuple := rfl
    simp only [setS, V_and, V_prim, V_meth, V_call, V_cst, V_var, L_cons, L_nil, getS, VI_some, kt, VK_some, P_ct, P_lt, truth_bl, P_tupD l1, addP, permL, List.getElem?_cons_zero, VP_some]
    refine ⟨rfl, ?_⟩
    by_cases h1 : Int.ofNat (u.count (Int.ofNat i)) < 2
    · have h1' : u.count (Int.ofNat i) < 2 := by
        have : ((u.count (Int.ofNat i) : Nat) : Int) < 2 := h1
        omega
      rw [decide_eq_true h1]
      simp only [VT_true]
      refine (named_spec j fr.wf _ ul).mono fun v m3 ⟨e, f3⟩ => ?_
      subst e
      rw [P_eq, eq_rows]
      simp only [VB_some, truth_bl, VT_dec]
      have hl3 := (f3.get _ lt2 id).trans hl
      refine ⟨fun h => ?_, fun h => ?_⟩
      · have ok : okL u i = true := by
          unfold okL
          rw [decide_eq_true h1', decide_eq_true h]
          rfl
        simp only [W_expr, V_meth, V_prim, V_var, L_cons, L_nil, getS, VI_some, kind_lst hl3, VK_some, P_tupD l1, addP, P_append hl3 ll]
        refine ⟨rfl, _, rfl, (fr.trans (f3.mono fun _ _ q => q.elim)).put (.inr (show G = G from rfl)), ?_⟩
        rw [get_put_eq, hl3, tk, List.filterMap_append, ← List.append_assoc, List.map_append (l₁ := acc ++ _)]
        show some (HObj.lst _) = some (HObj.lst _)
        simp only [List.filterMap_cons, List.filterMap_nil, ok, if_true, List.map_cons, List.map_nil]
      · rw [W_pass]
        exact nope f3 (by unfold okL; rw [decide_eq_false h]; simp)
    · have h1' : ¬ u.count (Int.ofNat i) < 2 := fun z => h1 (by
        show ((u.count (Int.ofNat i) : Nat) : Int) < 2
        omega)
      rw [decide_eq_false h1]
      simp only [VT_false, W_pass]
      exact nope (Fr.refl fr.wf) (by unfold okL; rw [decide_eq_false h1']; rfl)
  · intro σ m2 ⟨y2, e, fr, hl⟩
    subst e
    rw [List.length_map, List.take_length] at hl
    exact fin m2 y2 fr hl
theorem law_all_spec (j : Nat) {m : Mem} (wf : WF m) (n : Nat) (hn : n ≤ 4) : Mi.V (run P (j + 2) 26 [.int (Int.ofNat n)] m) (NewL no m ((stgL n (2 * n)).map tupI)) := by
  refine V_run (F := f26) rfl rfl ?_
  have l0 : ([] : List Val).length ≤ 8000000 := by decide
  have l1 : [Val.tup []].length ≤ 8000000 := by simp
  simp only [f26, b26, W_seq, W_asg, V_prim, L_cons, L_nil, P_tupD l0, P_lstD l1, W_name, startS, List.map, List.cons_append, List.nil_append, List.replicate, setS]
  refine W_for ((List.range (2 * n)).map fun i => Val.int (Int.ofNat i)) (fun i σ m' => i ≤ 2 * n ∧ ∃ F y z t s, σ = [some (.int (Int.ofNat n)), some (.ref F), y, z, t, s] ∧ Fr no m m' ∧ m.n ≤ F ∧ F < m'.n ∧ m'.get F = some (.lst ((stgL n i).map tupI))) ?_ ?_ ?_
  · simp (disch := omega) only [L_cons, L_nil, V_prim, V_cst, V_var, getS, VI_some, P_mulL]
    have e : (2 : Int) * Int.ofNat n = Int.ofNat (2 * n) := by
      show (2 : Int) * (n : Int) = ((2 * n : Nat) : Int)
      omega
    rw [e]
    exact ⟨_, src_rg1 (by show (-1000000 : Int) ≤ ((2 * n : Nat) : Int); omega) (by show ((2 * n : Nat) : Int) ≤ 1000000; omega), by rw [range_eq]; exact gives_vals, Nat.zero_le _, m.n, none, none, none, none, rfl, (Fr.refl wf).new, Nat.le_refl _, Nat.lt_succ_self _, get_new_same⟩
  · intro i x σ m1 hx ⟨hile, F, y, z, t, s, e, fr, le, lt, hl⟩
    subst e
    obtain ⟨hi, rfl⟩ := range_at hx
    have sl : (stgL n i).length ≤ 65536 := Nat.le_trans (stgL_len n i) (small4 hn (by omega))
    refine ⟨_, rfl, ?_⟩
    simp only [setS, W_seq, W_asg, V_prim, L_nil, P_lstD l0, W_name]
    have g0 : (m1.new (.lst [])).get F = some (.lst ((stgL n i).map tupI)) := by
      rw [get_new_lt lt]
      exact hl
    refine W_for ((stgL n i).map tupI) (fun k σ m' => ∃ t s, σ = [some (.int (Int.ofNat n)), some (.ref F), some (.int (Int.ofNat i)), some (.ref m1.n), t, s] ∧ Fr no m1 m' ∧ m1.n < m'.n ∧ m'.get m1.n = some (.lst ((((stgL n i).take k).flatMap (growL n)).map tupI))) ?_ ?_ ?_
    · simp only [L_cons, L_nil, V_var, getS, VI_some]
      exact ⟨_, src_lst g0, gives_lst g0 (fun m' ⟨_, _, _, _, _, f, _⟩ => (f.get _ lt id).trans hl), t, s, rfl, (Fr.refl fr.wf).new, Nat.lt_succ_self _, get_new_same⟩
    · intro k x σ m2 hx2 ⟨t2, s2, e2, f2, lt2, hg2⟩
      subst e2
      obtain ⟨u, hu, rfl⟩ := map_at hx2
      have ul : u.length = i := stgL_w n i u (List.mem_of_getElem? hu)
      have tk : (stgL n i).take (k + 1) = (stgL n i).take k ++ [u] := by
        rw [List.take_add_one, hu]
        rfl
      have cl : (((stgL n i).take k).flatMap (growL n)).length ≤ 1000000 := by
        have h1 := flatL_len (n := n) ((stgL n i).take k)
        have h2 : ((stgL n i).take k).length ≤ 65536 := by
          rw [List.length_take]
          omega
        have h3 : ((stgL n i).take k).length * n ≤ 65536 * 4 := Nat.mul_le_mul h2 hn
        omega
      refine ⟨_, rfl, ?_⟩
      simp only [setS]
      refine growL_loop j f2.wf lt2 hg2 hn cl (by omega) fun m3 y3 f3 hg3 => ?_
      refine ⟨_, _, rfl, f2.trans' f3, Nat.lt_of_lt_of_le lt2 f3.le, ?_⟩
      rw [hg3, tk, List.flatMap_append]
      simp only [List.flatMap_cons, List.flatMap_nil, List.append_nil]
    · intro σ m2 ⟨t2, s2, e2, f2, lt2, hg2⟩
      subst e2
      rw [List.length_map, List.take_length] at hg2
      simp only [V_var, getS, VI_some, W_asg, W_name, setS]
      exact ⟨hi, m1.n, _, _, _, _, rfl, fr.trans f2, fr.le, lt2, hg2⟩
  · intro σ m1 ⟨_, F, y, z, t, s, e, fr, le, lt, hl⟩
    subst e
    rw [List.length_map, List.length_range] at hl
    simp only [W_ret', V_var, getS, VI_some]
    exact V_close' ⟨_, rfl, hl, le, lt, fr⟩
end K98

namespace K98
open Mi L2
/-! ### drawing -/
def PotAt (p : Nat) (m : Mem) : Prop := ∃ a b, m.get p = some (.lst [.int a, .int b]) ∧ PotOk a b
theorem draw_at (j : Nat) {m : Mem} {p : Nat} {many : Int} (wf : WF m) (hp : PotAt p m) (h1 : 0 < many) (h2 : many < 1073741824) :
    Mi.V (run P (j + 1) 1 [.ref p, .int many] m) fun v m' => ∃ d, v = .int d ∧ 0 ≤ d ∧ d < many ∧ PotAt p m' ∧ Fr (one p) m m' := by
  obtain ⟨a, b, hg, ok⟩ := hp
  exact (draw_spec j wf hg ok h1 h2).mono fun v m' ⟨d, a', b', e, d0, d1, hg', ok', fr⟩ => ⟨d, e, d0, d1, ⟨a', b', hg', ok'⟩, fr⟩
theorem PotAt.lt {p : Nat} {m : Mem} (h : PotAt p m) (wf : WF m) : p < m.n := by
  obtain ⟨a, b, hg, _⟩ := h
  exact wf p _ hg
theorem PotAt.keep {p : Nat} {m m' : Mem} (h : PotAt p m) (e : m'.get p = m.get p) : PotAt p m' := by
  obtain ⟨a, b, hg, ok⟩ := h
  exact ⟨a, b, e.trans hg, ok⟩
theorem PotAt.fr {p : Nat} {m m' : Mem} (h : PotAt p m) (wf : WF m) (f : Fr no m m') : PotAt p m' := h.keep (f.get p (h.lt wf) id)
theorem data_lst {m : Mem} {a : Nat} {ns : List Int} (h : m.get a = some (.lst (ns.map Val.int))) : m.data (.ref a) = some (.list (ns.map PySem.PyData.int)) := by
  unfold Mem.data
  unfold dataF
  have h' : hget m.h a = some (.lst (ns.map Val.int)) := h
  simp only [h', mapO_ints]
  rfl
theorem eq_lists {m : Mem} {a b : Nat} {ns ms : List Int} (h1 : m.get a = some (.lst (ns.map Val.int))) (h2 : m.get b = some (.lst (ms.map Val.int))) : eqData m (.ref a) (.ref b) = some (decide (ns = ms)) := by
  unfold eqData
  show (match m.data (.ref a), m.data (.ref b) with | some d, some e => if d.canLay0 && e.canLay0 then some (PySem.PyData.eqv d e) else none | _, _ => none) = _
  rw [data_lst h1, data_lst h2]
  simp only [PySem.PyData.canLay0, lay_ints, Bool.and_true, if_true, PySem.PyData.eqv, eqvAll_ints]
theorem erase_perm : ∀ {l : List Int} {i : Nat} {x : Int}, l[i]? = some x → l.Perm (x :: l.eraseIdx i)
  | [], i, x, h => by simp at h
  | y :: l, 0, x, h => by
    have e : y = x := Option.some.inj h
    subst e
    exact .refl _
  | y :: l, i + 1, x, h => by
    have ih := erase_perm (l := l) (i := i) (x := x) h
    exact (ih.cons y).trans (.swap x y _)
theorem map_erase (l : List Int) (i : Nat) : (l.map Val.int).eraseIdx i = (l.eraseIdx i).map Val.int := by
  induction l generalizing i with
  | nil => rfl
  | cons x l ih =>
    cases i with
    | zero => rfl
    | succ i =>
      show Val.int x :: (l.map Val.int).eraseIdx i = _
      rw [ih]
      rfl
theorem shuffled_spec (j : Nat) {m : Mem} {p a : Nat} {ns : List Int} (wf : WF m) (hp : PotAt p m) (ha : m.get a = some (.lst (ns.map Val.int))) (hz : ns.length ≤ 900) :
    Mi.V (run P (j + 2) 13 [.ref p, .ref a] m) fun v m' => ∃ ms : List Int, ms.Perm ns ∧ NewL (one p) m (ms.map Val.int) v m' ∧ PotAt p m' := by
  have plt := hp.lt wf
  refine V_run (F := f13) rfl rfl ?_
  have l0 : ([] : List Val).length ≤ 8000000 := by decide
  simp only [f13, b13, W_seq, W_par, V_prim, L_cons, L_nil, V_var, P_listL ha, P_lstD l0, startS, List.map, List.cons_append, List.nil_append, List.replicate, getS, setS, VI_some]
  refine W_while (fun k σ m' => σ = [some (.ref p), some (.ref a), some (.ref m.n), some (.ref (m.n + 1))] ∧ Fr (one p) m m' ∧ PotAt p m' ∧ m.n + 1 < m'.n ∧ ∃ left found : List Int, left.length = k ∧ m'.get m.n = some (.lst (left.map Val.int)) ∧ m'.get (m.n + 1) = some (.lst (found.map Val.int)) ∧ (found ++ left).Perm ns)
    ?_ 1000 ns.length _ _ (by omega) ?_
  · intro k σ m1 ⟨e, fr, pot, lt, left, found, hk, hl, hf, pm⟩
    subst e
    have kl : k ≤ 900 := by
      have := pm.length_eq
      rw [List.length_append] at this
      omega
    simp only [V_prim, L_cons, L_nil, V_var, getS, VI_some, P_lstD l0]
    have hl1 : (m1.new (.lst [])).get m.n = some (.lst (left.map Val.int)) := by
      rw [get_new_lt (by omega)]
      exact hl
    have hf1 : (m1.new (.lst [])).get (m.n + 1) = some (.lst (found.map Val.int)) := by
      rw [get_new_lt lt]
      exact hf
    have pot1 : PotAt p (m1.new (.lst [])) := pot.keep (get_new_lt (by omega))
    rw [P_ne, eq_lists hl1 (ms := []) get_new_same]
    simp only [VB_some, truth_bl, VT_ndec]
    refine ⟨fun hne => ?_, fun he => ?_⟩
    · have kp : 0 < left.length := List.length_pos_iff.mpr hne
      refine ⟨k - 1, by omega, ?_⟩
      simp only [W_expr, V_meth, V_call, V_prim, V_var, L_cons, L_nil, getS, VI_some, kind_lst hf1, kind_lst hl1, VK_some, P_lenL hl1, permL, List.getElem?_cons_zero, List.getElem?_cons_succ, VP_some]
      refine ⟨rfl, rfl, (draw_at j fr.wf.new pot1 (by rw [List.length_map]; show (0 : Int) < (left.length : Int); omega) (by rw [List.length_map]; show (left.length : Int) < 1073741824; omega)).mono fun v m2 ⟨d, ev, d0, d1, pot2, f2⟩ => ?_⟩
      subst ev
      rw [List.length_map] at d1
      have d1' : d < (left.length : Int) := d1
      have hd : d.toNat < left.length := by omega
      have n1 : ¬ one p m.n := fun z => by have z' : m.n = p := z; omega
      have n2 : ¬ one p (m.n + 1) := fun z => by have z' : m.n + 1 = p := z; omega
      have ltn : m.n + 1 < (m1.new (.lst [])).n := Nat.lt_succ_of_lt lt
      have hl2 : m2.get m.n = some (.lst (left.map Val.int)) := (f2.get _ (by omega) n1).trans hl1
      have hf2 : m2.get (m.n + 1) = some (.lst (found.map Val.int)) := (f2.get _ ltn n2).trans hf1
      have hx : left[d.toNat]? = some left[d.toNat] := List.getElem?_eq_getElem hd
      have hxv : (left.map Val.int)[d.toNat]? = some (.int left[d.toNat]) := by
        rw [List.getElem?_map, hx]
        rfl
      rw [P_popAt hl2 d0 (by rw [List.length_map]; omega) hxv]
      have hf3 : (m2.put m.n (.lst ((left.map Val.int).eraseIdx d.toNat))).get (m.n + 1) = some (.lst (found.map Val.int)) := by
        rw [get_put_ne (by omega)]
        exact hf2
      have fl : found.length ≤ 900 := by
        have := pm.length_eq
        rw [List.length_append] at this
        omega
      rw [P_append hf3 (by rw [List.length_map]; omega)]
      have f3 : Fr (one p) m m2 := fr.new.trans f2
      refine ⟨trivial, (f3.put (.inl (Nat.le_refl _))).put (.inl (by omega)), ?_, ?_, left.eraseIdx d.toNat, found ++ [left[d.toNat]], ?_, ?_, ?_, ?_⟩
      · refine pot2.keep ?_
        rw [get_put_ne (by omega), get_put_ne (by omega)]
      · exact Nat.lt_of_lt_of_le ltn f2.le
      · rw [List.length_eraseIdx_of_lt hd]
        omega
      · rw [get_put_ne (by omega), get_put_eq, hl2, ← map_erase]
        rfl
      · rw [get_put_eq, hf3, List.map_append]
        rfl
      · rw [List.append_assoc]
        exact ((erase_perm hx).symm.append_left found).trans pm
    · simp only [W_ret', V_var, getS, VI_some]
      refine V_close' ⟨found, ?_, ⟨_, rfl, hf1, by omega, Nat.lt_succ_of_lt lt, fr.new⟩, pot1⟩
      rw [he, List.append_nil] at pm
      exact pm
  · refine ⟨rfl, ((Fr.refl wf).new).new, hp.keep ?_, Nat.lt_succ_self _, ns, [], rfl, ?_, get_new_same, .refl _⟩
    · rw [get_new_lt (by show p < m.n + 1; omega), get_new_lt plt]
    · rw [get_new_lt (Nat.lt_succ_self _)]
      exact get_new_same
end K98

namespace K98
open Mi L2
def rgI (n : Nat) : List Int := (List.range n).map Int.ofNat
theorem rgI_map (n : Nat) : rangeV 0 n = (rgI n).map Val.int := by
  rw [range_eq]
  unfold rgI
  rw [List.map_map]
  rfl
theorem rgI_len (n : Nat) : (rgI n).length = n := by
  unfold rgI
  rw [List.length_map, List.length_range]
theorem rgI_mem {n : Nat} {x : Int} : x ∈ rgI n ↔ 0 ≤ x ∧ x < n := by
  unfold rgI
  rw [List.mem_map]
  constructor
  · rintro ⟨a, ha, rfl⟩
    rw [List.mem_range] at ha
    exact ⟨Int.natCast_nonneg a, by show (a : Int) < n; omega⟩
  · intro h
    exact ⟨x.toNat, List.mem_range.mpr (by omega), by show (x.toNat : Int) = x; omega⟩
theorem rgI_nodup (n : Nat) : (rgI n).Nodup := by
  unfold rgI
  exact List.pairwise_map.mpr ((List.nodup_range (n := n)).imp fun {a b} h e => h (by
    have e' : (a : Int) = b := e
    omega))
theorem nodup_count : ∀ {l : List Int} {x : Int}, l.Nodup → x ∈ l → l.count x = 1
  | y :: l, x, hn, hx => by
    have hc := List.nodup_cons.mp hn
    by_cases e : y = x
    · subst e
      rw [List.count_cons_self, List.count_eq_zero.mpr hc.1]
    · have hm : x ∈ l := (List.mem_cons.mp hx).resolve_left fun z => e z.symm
      rw [List.count_cons_of_ne e, nodup_count hc.2 hm]
theorem rgI_count {n a : Nat} (h : a < n) : (rgI n).count (a : Int) = 1 := nodup_count (rgI_nodup n) (rgI_mem.mpr ⟨by omega, by omega⟩)
theorem Word.perm {n : Nat} {w u : List Int} (h : Word n u) (p : w.Perm u) : Word n w := ⟨p.length_eq.trans h.len, fun x hx => h.rng x (p.mem_iff.mp hx), fun a ha => by rw [p.count_eq, h.two a ha]⟩
theorem Word.clover (n : Nat) : Word n (rgI n ++ rgI n) := by
  refine ⟨by rw [List.length_append, rgI_len]; omega, fun x hx => ?_, fun a ha => by rw [List.count_append, rgI_count ha]⟩
  rcases List.mem_append.mp hx with q | q <;> exact rgI_mem.mp q
theorem Word.nil : Word 0 [] := ⟨rfl, fun x h => (by cases h), fun a h => by omega⟩
theorem P_listRange {m : Mem} {n : Nat} {Q : Val → Mem → Prop} (h : n ≤ 1000000) : Mi.V (ofRV (prim .listRange [.int (Int.ofNat n)] m)) Q = Q (.ref m.n) (m.new (.lst ((rgI n).map Val.int))) := by
  show Mi.V (ofRV (if (decide (Int.ofNat n ≤ 1000000) && decide (-1000000 ≤ Int.ofNat n)) = true then some (.ref m.n, m.new (.lst (rangeV 0 n))) else none)) Q = _
  rw [if_pos, rgI_map]
  · rfl
  · rw [decide_eq_true (show Int.ofNat n ≤ 1000000 by show (n : Int) ≤ 1000000; omega), decide_eq_true (show (-1000000 : Int) ≤ Int.ofNat n by show (-1000000 : Int) ≤ (n : Int); omega)]
    rfl
theorem P_twice {m : Mem} {a : Nat} {xs : List Val} {Q : Val → Mem → Prop} (ha : m.get a = some (.lst xs)) (hz : xs.length ≤ 1000) : Mi.V (ofRV (prim .mul [.ref a, .int 2] m)) Q = Q (.ref m.n) (m.new (.lst (xs ++ xs))) := by
  show Mi.V (ofRV (match m.get a with
    | some (.lst xs) => if small xs && decide ((-1000 : Int) ≤ 2) && decide ((2 : Int) ≤ 1000) && Nat.ble (xs.length * 2) LIM then some (.ref m.n, m.new (.lst (List.replicate 2 xs).flatten)) else none
    | _ => none)) Q = _
  rw [ha]
  simp only []
  rw [if_pos]
  · show Q (.ref m.n) (m.new (.lst (xs ++ (xs ++ [])))) = _
    rw [List.append_nil]
  · rw [small_of (by omega), show Nat.ble (xs.length * 2) LIM = true from Nat.ble_eq_true_of_le (by unfold LIM; omega)]
    rfl
theorem any_spec (j : Nat) {m : Mem} {p most : Nat} (wf : WF m) (hp : PotAt p m) (hm : most ≤ 8) :
    Mi.V (run P (j + 3) 17 [.ref p, .int (Int.ofNat most)] m) fun v m' => ∃ n w, v = tupI w ∧ Word n w ∧ n ≤ most ∧ PotAt p m' ∧ Fr (one p) m m' := by
  have plt := hp.lt wf
  refine V_run (F := f17) rfl rfl ?_
  simp only [f17, b17, W_seq, W_asg, W_name, W_ret', V_call, V_prim, V_cst, L_cons, L_nil, V_var, startS, List.map, List.cons_append, List.nil_append, List.replicate, getS, setS, VI_some, P_add, permL, List.getElem?_cons_zero, List.getElem?_cons_succ, VP_some]
  refine (draw_at (j + 1) wf hp (by show (0 : Int) < (most : Int) + 1; omega) (by show (most : Int) + 1 < 1073741824; omega)).mono fun v m1 ⟨d, e, d0, d1, pot1, f1⟩ => ?_
  subst e
  obtain ⟨n, rfl⟩ := Int.eq_ofNat_of_zero_le d0
  have hn : n ≤ most := by
    have d1' : (n : Int) < (most : Int) + 1 := d1
    omega
  have pl1 := pot1.lt f1.wf
  rw [show ((n : Nat) : Int) = Int.ofNat n from rfl]
  simp only [V_call, V_prim, V_cst, L_cons, L_nil, V_var, getS, VI_some, P_listRange (show n ≤ 1000000 by omega), P_twice get_new_same (show ((rgI n).map Val.int).length ≤ 1000 by rw [List.length_map, rgI_len]; omega), permL, List.getElem?_cons_zero, List.getElem?_cons_succ, VP_some]
  have pot2 : PotAt p ((m1.new (.lst ((rgI n).map Val.int))).new (.lst ((rgI n).map Val.int ++ (rgI n).map Val.int))) := pot1.keep (by
    rw [get_new_lt (by show p < m1.n + 1; omega), get_new_lt pl1])
  refine (shuffled_spec j (ns := rgI n ++ rgI n) f1.wf.new.new pot2 (by rw [List.map_append]; exact get_new_same) (by rw [List.length_append, rgI_len]; omega)).mono fun v m2 ⟨ms, pm, ⟨r, e, hr, h1, h2, f2⟩, pot3⟩ => ?_
  subst e
  rw [P_tupleL hr]
  have ff : Fr (one p) m m2 := ((f1.new).new).trans f2
  refine V_close (flat_ints' _) ⟨n, ms, rfl, (Word.clover n).perm pm, hn, pot3.keep ?_, ff.cut⟩
  rw [get_cut, if_pos plt]
theorem pick_spec (j : Nat) {m : Mem} {p a : Nat} {xs : List Val} (wf : WF m) (hp : PotAt p m) (ha : m.get a = some (.lst xs)) (hne : a ≠ p) (hx : 0 < xs.length) (hz : xs.length ≤ 1000) (hf : ∀ x ∈ xs, x.flat = true) :
    Mi.V (run P (j + 2) 14 [.ref p, .ref a] m) fun v m' => v ∈ xs ∧ PotAt p m' ∧ Fr (one p) m m' := by
  have plt := hp.lt wf
  have alt := wf a _ ha
  refine V_run (F := f14) rfl rfl ?_
  simp only [f14, b14, W_ret', V_call, V_prim, L_cons, L_nil, V_var, startS, List.map, List.cons_append, List.nil_append, List.replicate, getS, VI_some, P_lenL ha, permL, List.getElem?_cons_zero, List.getElem?_cons_succ, VP_some]
  refine (draw_at j wf hp (by show (0 : Int) < (xs.length : Int); omega) (by show (xs.length : Int) < 1073741824; omega)).mono fun v m1 ⟨d, e, d0, d1, pot1, f1⟩ => ?_
  subst e
  obtain ⟨n, rfl⟩ := Int.eq_ofNat_of_zero_le d0
  have d1' : (n : Int) < (xs.length : Int) := d1
  have hn : n < xs.length := by omega
  have ha1 : m1.get a = some (.lst xs) := (f1.get a alt hne).trans ha
  rw [P_item ha1, L2.atI_nat (List.getElem?_eq_getElem hn), VI_some]
  have hm := List.getElem_mem hn
  refine V_close (hf _ hm) ⟨hm, pot1.keep ?_, f1.cut⟩
  rw [get_cut, if_pos plt]
theorem gets_add (n : Int) : ∀ w : List Int, (w.map Val.int).filterMap (fun x => match x with | .int i => some (.int (n + i)) | _ => none) = (w.map fun i => n + i).map Val.int
  | [] => rfl
  | x :: r => by
    rw [List.map_cons, List.filterMap_cons, List.map_cons, List.map_cons, ← gets_add n r]
def join (n : Nat) (u w : List Int) (at_ : Nat) : List Int := u.take at_ ++ w.map (fun i => (n : Int) + i) ++ u.drop at_
theorem joined_spec (j : Nat) {m : Mem} (wf : WF m) (u w : List Int) (at_ n : Nat) (hu : u.length = 2 * n) (hn : n ≤ 100) (hw : w.length ≤ 1000) :
    Mi.V (run P (j + 1) 15 [tupI u, tupI w, .int (Int.ofNat at_)] m) fun v m' => v = tupI (join n u w at_) ∧ Fr no m m' := by
  refine V_run (F := f15) rfl rfl ?_
  have e3 : Int.ofNat u.length / 2 = Int.ofNat n := by
    show (u.length : Int) / 2 = (n : Int)
    omega
  have s1 : ((u.map Val.int).take at_).length ≤ 8000000 := by
    rw [List.length_take, List.length_map]
    omega
  have s2 : ((u.map Val.int).drop at_).length ≤ 8000000 := by
    rw [List.length_drop, List.length_map]
    omega
  have s3 : ((w.map fun i => Int.ofNat n + i).map Val.int).length ≤ 8000000 := by
    rw [List.length_map, List.length_map]
    omega
  have s4 : ((u.map Val.int).take at_ ++ (w.map fun i => Int.ofNat n + i).map Val.int).length ≤ 8000000 := by
    rw [List.length_append, List.length_take, List.length_map, List.length_map, List.length_map]
    omega
  simp (disch := omega) only [f15, b15, tupI, W_seq, W_asg, W_name, W_ret', V_prim, V_cst, L_cons, L_nil, V_var, startS, List.map, List.cons_append, List.nil_append, List.replicate, getS, setS, VI_some, P_lenT, P_fdiv, List.length_map, e3, P_to]
  refine V_lcomp (w.map Val.int) (fun x => match x with | .int i => some (.int (Int.ofNat n + i)) | _ => none) (by rw [List.length_map]; omega) ?_
  simp only [L_cons, L_nil, V_var, getS, VI_some]
  refine ⟨_, src_tup, gives_vals, wf, fun i x m' hx fr => ?_, fun m1 fr lt hg => ?_⟩
  · rw [List.getElem?_map] at hx
    cases hi : w[i]? with
    | none => rw [hi] at hx; cases hx
    | some z =>
      rw [hi] at hx
      cases hx
      refine ⟨_, rfl, ?_⟩
      simp only [V_yes, truth_bl, VT_true, V_prim, L_cons, L_nil, V_var, wipeS, setS, getS, VI_some, P_add]
      exact ⟨trivial, Fr.refl fr.wf⟩
  · rw [gets_add] at hg
    rw [P_tupleL hg, P_addT s1 s3]
    simp only [V_prim, L_cons, L_nil, V_var, getS, VI_some, P_from]
    rw [P_addT s4 s2]
    have e : Val.tup ((u.map Val.int).take at_ ++ (w.map fun i => Int.ofNat n + i).map Val.int ++ (u.map Val.int).drop at_) = tupI (join n u w at_) := by
      unfold tupI join
      rw [List.map_append, List.map_append, List.map_take, List.map_drop]
      rfl
    rw [e]
    exact V_close (flat_ints' _) ⟨rfl, fr.cut⟩
end K98

namespace K98
open Mi L2
theorem join_perm (n : Nat) (u w : List Int) (a : Nat) : (join n u w a).Perm (u ++ w.map fun i => (n : Int) + i) := by
  unfold join
  have h : (u.take a ++ (w.map (fun i => (n : Int) + i) ++ u.drop a)).Perm (u.take a ++ (u.drop a ++ w.map fun i => (n : Int) + i)) := (List.perm_append_comm).append_left _
  rw [← List.append_assoc, ← List.append_assoc, List.take_append_drop] at h
  exact h
theorem count_shift (n : Int) (x : Int) : ∀ w : List Int, (w.map fun i => n + i).count x = w.count (x - n)
  | [] => rfl
  | y :: r => by
    have ih := count_shift n x r
    rw [List.map_cons]
    by_cases h : y = x - n
    · subst h
      rw [show n + (x - n) = x by omega, List.count_cons_self, List.count_cons_self, ih]
    · rw [List.count_cons_of_ne (fun e => h (by omega)), List.count_cons_of_ne h, ih]
theorem Word.join {n k : Nat} {u w : List Int} (h1 : Word n u) (h2 : Word k w) (a : Nat) : Word (n + k) (join n u w a) := by
  refine Word.perm ⟨?_, fun x hx => ?_, fun a ha => ?_⟩ (join_perm n u w a)
  · rw [List.length_append, List.length_map, h1.len, h2.len]
    omega
  · rcases List.mem_append.mp hx with q | q
    · have := h1.rng x q
      omega
    · obtain ⟨i, hi, rfl⟩ := List.mem_map.mp q
      have := h2.rng i hi
      omega
  · rw [List.count_append, count_shift]
    by_cases h : a < n
    · rw [h1.two a h, List.count_eq_zero.mpr (fun z => by
        have := h2.rng _ z
        omega)]
    · rw [List.count_eq_zero.mpr (fun z => by
        have := h1.rng _ z
        omega), show (a : Int) - (n : Int) = ((a - n : Nat) : Int) by omega, h2.two (a - n) (by omega)]
def ren (ms : List Int) (w : List Int) : List Int := w.map fun x => ms.getD x.toNat 0
theorem ren_count {ms : List Int} {n i : Nat} {a : Int} (hn : ms.Nodup) (hl : ms.length = n) (hi : ms[i]? = some a) : ∀ w : List Int, (∀ x ∈ w, 0 ≤ x ∧ x < n) → (ren ms w).count a = w.count (i : Int)
  | [], _ => rfl
  | x :: r, h => by
    have ih := ren_count hn hl hi r fun y hy => h y (List.mem_cons_of_mem _ hy)
    have hx := h x List.mem_cons_self
    have il : i < ms.length := (List.getElem?_eq_some_iff.mp hi).1
    have ia : ms[i] = a := (List.getElem?_eq_some_iff.mp hi).2
    have xl : x.toNat < ms.length := by omega
    show (ms.getD x.toNat 0 :: ren ms r).count a = _
    have e1 : ms.getD x.toNat 0 = ms[x.toNat] := by
      rw [List.getD_eq_getElem?_getD, List.getElem?_eq_getElem xl]
      rfl
    by_cases e : x = (i : Int)
    · subst e
      have e2 : ms.getD ((i : Int)).toNat 0 = a := by
        rw [Int.toNat_natCast, List.getD_eq_getElem?_getD, hi]
        rfl
      rw [e2, List.count_cons_self, List.count_cons_self, ih]
    · rw [List.count_cons_of_ne e, List.count_cons_of_ne ?_, ih]
      rw [e1]
      intro z
      have := (List.getElem_inj (h₀ := xl) (h₁ := il) hn).mp (z.trans ia.symm)
      omega
theorem Word.ren {n : Nat} {w ms : List Int} (h : Word n w) (pm : ms.Perm (rgI n)) : Word n (ren ms w) := by
  have hl : ms.length = n := by rw [pm.length_eq, rgI_len]
  have hn : ms.Nodup := pm.nodup_iff.mpr (rgI_nodup n)
  refine ⟨by unfold K98.ren; rw [List.length_map, h.len], fun x hx => ?_, fun a ha => ?_⟩
  · unfold K98.ren at hx
    obtain ⟨y, hy, rfl⟩ := List.mem_map.mp hx
    have hr := h.rng y hy
    have yl : y.toNat < ms.length := by omega
    rw [List.getD_eq_getElem?_getD, List.getElem?_eq_getElem yl]
    exact rgI_mem.mp (pm.mem_iff.mp (List.getElem_mem yl))
  · have hm : (a : Int) ∈ ms := pm.mem_iff.mpr (rgI_mem.mpr ⟨by omega, by omega⟩)
    obtain ⟨i, hi⟩ := List.mem_iff_getElem?.mp hm
    rw [ren_count hn hl hi w h.rng, h.two i (by
      have := (List.getElem?_eq_some_iff.mp hi).1
      omega)]
def gN (ms : List Int) : Val → Option Val
  | .int i => some (.int (ms.getD i.toNat 0))
  | _ => none
theorem gN_map (ms : List Int) : ∀ w : List Int, (w.map Val.int).filterMap (gN ms) = (ren ms w).map Val.int
  | [] => rfl
  | x :: r => by
    rw [List.map_cons, List.filterMap_cons]
    show Val.int _ :: (r.map Val.int).filterMap (gN ms) = _
    rw [gN_map ms r]
    rfl
theorem many_of {n : Nat} {w : List Int} (h : Word n w) : Int.ofNat w.length / 2 = Int.ofNat n := by
  have := h.len
  show (w.length : Int) / 2 = (n : Int)
  omega
theorem clovers_spec (j : Nat) {m : Mem} {p most : Nat} (wf : WF m) (hp : PotAt p m) (hm : most ≤ 8) :
    Mi.V (run P (j + 3) 16 [.ref p, .int (Int.ofNat most)] m) fun v m' => ∃ n w, v = tupI w ∧ Word n w ∧ n ≤ most ∧ PotAt p m' ∧ Fr (one p) m m' := by
  have plt := hp.lt wf
  refine V_run (F := f16) rfl rfl ?_
  have l0 : ([] : List Val).length ≤ 8000000 := by decide
  simp only [f16, b16, W_seq, W_asg, W_name, V_prim, L_nil, P_tupD l0, startS, List.map, List.cons_append, List.nil_append, List.replicate, setS]
  refine W_forE ?_
  simp only [L_cons, L_nil, V_prim, V_cst, V_call, V_var, getS, VI_some, permL, List.getElem?_cons_zero, List.getElem?_cons_succ, VP_some]
  refine (draw_at (j + 1) wf hp (by decide) (by decide)).mono fun v m1 ⟨d, e, d0, d1, pot1, f1⟩ => ?_
  subst e
  obtain ⟨c, rfl⟩ := Int.eq_ofNat_of_zero_le d0
  have hc : c < 3 := by omega
  rw [show ((c : Nat) : Int) = Int.ofNat c from rfl, P_add, show (1 : Int) + Int.ofNat c = Int.ofNat (1 + c) by show (1 : Int) + (c : Int) = ((1 + c : Nat) : Int); omega]
  refine ⟨_, (List.range (1 + c)).map fun i => Val.int (Int.ofNat i), fun _ σ m' => ∃ n w y z, σ = [some (.ref p), some (.int (Int.ofNat most)), some (tupI w), y, z, none, none] ∧ Word n w ∧ n ≤ most ∧ PotAt p m' ∧ Fr (one p) m m',
    src_rg1 (by show (-1000000 : Int) ≤ ((1 + c : Nat) : Int); omega) (by show ((1 + c : Nat) : Int) ≤ 1000000; omega), by rw [range_eq]; exact gives_vals, ⟨0, [], none, none, rfl, Word.nil, Nat.zero_le _, pot1, f1⟩, fun i x σ m2 hx ⟨n, w, y, z, e, hw, hn, pot2, f2⟩ => ?_, fun σ m2 ⟨n, w, y, z, e, hw, hn, pot2, f2⟩ => ?_⟩
  · subst e
    obtain ⟨hi, rfl⟩ := range_at hx
    have p2 := pot2.lt f2.wf
    refine ⟨_, rfl, ?_⟩
    have l5 : [Val.int 1, Val.int 1, Val.int 3, Val.int 3, Val.int 5].length ≤ 8000000 := by simp
    simp only [setS, W_seq, W_asg, V_call, V_prim, V_cst, V_var, L_cons, L_nil, getS, VI_some, P_lstD l5, permL, List.getElem?_cons_zero, List.getElem?_cons_succ, VP_some]
    refine (pick_spec j f2.wf.new (pot2.keep (get_new_lt p2)) get_new_same (by omega) (by simp) (by simp) (by simp [Val.flat])).mono fun v m3 ⟨hv, pot3, f3⟩ => ?_
    have f23 : Fr (one p) m m3 := (f2.new).trans f3
    obtain ⟨k, hk, rfl⟩ : ∃ k : Nat, k ≤ 5 ∧ v = .int (Int.ofNat k) := by
      simp only [List.mem_cons, List.not_mem_nil, or_false] at hv
      rcases hv with h | h | h | h | h
      · exact ⟨1, by omega, h⟩
      · exact ⟨1, by omega, h⟩
      · exact ⟨3, by omega, h⟩
      · exact ⟨3, by omega, h⟩
      · exact ⟨5, by omega, h⟩
    have wl := hw.len
    simp (disch := omega) only [W_name, setS, W_sif, V_prim, V_cst, V_var, L_cons, L_nil, getS, VI_some, tupI, P_lenT, P_fdiv, P_add, P_le, truth_bl, VT_dec, List.length_map, many_of hw]
    refine ⟨fun h => ?_, fun h => ?_⟩
    · have hk2 : n + k ≤ most := by
        have h' : (n : Int) + (k : Int) ≤ (most : Int) := h
        omega
      simp only [W_asg, V_call, V_prim, V_cst, V_var, L_cons, L_nil, getS, VI_some, P_listRange (show k ≤ 1000000 by omega), P_twice get_new_same (show ((rgI k).map Val.int).length ≤ 1000 by rw [List.length_map, rgI_len]; omega), P_tupleL get_new_same, P_lenT, P_add, permL, List.getElem?_cons_zero, List.getElem?_cons_succ, VP_some]
      have p3 := pot3.lt f3.wf
      have pot4 : PotAt p ((m3.new (.lst ((rgI k).map Val.int))).new (.lst ((rgI k).map Val.int ++ (rgI k).map Val.int))) := pot3.keep (by
        rw [get_new_lt (by show p < m3.n + 1; omega), get_new_lt p3])
      rw [List.length_map]
      refine (draw_at (j + 1) f3.wf.new.new pot4 (by show (0 : Int) < (w.length : Int) + 1; omega) (by show (w.length : Int) + 1 < 1073741824; omega)).mono fun v m4 ⟨d, e, d0, d1, pot5, f4⟩ => ?_
      subst e
      obtain ⟨at_, rfl⟩ := Int.eq_ofNat_of_zero_le d0
      have e2 : Val.tup ((rgI k).map Val.int ++ (rgI k).map Val.int) = tupI (rgI k ++ rgI k) := by
        unfold tupI
        rw [List.map_append]
      have f24 : Fr (one p) m m4 := ((f23.new).new).trans f4
      refine (joined_spec (j + 1) f4.wf w (rgI k ++ rgI k) at_ n hw.len (by omega) (by rw [List.length_append, rgI_len]; omega) |> fun h => ?_)
      rw [e2]
      refine V.mono h fun v m5 ⟨e, f5⟩ => ?_
      subst e
      rw [W_name]
      exact ⟨n + k, _, _, _, rfl, hw.join (Word.clover k) at_, hk2, pot5.fr f4.wf f5, f24.trans (f5.mono fun _ _ q => q.elim)⟩
    · rw [W_pass]
      exact ⟨n, w, _, _, rfl, hw, hn, pot3, f23⟩
  · subst e
    have wl := hw.len
    simp (disch := omega) only [W_seq, W_asg, V_call, V_prim, V_cst, V_var, L_cons, L_nil, getS, VI_some, tupI, P_lenT, P_fdiv, List.length_map, many_of hw, P_listRange (show n ≤ 1000000 by omega), permL, List.getElem?_cons_zero, List.getElem?_cons_succ, VP_some]
    have p2 := pot2.lt f2.wf
    refine (shuffled_spec j (ns := rgI n) f2.wf.new (pot2.keep (get_new_lt p2)) get_new_same (by rw [rgI_len]; omega)).mono fun v m3 ⟨ms, pm, ⟨r, e, hr, h1, h2, f3⟩, pot3⟩ => ?_
    subst e
    have f23 : Fr (one p) m m3 := (f2.new).trans f3
    simp only [W_name, setS, W_ret', V_prim, L_cons, L_nil]
    refine V_lcomp (w.map Val.int) (gN ms) (by rw [List.length_map]; omega) ?_
    simp only [L_cons, L_nil, V_var, getS, VI_some]
    refine ⟨_, src_tup, gives_vals, f3.wf, fun i x m' hx fr => ?_, fun m4 f4 lt4 hg => ?_⟩
    · rw [List.getElem?_map] at hx
      cases hi : w[i]? with
      | none => rw [hi] at hx; cases hx
      | some z =>
        rw [hi] at hx
        cases hx
        have hz := hw.rng z (List.mem_of_getElem? hi)
        have ml : ms.length = n := by rw [pm.length_eq, rgI_len]
        obtain ⟨q, rfl⟩ := Int.eq_ofNat_of_zero_le hz.1
        have ql : q < ms.length := by omega
        refine ⟨_, rfl, ?_⟩
        have hr' : m'.get r = some (.lst (ms.map Val.int)) := (fr.get r h2 id).trans hr
        simp only [V_yes, truth_bl, VT_true, V_prim, L_cons, L_nil, V_var, wipeS, setS, getS, VI_some]
        rw [P_item hr', L2.atI_nat (show (ms.map Val.int)[q]? = some (.int ms[q]) by rw [List.getElem?_map, List.getElem?_eq_getElem ql]; rfl), VI_some]
        refine ⟨?_, Fr.refl fr.wf⟩
        show some (Val.int (ms.getD ((q : Int)).toNat 0)) = _
        rw [Int.toNat_natCast, List.getD_eq_getElem?_getD, List.getElem?_eq_getElem ql]
        rfl
    · rw [gN_map] at hg
      rw [P_tupleL hg]
      have ff : Fr (one p) m m4 := f23.trans (f4.mono fun _ _ q => q.elim)
      refine V_close (flat_ints' _) ⟨n, ren ms w, rfl, hw.ren pm, hn, PotAt.keep (pot3.fr f3.wf f4) ?_, ff.cut⟩
      rw [get_cut, if_pos plt]
theorem word_draw (j : Nat) {m : Mem} {p most : Nat} (wf : WF m) (hp : PotAt p m) (hm : most ≤ 8) :
    Mi.V (run P (j + 4) 18 [.ref p, .int (Int.ofNat most)] m) fun v m' => ∃ n w, v = tupI w ∧ Word n w ∧ n ≤ most ∧ PotAt p m' ∧ Fr (one p) m m' := by
  have plt := hp.lt wf
  refine V_run (F := f18) rfl rfl ?_
  simp only [f18, b18, W_ret', V_ite, V_prim, V_call, V_cst, L_cons, L_nil, V_var, startS, List.map, List.cons_append, List.nil_append, List.replicate, getS, VI_some, permL, List.getElem?_cons_zero, List.getElem?_cons_succ, VP_some]
  refine (draw_at (j + 2) wf hp (by decide) (by decide)).mono fun v m1 ⟨d, e, d0, d1, pot1, f1⟩ => ?_
  subst e
  rw [P_eq, eq_ints]
  simp only [VB_some, truth_bl, VT_dec]
  have fin : ∀ v m2, (∃ n w, v = tupI w ∧ Word n w ∧ n ≤ most ∧ PotAt p m2 ∧ Fr (one p) m1 m2) → Mi.V (close m.n v m2) fun v m' => ∃ n w, v = tupI w ∧ Word n w ∧ n ≤ most ∧ PotAt p m' ∧ Fr (one p) m m' := fun v m2 ⟨n, w, e, hw, hn, pot2, f2⟩ => by
    subst e
    refine V_close (flat_ints' _) ⟨n, w, rfl, hw, hn, pot2.keep ?_, (f1.trans f2).cut⟩
    rw [get_cut, if_pos plt]
  exact ⟨fun _ => (clovers_spec j f1.wf pot1 hm).mono fin, fun _ => (any_spec j f1.wf pot1 hm).mono fin⟩
end K98

namespace K98
open Mi L2
def potE : S := (.ret (.prim .lstD (.cons (.prim .max2 (.cons (.cst (.int 0)) (.cons (.prim .sub (.cons (.var 2) (.cons (.prim .pow (.cons (.cst (.int 10)) (.cons (.cst (.int 18)) .nil))) .nil))) .nil))) (.cons (.prim .add (.cons (.prim .mod (.cons (.prim .int (.cons (.prim .add (.cons (.prim .add (.cons (.prim .mul (.cons (.prim .mod (.cons (.prim .int (.cons (.var 2) .nil)) (.cons (.cst (.int 2147483549)) .nil))) (.cons (.cst (.int 41201)) .nil))) (.cons (.prim .mul (.cons (.cst (.int 631)) (.cons (.var 1) .nil))) .nil))) (.cons (.cst (.int 59)) .nil))) .nil)) (.cons (.cst (.int 2147483563)) .nil))) (.cons (.cst (.int 1)) .nil))) .nil))))
theorem pot_ok (c e t : Int) : PotOk (if c - e > 0 then c - e else 0) (t % 2147483563 + 1) := by
  have h1 := Int.emod_nonneg t (show (2147483563 : Int) ≠ 0 by decide)
  have h2 := Int.emod_lt_of_pos t (show (0 : Int) < 2147483563 by decide)
  generalize t % 2147483563 = u at h1 h2 ⊢
  refine ⟨?_, by omega, by omega⟩
  split
  · rename_i h
    exact Int.le_of_lt h
  · exact Int.le_refl 0
theorem pot_fin {m : Mem} {c : Int} {k : Nat} (call : Nat → List Val → Mem → Res) {s : Option Val} {QS : Sta → Mem → Prop} {R : Val → Mem → Prop} (h : ∀ a b, PotOk a b → R (.ref m.n) (m.new (.lst [.int a, .int b]))) :
    W (potE.ev call [s, some (.int (Int.ofNat k)), some (.int c)] m) QS R := by
  have l2 : ∀ a b : Val, [a, b].length ≤ 8000000 := fun a b => by simp
  simp (disch := omega) only [potE, W_ret', V_prim, V_cst, V_var, L_cons, L_nil, getS, VI_some, P_pow18, P_sub, P_max2, P_int, P_mod, P_mul, P_mulL, P_add, P_lstD (l2 _ _)]
  exact h _ _ (pot_ok _ _ _)
theorem pot_spec (j : Nat) {m : Mem} {ns : List Int} {k : Nat} (wf : WF m) (hk : k ≤ 10) (h0 : m.get 0 = some (.rol (ns.map Val.int))) : Mi.V (run P (j + 1) 0 [.ref 0, .int (Int.ofNat k)] m) fun v m' => ∃ r, v = .ref r ∧ PotAt r m' ∧ m.n ≤ r ∧ Fr no m m' := by
  refine V_run (F := f0) rfl rfl ?_
  have fin : ∀ a b, PotOk a b → Mi.V (close m.n (.ref m.n) (m.new (.lst [.int a, .int b]))) fun v m' => ∃ r, v = .ref r ∧ PotAt r m' ∧ m.n ≤ r ∧ Fr no m m' := fun a b ok =>
    V_close' ⟨_, rfl, ⟨a, b, get_new_same, ok⟩, Nat.le_refl _, (Fr.refl wf).new⟩
  have eb : b0 = .seq (.asg (.name 2) (.prim .add (.cons (.prim .mul (.cons (.cst (.int 1019)) (.cons (.var 1) .nil))) (.cons (.cst (.int 631)) .nil)))) (.seq (.sif (.prim .lt (.cons (.var 1) (.cons (.prim .len (.cons (.var 0) .nil)) .nil))) (.asg (.name 2) (.prim .abs (.cons (.prim .item (.cons (.var 0) (.cons (.var 1) .nil))) .nil))) .pass) potE) := rfl
  show W (b0.ev (run P j) _ m) _ _
  rw [eb]
  simp (disch := omega) only [f0, W_seq, W_asg, W_name, W_sif, V_prim, V_cst, V_var, L_cons, L_nil, startS, List.map, List.cons_append, List.nil_append, List.replicate, getS, setS, VI_some, P_mulL, P_add, P_lenR h0, P_lt, truth_bl, VT_dec, W_pass, P_itemR h0]
  refine ⟨fun h => ?_, fun h => ?_⟩
  rotate_left
  · generalize (1019 : Int) * Int.ofNat k + 631 = c
    generalize hR : (fun (v : Val) (m' : Mem) => Mi.V (close m.n v m') fun v m' => ∃ r, v = .ref r ∧ PotAt r m' ∧ m.n ≤ r ∧ Fr no m m') = R
    refine pot_fin (R := R) (run P j) fun a b ok => ?_
    rw [← hR]
    exact fin a b ok
  rw [List.length_map] at h
  have hl : k < ns.length := by
    have h' : (k : Int) < (ns.length : Int) := h
    omega
  rw [show L2.atI (ns.map Val.int) (Int.ofNat k) = some (.int ns[k]) from L2.atI_nat (by rw [List.getElem?_map, List.getElem?_eq_getElem hl]; rfl), VI_some, P_abs]
  generalize (if ns[k] < 0 then -ns[k] else ns[k]) = c
  generalize hR : (fun (v : Val) (m' : Mem) => Mi.V (close m.n v m') fun v m' => ∃ r, v = .ref r ∧ PotAt r m' ∧ m.n ≤ r ∧ Fr no m m') = R
  refine pot_fin (R := R) (run P j) fun a b ok => ?_
  rw [← hR]
  exact fin a b ok
end K98

namespace K98
open Mi L2
/-! ### renamed anew -/
theorem idx_lt : ∀ (s : List Int) {x : Int}, x ∈ s → idx s x < s.length
  | y :: s, x, h => by
    show (if y = x then 0 else idx s x + 1) < s.length + 1
    by_cases e : y = x
    · rw [if_pos e]
      omega
    · rw [if_neg e]
      have := idx_lt s (x := x) (by
        rcases List.mem_cons.mp h with q | q
        · exact absurd q.symm e
        · exact q)
      omega
theorem idx_inj : ∀ (s : List Int) {x y : Int}, x ∈ s → y ∈ s → idx s x = idx s y → x = y
  | z :: s, x, y, hx, hy, e => by
    have e' : (if z = x then 0 else idx s x + 1) = (if z = y then 0 else idx s y + 1) := e
    by_cases e1 : z = x
    · by_cases e2 : z = y
      · exact e1.symm.trans e2
      · rw [if_pos e1, if_neg e2] at e'
        omega
    · by_cases e2 : z = y
      · rw [if_neg e1, if_pos e2] at e'
        omega
      · rw [if_neg e1, if_neg e2] at e'
        refine idx_inj s ?_ ?_ (by omega)
        · rcases List.mem_cons.mp hx with q | q
          · exact absurd q.symm e1
          · exact q
        · rcases List.mem_cons.mp hy with q | q
          · exact absurd q.symm e2
          · exact q
theorem idx_app : ∀ (s t : List Int) {x : Int}, x ∈ s → idx (s ++ t) x = idx s x
  | z :: s, t, x, h => by
    show (if z = x then 0 else idx (s ++ t) x + 1) = (if z = x then 0 else idx s x + 1)
    by_cases e : z = x
    · rw [if_pos e, if_pos e]
    · rw [if_neg e, if_neg e, idx_app s t (x := x) (by
        rcases List.mem_cons.mp h with q | q
        · exact absurd q.symm e
        · exact q)]
theorem idx_map (f : Int → Int) : ∀ (s : List Int) (x : Int), (∀ y ∈ s, f y = f x → y = x) → idx (s.map f) (f x) = idx s x
  | [], x, _ => rfl
  | z :: s, x, h => by
    show (if f z = f x then 0 else idx (s.map f) (f x) + 1) = (if z = x then 0 else idx s x + 1)
    rw [idx_map f s x fun y hy => h y (List.mem_cons_of_mem _ hy)]
    by_cases e : z = x
    · rw [if_pos e, if_pos (by rw [e])]
    · rw [if_neg e, if_neg fun q => e (h z List.mem_cons_self q)]
theorem relabA_map (f : Int → Int) : ∀ (l s : List Int), (∀ x, x ∈ s ∨ x ∈ l → ∀ y, y ∈ s ∨ y ∈ l → f x = f y → x = y) → relabA (s.map f) (l.map f) = relabA s l
  | [], s, _ => rfl
  | x :: r, s, h => by
    have hx : x ∈ s ∨ x ∈ x :: r := .inr List.mem_cons_self
    have mem : f x ∈ s.map f ↔ x ∈ s := by
      constructor
      · intro q
        obtain ⟨y, hy, e⟩ := List.mem_map.mp q
        exact h y (.inl hy) x hx e ▸ hy
      · exact fun q => List.mem_map_of_mem q
    show (if f x ∈ s.map f then Int.ofNat (idx (s.map f) (f x)) :: relabA (s.map f) (r.map f) else Int.ofNat (s.map f).length :: relabA (s.map f ++ [f x]) (r.map f)) = (if x ∈ s then Int.ofNat (idx s x) :: relabA s r else Int.ofNat s.length :: relabA (s ++ [x]) r)
    by_cases q : x ∈ s
    · rw [if_pos q, if_pos (mem.mpr q), idx_map f s x fun y hy e => h y (.inl hy) x hx e, relabA_map f r s fun a ha b hb => h a (ha.imp id (List.mem_cons_of_mem _)) b (hb.imp id (List.mem_cons_of_mem _))]
    · rw [if_neg q, if_neg fun z => q (mem.mp z), List.length_map]
      have ih := relabA_map f r (s ++ [x]) fun a ha b hb => by
        have w : ∀ a, a ∈ s ++ [x] ∨ a ∈ r → a ∈ s ∨ a ∈ x :: r := fun a ha => by
          rcases ha with ha | ha
          · rcases List.mem_append.mp ha with ha | ha
            · exact .inl ha
            · exact .inr (List.mem_singleton.mp ha ▸ List.mem_cons_self)
          · exact .inr (List.mem_cons_of_mem _ ha)
        exact h a (w a ha) b (w b hb)
      rw [List.map_append] at ih
      rw [← ih]
      rfl
theorem seenOf_app : ∀ (l s : List Int), ∃ t, seenOf s l = s ++ t
  | [], s => ⟨[], (List.append_nil s).symm⟩
  | x :: r, s => by
    show ∃ t, (if x ∈ s then seenOf s r else seenOf (s ++ [x]) r) = s ++ t
    by_cases q : x ∈ s
    · rw [if_pos q]
      exact seenOf_app r s
    · rw [if_neg q]
      obtain ⟨t, e⟩ := seenOf_app r (s ++ [x])
      exact ⟨[x] ++ t, by rw [e, List.append_assoc]⟩
theorem relabA_eq : ∀ (l s : List Int), relabA s l = l.map fun x => Int.ofNat (idx (seenOf s l) x)
  | [], s => rfl
  | x :: r, s => by
    show (if x ∈ s then Int.ofNat (idx s x) :: relabA s r else Int.ofNat s.length :: relabA (s ++ [x]) r) = (x :: r).map fun y => Int.ofNat (idx (if x ∈ s then seenOf s r else seenOf (s ++ [x]) r) y)
    by_cases q : x ∈ s
    · simp only [if_pos q, List.map_cons]
      obtain ⟨t, e⟩ := seenOf_app r s
      rw [relabA_eq r s]
      congr 2
      rw [e, idx_app s t q]
    · simp only [if_neg q, List.map_cons]
      obtain ⟨t, e⟩ := seenOf_app r (s ++ [x])
      rw [relabA_eq r (s ++ [x])]
      congr 2
      rw [e, idx_app (s ++ [x]) t (by simp), idx_snoc s x q]
theorem seenOf_nodup : ∀ (l s : List Int), s.Nodup → (seenOf s l).Nodup
  | [], s, h => h
  | x :: r, s, h => by
    show (if x ∈ s then seenOf s r else seenOf (s ++ [x]) r).Nodup
    by_cases q : x ∈ s
    · rw [if_pos q]
      exact seenOf_nodup r s h
    · rw [if_neg q]
      refine seenOf_nodup r _ ?_
      rw [List.nodup_append]
      exact ⟨h, by simp, fun a ha b hb e => q (List.mem_singleton.mp hb ▸ e ▸ ha)⟩
/-- as the letters come -/
def fN (w : List Int) (x : Int) : Int := Int.ofNat (idx (seenOf [] w) x)
theorem relab_eq (w : List Int) : relab w = w.map (fN w) := relabA_eq w []
theorem fN_inj {w : List Int} {x y : Int} (hx : x ∈ w) (hy : y ∈ w) (e : fN w x = fN w y) : x = y := by
  refine idx_inj (seenOf [] w) ((seenOf_mem [] w x).mpr (.inr hx)) ((seenOf_mem [] w y).mpr (.inr hy)) ?_
  exact Int.ofNat.inj e
theorem relab_map {f : Int → Int} {w : List Int} (h : ∀ x ∈ w, ∀ y ∈ w, f x = f y → x = y) : relab (w.map f) = relab w :=
  relabA_map f w [] fun x hx y hy => h x (hx.resolve_left (by simp)) y (hy.resolve_left (by simp))
theorem relab_relab (w : List Int) : relab (relab w) = relab w := by
  rw [relab_eq w, relab_map fun x hx y hy e => fN_inj hx hy e, ← relab_eq]
theorem rot_map (f : Int → Int) (w : List Int) (a : Nat) : rot (w.map f) a = (rot w a).map f := by
  unfold rot
  rw [List.map_append, List.map_drop, List.map_take]
theorem rot_mem {w : List Int} {a : Nat} {x : Int} (h : x ∈ rot w a) : x ∈ w := by
  unfold rot at h
  rcases List.mem_append.mp h with q | q
  · exact List.mem_of_mem_drop q
  · exact List.mem_of_mem_take q
theorem rds_map {f : Int → Int} {w : List Int} (h : ∀ x ∈ w, ∀ y ∈ w, f x = f y → x = y) : rds (w.map f) = rds w := by
  unfold rds
  rw [List.length_map]
  refine List.map_congr_left fun a _ => ?_
  rw [rot_map]
  exact relab_map fun x hx y hy => h x (rot_mem hx) y (rot_mem hy)
theorem allR_map {f : Int → Int} {w : List Int} (h : ∀ x ∈ w, ∀ y ∈ w, f x = f y → x = y) : allR (w.map f) = allR w := by
  unfold allR
  rw [rds_map h, ← List.map_reverse, rds_map fun x hx y hy => h x (List.mem_reverse.mp hx) y (List.mem_reverse.mp hy)]
theorem normal_relab (w : List Int) : normal (relab w) = normal w := by
  unfold normal
  rw [relab_eq, allR_map fun x hx y hy e => fN_inj hx hy e]
theorem relabA_take : ∀ (l s : List Int) (i : Nat), relabA s (l.take i) = (relabA s l).take i
  | [], s, i => by simp [relabA]
  | x :: r, s, 0 => by simp [relabA]
  | x :: r, s, i + 1 => by
    show (if x ∈ s then Int.ofNat (idx s x) :: relabA s (r.take i) else Int.ofNat s.length :: relabA (s ++ [x]) (r.take i)) = (if x ∈ s then Int.ofNat (idx s x) :: relabA s r else Int.ofNat s.length :: relabA (s ++ [x]) r).take (i + 1)
    by_cases q : x ∈ s
    · rw [if_pos q, if_pos q, List.take_succ_cons, relabA_take r s i]
    · rw [if_neg q, if_neg q, List.take_succ_cons, relabA_take r _ i]
theorem count_inj {f : Int → Int} {y : Int} : ∀ l : List Int, (∀ x ∈ l, f x = f y → x = y) → (l.map f).count (f y) = l.count y
  | [], _ => rfl
  | x :: r, h => by
    rw [List.map_cons, List.count_cons, List.count_cons, count_inj r fun z hz => h z (List.mem_cons_of_mem _ hz)]
    by_cases e : x = y
    · subst e
      simp
    · have : f x ≠ f y := fun q => e (h x List.mem_cons_self q)
      simp [e, this]
section
variable {n : Nat} {w : List Int}
theorem Word.relab_mem (h : Word n w) {x : Int} (hx : x ∈ relab w) : (∃ l : Nat, l < n ∧ x = Int.ofNat l) ∧ (relab w).count x = 2 := by
  rw [relab_eq] at hx
  obtain ⟨y, hy, e⟩ := List.mem_map.mp hx
  subst e
  refine ⟨⟨idx (seenOf [] w) y, ?_, rfl⟩, ?_⟩
  · have h1 := idx_lt _ ((seenOf_mem [] w y).mpr (.inr hy))
    have h2 := nodup_le (D := rgI n) (seenOf_nodup w [] List.nodup_nil) fun x hx => rgI_mem.mpr (h.rng x (((seenOf_mem [] w x).mp hx).resolve_left (by simp)))
    rw [rgI_len] at h2
    omega
  · rw [relab_eq, count_inj w fun x hx e => fN_inj hx hy e]
    have := h.rng y hy
    have h2 := h.two y.toNat (by omega)
    rwa [Int.toNat_of_nonneg this.1] at h2
theorem Word.stg (h : Word n w) : ∀ i, i ≤ 2 * n → (relab w).take i ∈ stgL n i
  | 0, _ => by
    rw [List.take_zero]
    exact List.mem_singleton.mpr rfl
  | i + 1, hi => by
    have ih := h.stg i (by omega)
    have hl : (relab w).length = 2 * n := by
      unfold relab
      rw [relab_len, h.len]
    have il : i < (relab w).length := by omega
    have tk : (relab w).take (i + 1) = (relab w).take i ++ [(relab w)[i]] := by
      rw [List.take_add_one, List.getElem?_eq_getElem il]
      rfl
    obtain ⟨⟨l, ln, e⟩, ct⟩ := h.relab_mem (List.getElem_mem il)
    have wl : (relab w).take (i + 1) = relab ((relab w).take (i + 1)) := by
      unfold relab
      rw [relabA_take]
      show _ = (relab (relab w)).take (i + 1)
      rw [relab_relab]
      rfl
    have ct2 : ((relab w).take (i + 1)).count (Int.ofNat l) ≤ 2 := by
      rw [← ct, e]
      exact (List.take_sublist _ _).count_le _
    rw [tk, e] at ct2 wl ⊢
    rw [List.count_append] at ct2
    refine List.mem_flatMap.mpr ⟨_, ih, List.mem_filterMap.mpr ⟨l, List.mem_range.mpr ln, ?_⟩⟩
    rw [if_pos]
    unfold okL
    rw [decide_eq_true (by
      have : [Int.ofNat l].count (Int.ofNat l) = 1 := by simp
      omega), decide_eq_true wl.symm]
    rfl
theorem Word.stg_end (h : Word n w) : relab w ∈ stgL n (2 * n) := by
  have := h.stg (2 * n) (Nat.le_refl _)
  rwa [List.take_of_length_le] at this
  unfold relab
  rw [relab_len, h.len]
  exact Nat.le_refl _
end
/-! ### the least -/
theorem minK_mem (k : List Int) : ∀ ks : List (List Int), minK k ks ∈ k :: ks := fun ks => by
  induction ks generalizing k with
  | nil => exact List.mem_singleton.mpr rfl
  | cons x r ih =>
    show minK (if lexLt x k then x else k) r ∈ _
    rcases List.mem_cons.mp (ih (if lexLt x k then x else k)) with q | q
    · rw [q]
      split
      · exact List.mem_cons_of_mem _ List.mem_cons_self
      · exact List.mem_cons_self
    · exact List.mem_cons_of_mem _ (List.mem_cons_of_mem _ q)
theorem minK_le (k : List Int) : ∀ ks : List (List Int), ∀ x ∈ k :: ks, lexLt x (minK k ks) = false := fun ks => by
  induction ks generalizing k with
  | nil =>
    intro x hx
    rw [List.mem_singleton.mp hx]
    exact lexLt_irrefl _
  | cons y r ih =>
    have h1 := ih (if lexLt y k then y else k)
    show ∀ x ∈ k :: y :: r, lexLt x (minK (if lexLt y k then y else k) r) = false
    generalize minK (if lexLt y k then y else k) r = m at h1 ⊢
    have h2 := h1 _ List.mem_cons_self
    intro x hx
    by_cases c : lexLt y k = true
    · rw [if_pos c] at h2
      rcases List.mem_cons.mp hx with q | q
      · subst q
        cases e : lexLt x m with
        | false => rfl
        | true => rw [lexLt_trans c e] at h2; cases h2
      · rcases List.mem_cons.mp q with q | q
        · subst q
          exact h2
        · exact h1 x (List.mem_cons_of_mem _ q)
    · rw [if_neg c] at h2
      have c' : lexLt y k = false := by simpa using c
      rcases List.mem_cons.mp hx with q | q
      · subst q
        exact h2
      · rcases List.mem_cons.mp q with q | q
        · subst q
          exact leK_trans h2 c'
        · exact h1 x (List.mem_cons_of_mem _ q)
theorem sortU_head (k : List Int) (ks : List (List Int)) : ∃ r, sortU (k :: ks) = minK k ks :: r := by
  have hs := sortU_sorted (k :: ks)
  have hm := sortU_mem (k :: ks)
  have h1 := (hm (minK k ks)).mpr (minK_mem k ks)
  revert hs hm h1
  generalize sortU (k :: ks) = u
  intro hs hm h1
  cases u with
  | nil => cases h1
  | cons h t =>
    refine ⟨t, ?_⟩
    congr 1
    rcases List.mem_cons.mp h1 with q | q
    · exact q.symm
    · have a := (List.pairwise_cons.mp hs).1 _ q
      have b := minK_le k ks h ((hm h).mp List.mem_cons_self)
      rw [a] at b
      cases b
theorem views_head (w : List Int) : ∃ r, views w = normal w :: r := by
  obtain ⟨k, ks, e⟩ := allR_cons w
  unfold views normal
  rw [e]
  exact sortU_head k ks
/-! ### words of at most four letters, gone through -/
def wordB (n : Nat) (w : List Int) : Bool := decide (w.length = 2 * n) && (w.all fun x => decide (0 ≤ x) && decide (x < n)) && (List.range n).all fun a => decide (w.count (a : Int) = 2)
theorem wordB_ok {n : Nat} {w : List Int} (h : wordB n w = true) : Word n w := by
  unfold wordB at h
  rw [Bool.and_eq_true, Bool.and_eq_true, decide_eq_true_eq] at h
  obtain ⟨⟨h1, h2⟩, h3⟩ := h
  refine ⟨h1, fun x hx => ?_, fun a ha => ?_⟩
  · have := List.all_eq_true.mp h2 x hx
    rw [Bool.and_eq_true, decide_eq_true_eq, decide_eq_true_eq] at this
    exact this
  · exact of_decide_eq_true (List.all_eq_true.mp h3 a (List.mem_range.mpr ha))
end K98

namespace K98
open Mi L2
def sm : Nat → List (List Int)
  | 0 => [[]]
  | 1 => [[0, 0]]
  | 2 => [[0, 0, 1, 1], [0, 1, 0, 1]]
  | 3 => [[0, 0, 1, 1, 2, 2], [0, 0, 1, 2, 1, 2], [0, 0, 1, 2, 2, 1], [0, 1, 0, 2, 1, 2], [0, 1, 2, 0, 1, 2]]
  | 4 => [[0, 0, 1, 1, 2, 2, 3, 3], [0, 0, 1, 1, 2, 3, 2, 3], [0, 0, 1, 1, 2, 3, 3, 2], [0, 0, 1, 2, 1, 3, 2, 3], [0, 0, 1, 2, 1, 3, 3, 2], [0, 0, 1, 2, 3, 1, 2, 3], [0, 0, 1, 2, 3, 1, 3, 2], [0, 0, 1, 2, 3, 2, 3, 1], [0, 0, 1, 2, 3, 3, 1, 2], [0, 0, 1, 2, 3, 3, 2, 1], [0, 1, 0, 1, 2, 3, 2, 3], [0, 1, 0, 2, 1, 3, 2, 3], [0, 1, 0, 2, 3, 1, 2, 3], [0, 1, 0, 2, 3, 1, 3, 2], [0, 1, 2, 0, 3, 1, 2, 3], [0, 1, 2, 0, 3, 2, 1, 3], [0, 1, 2, 3, 0, 1, 2, 3]]
  | _ => []
theorem four {P : Nat → Prop} (h0 : P 0) (h1 : P 1) (h2 : P 2) (h3 : P 3) (h4 : P 4) {n : Nat} (h : n ≤ 4) : P n := by
  match n, h with
  | 0, _ => exact h0
  | 1, _ => exact h1
  | 2, _ => exact h2
  | 3, _ => exact h3
  | 4, _ => exact h4
theorem smallW_eq {n : Nat} (h : n ≤ 4) : smallW n = sm n := four (P := fun n => smallW n = sm n) (by decide +kernel) (by decide +kernel) (by decide +kernel) (by decide +kernel) (by decide +kernel) h
theorem due_eq {n : Nat} (h : n ≤ 4) : sortU ((stgL n (2 * n)).map normal) = sm n := four (P := fun n => sortU ((stgL n (2 * n)).map normal) = sm n) (by decide +kernel) (by decide +kernel) (by decide +kernel) (by decide +kernel) (by decide +kernel) h
theorem sm_fix {n : Nat} (h : n ≤ 4) : ∀ c ∈ sm n, normal c = c ∧ wordB n c = true := four (P := fun n => ∀ c ∈ sm n, normal c = c ∧ wordB n c = true) (by decide +kernel) (by decide +kernel) (by decide +kernel) (by decide +kernel) (by decide +kernel) h
theorem sm_len {n : Nat} (h : n ≤ 4) : Int.ofNat (sm n).length = [1, 1, 2, 5, 17].getD n (0 : Int) := four (P := fun n => Int.ofNat (sm n).length = [1, 1, 2, 5, 17].getD n (0 : Int)) (by decide) (by decide) (by decide) (by decide) (by decide) h
theorem normal_sm {n : Nat} {w : List Int} (h : n ≤ 4) (hw : Word n w) : normal w ∈ sm n := by
  rw [← due_eq h, sortU_mem]
  refine List.mem_map.mpr ⟨_, hw.stg_end, normal_relab w⟩
/-! ### rows as data -/
def rowsD (ks : List (List Int)) : PySem.PyData := .list (ks.map intD)
theorem mapO_rows (h : List (Nat × HObj)) (n : Nat) : ∀ ks : List (List Int), mapO (dataF h (n + 2)) (ks.map tupI) = some (ks.map intD)
  | [] => rfl
  | k :: r => by
    rw [List.map_cons, mapO, data_row]
    simp only [mapO_rows h n r]
    rfl
theorem data_rows {h : List (Nat × HObj)} {n a : Nat} {ks : List (List Int)} (e : hget h a = some (.lst (ks.map tupI))) : dataF h (n + 3) (.ref a) = some (rowsD ks) := by
  unfold dataF
  simp only [e, mapO_rows]
  rfl
/-- small rows -/
def Sml (k : List Int) : Prop := k.length ≤ 16 ∧ ∀ x ∈ k, 0 ≤ x ∧ x < 16
theorem digit_shown {x : Int} (h : 0 ≤ x ∧ x < 16) : (PySem.PyData.shown (.int x)).length ≤ 8 ∧ PySem.PyData.showable (.int x) = true ∧ PySem.PyData.weight (.int x) ≤ 4 := by
  obtain ⟨n, rfl⟩ := Int.eq_ofNat_of_zero_le h.1
  have hn : n < 16 := by omega
  have all : ∀ n : Fin 16, (PySem.PyData.shown (.int (n.val : Int))).length ≤ 8 ∧ PySem.PyData.showable (.int (n.val : Int)) = true ∧ PySem.PyData.weight (.int (n.val : Int)) ≤ 4 := by decide +kernel
  exact all ⟨n, hn⟩
theorem ints_short : ∀ k : List Int, (∀ x ∈ k, 0 ≤ x ∧ x < 16) → PySem.PyData.leavesShortAll 8 (k.map PySem.PyData.int) = true ∧ PySem.PyData.showableAll (k.map PySem.PyData.int) = true ∧ PySem.PyData.weightAll (k.map PySem.PyData.int) ≤ 5 * k.length
  | [], _ => by simp [PySem.PyData.leavesShortAll, PySem.PyData.showableAll, PySem.PyData.weightAll]
  | x :: r, h => by
    obtain ⟨i1, i2, i3⟩ := ints_short r fun y hy => h y (List.mem_cons_of_mem _ hy)
    obtain ⟨d1, d2, d3⟩ := digit_shown (h x List.mem_cons_self)
    rw [List.map_cons, PySem.PyData.leavesShortAll, PySem.PyData.showableAll, PySem.PyData.weightAll, i1, i2, d2, List.length_cons]
    refine ⟨?_, rfl, by omega⟩
    rw [PySem.PyData.leavesShort, decide_eq_true d1]
    rfl
theorem rows_short : ∀ ks : List (List Int), (∀ k ∈ ks, Sml k) → PySem.PyData.leavesShortAll 8 (ks.map intD) = true ∧ PySem.PyData.showableAll (ks.map intD) = true ∧ PySem.PyData.weightAll (ks.map intD) ≤ 100 * ks.length
  | [], _ => by simp [PySem.PyData.leavesShortAll, PySem.PyData.showableAll, PySem.PyData.weightAll]
  | k :: r, h => by
    obtain ⟨i1, i2, i3⟩ := rows_short r fun y hy => h y (List.mem_cons_of_mem _ hy)
    obtain ⟨hk1, hk2⟩ := h k List.mem_cons_self
    obtain ⟨d1, d2, d3⟩ := ints_short k hk2
    rw [List.map_cons, PySem.PyData.leavesShortAll, PySem.PyData.showableAll, PySem.PyData.weightAll, i1, i2, List.length_cons]
    have e1 : (intD k).leavesShort 8 = true := by rw [PySem.PyData.leavesShort]; exact d1
    have e2 : (intD k).showable = true := by rw [PySem.PyData.showable]; exact d2
    have e3 : (intD k).weight ≤ 80 := by rw [PySem.PyData.weight]; omega
    rw [e1, e2]
    refine ⟨rfl, rfl, ?_⟩
    generalize (intD k).weight = a at e3 ⊢
    generalize PySem.PyData.weightAll (r.map intD) = b at i3 ⊢
    omega
/-- parts of what is shown -/
structure Shw (d : PySem.PyData) : Prop where
  sh : d.leavesShort 8 = true
  ok : d.showable = true
  wt : d.weight ≤ 100000
theorem Shw.le {d : PySem.PyData} (h : Shw d) : showB d ≤ 16000000 := by
  have h1 := PySem.PyData.shown_le 8 (Nat.le_refl _) d h.sh
  have := h.wt
  unfold showB
  omega
theorem shw_row {k : List Int} (h : Sml k) : Shw (intD k) := by
  obtain ⟨d1, d2, d3⟩ := ints_short k h.2
  have := h.1
  refine ⟨?_, ?_, ?_⟩
  · unfold intD
    rw [PySem.PyData.leavesShort]
    exact d1
  · unfold intD
    rw [PySem.PyData.showable]
    exact d2
  · unfold intD
    rw [PySem.PyData.weight]
    omega
theorem shw_rows {ks : List (List Int)} (h : ∀ k ∈ ks, Sml k) (hl : ks.length ≤ 100) : Shw (rowsD ks) := by
  obtain ⟨d1, d2, d3⟩ := rows_short ks h
  refine ⟨?_, ?_, ?_⟩
  · unfold rowsD
    rw [PySem.PyData.leavesShort]
    exact d1
  · unfold rowsD
    rw [PySem.PyData.showable]
    exact d2
  · unfold rowsD
    rw [PySem.PyData.weight]
    omega
theorem rows_w {ks : List (List Int)} (h : ∀ k ∈ ks, Sml k) (hl : ks.length ≤ 100) : (rowsD ks).weight ≤ 10000 := by
  obtain ⟨d1, d2, d3⟩ := rows_short ks h
  unfold rowsD
  rw [PySem.PyData.weight]
  omega
theorem row_w {k : List Int} (h : Sml k) : (intD k).weight ≤ 80 := by
  obtain ⟨d1, d2, d3⟩ := ints_short k h.2
  have := h.1
  unfold intD
  rw [PySem.PyData.weight]
  omega
theorem P_repr {m : Mem} {v : Val} {d : PySem.PyData} {Q : Val → Mem → Prop} (h : m.data v = some d) (hs : Shw d) : Mi.V (ofRV (prim .repr [v] m)) Q = Q (.rep d) m := by
  show Mi.V (ofRV (match m.data v with
    | some d => if d.showable && Nat.ble (showB d) 16000000 then some (.rep d, m) else none
    | none => none)) Q = _
  rw [h]
  simp only [hs.ok, show Nat.ble (showB d) 16000000 = true from Nat.ble_eq_true_of_le hs.le]
  rfl
theorem eq_reps {m : Mem} (d : PySem.PyData) : eqData m (.rep d) (.rep d) = some true := by
  unfold eqData
  simp [textOf]
theorem data_two {m : Mem} {x a b : Nat} {ks ls : List (List Int)} (hx : m.get x = some (.lst [.ref a, .ref b])) (ha : m.get a = some (.lst (ks.map tupI))) (hb : m.get b = some (.lst (ls.map tupI))) : m.data (.ref x) = some (.list [rowsD ks, rowsD ls]) := by
  unfold Mem.data
  unfold dataF
  have hx' : hget m.h x = some (.lst [.ref a, .ref b]) := hx
  have h1 : dataF m.h 7 (.ref a) = some (rowsD ks) := data_rows ha
  have h2 : dataF m.h 7 (.ref b) = some (rowsD ls) := data_rows hb
  simp only [hx', mapO, h1, h2]
  rfl
theorem data_four {m : Mem} {x a b : Nat} {k l : List Int} {ks ls : List (List Int)} (hx : m.get x = some (.lst [tupI k, .ref a, tupI l, .ref b])) (ha : m.get a = some (.lst (ks.map tupI))) (hb : m.get b = some (.lst (ls.map tupI))) : m.data (.ref x) = some (.list [intD k, rowsD ks, intD l, rowsD ls]) := by
  unfold Mem.data
  unfold dataF
  have hx' : hget m.h x = some (.lst [tupI k, .ref a, tupI l, .ref b]) := hx
  have h1 : dataF m.h 7 (.ref a) = some (rowsD ks) := data_rows ha
  have h2 : dataF m.h 7 (.ref b) = some (rowsD ls) := data_rows hb
  have h3 : dataF m.h 7 (tupI k) = some (intD k) := data_row _ _ _
  have h4 : dataF m.h 7 (tupI l) = some (intD l) := data_row _ _ _
  simp only [hx', mapO, h1, h2, h3, h4]
  rfl
theorem shw_two {ks ls : List (List Int)} (h1 : ∀ k ∈ ks, Sml k) (l1 : ks.length ≤ 100) (h2 : ∀ k ∈ ls, Sml k) (l2 : ls.length ≤ 100) : Shw (.list [rowsD ks, rowsD ls]) := by
  have s1 := shw_rows h1 l1
  have s2 := shw_rows h2 l2
  have w1 := rows_w h1 l1
  have w2 := rows_w h2 l2
  refine ⟨?_, ?_, ?_⟩
  · simp only [PySem.PyData.leavesShort, PySem.PyData.leavesShortAll, s1.sh, s2.sh]
    rfl
  · simp only [PySem.PyData.showable, PySem.PyData.showableAll, s1.ok, s2.ok]
    rfl
  · simp only [PySem.PyData.weight, PySem.PyData.weightAll]
    omega
theorem shw_four {k l : List Int} {ks ls : List (List Int)} (h3 : Sml k) (h4 : Sml l) (h1 : ∀ k ∈ ks, Sml k) (l1 : ks.length ≤ 100) (h2 : ∀ k ∈ ls, Sml k) (l2 : ls.length ≤ 100) : Shw (.list [intD k, rowsD ks, intD l, rowsD ls]) := by
  have s1 := shw_rows h1 l1
  have s2 := shw_rows h2 l2
  have w1 := rows_w h1 l1
  have w2 := rows_w h2 l2
  have s3 := shw_row h3
  have s4 := shw_row h4
  have w3 := row_w h3
  have w4 := row_w h4
  refine ⟨?_, ?_, ?_⟩
  · rw [PySem.PyData.leavesShort]
    simp only [PySem.PyData.leavesShortAll]
    rw [s1.sh, s2.sh, s3.sh, s4.sh]
    rfl
  · rw [PySem.PyData.showable]
    simp only [PySem.PyData.showableAll]
    rw [s1.ok, s2.ok, s3.ok, s4.ok]
    rfl
  · rw [PySem.PyData.weight]
    simp only [PySem.PyData.weightAll]
    omega
theorem relab_sml {w : List Int} (h : w.length ≤ 16) : Sml (relab w) := by
  refine ⟨?_, fun x hx => ?_⟩
  · unfold relab
    rw [relab_len]
    exact h
  · rw [relab_eq] at hx
    obtain ⟨y, hy, e⟩ := List.mem_map.mp hx
    have h1 := idx_lt _ ((seenOf_mem [] w y).mpr (.inr hy))
    have h2 := seenOf_len [] w
    have e0 : ([] : List Int).length = 0 := rfl
    subst e
    unfold fN
    show 0 ≤ ((idx (seenOf [] w) y : Nat) : Int) ∧ ((idx (seenOf [] w) y : Nat) : Int) < 16
    omega
theorem allR_sml {w : List Int} (h : w.length ≤ 16) : ∀ k ∈ allR w, Sml k := fun k hk => by
  unfold allR at hk
  rcases List.mem_append.mp hk with q | q
  · obtain ⟨a, _, e⟩ := List.mem_map.mp q
    rw [← e]
    exact relab_sml (by rw [rot_len]; exact h)
  · obtain ⟨a, _, e⟩ := List.mem_map.mp q
    rw [← e]
    exact relab_sml (by rw [rot_len, List.length_reverse]; exact h)
theorem views_sml {w : List Int} (h : w.length ≤ 16) : (∀ k ∈ views w, Sml k) ∧ (views w).length ≤ 100 ∧ Sml (normal w) := by
  have h1 : ∀ k ∈ views w, Sml k := fun k hk => allR_sml h k ((sortU_mem _ k).mp hk)
  refine ⟨h1, ?_, ?_⟩
  · have a := sortU_le (allR w)
    have b := allR_len w
    unfold views
    omega
  · obtain ⟨r, e⟩ := views_head w
    exact h1 _ (e ▸ List.mem_cons_self)
theorem sm_sml {n : Nat} (h : n ≤ 4) : (∀ k ∈ sm n, Sml k) ∧ (sm n).length ≤ 100 := by
  refine ⟨fun k hk => ?_, four (P := fun n => (sm n).length ≤ 100) (by decide) (by decide) (by decide) (by decide) (by decide) h⟩
  have hw := wordB_ok (sm_fix h k hk).2
  have := hw.len
  exact ⟨by omega, fun x hx => by have := hw.rng x hx; omega⟩
end K98

namespace K98
open Mi L2
/-! ### the law's own parts -/
def dueE : E := .prim .ssetT (.cons (.lcomp [6] .plain (.one 6) (.cons (.call 26 [0] (.cons (.var 2) .nil)) .nil) .yes (.prim .item (.cons (.call 20 [0] (.cons (.var 6) .nil)) (.cons (.cst (.int 0)) .nil)))) .nil)
def cE5 : E := .or (.prim .ne (.cons (.prim .repr (.cons (.prim .lstD (.cons (.var 3) (.cons (.call 12 [0] (.cons (.var 2) .nil)) .nil))) .nil)) (.cons (.prim .repr (.cons (.prim .lstD (.cons (.var 4) (.cons (.var 4) .nil))) .nil)) .nil))) (.prim .ne (.cons (.prim .len (.cons (.var 3) .nil)) (.cons (.prim .item (.cons (.prim .lstD (.cons (.cst (.int 1)) (.cons (.cst (.int 1)) (.cons (.cst (.int 2)) (.cons (.cst (.int 5)) (.cons (.cst (.int 17)) .nil)))))) (.cons (.var 2) .nil))) .nil)))
def toldE : E := .prim .lstD (.cons (.call 24 [0] (.cons (.var 6) .nil)) (.cons (.call 25 [0] (.cons (.var 6) .nil)) (.cons (.call 24 [0] (.cons (.var 6) .nil)) (.cons (.call 25 [0] (.cons (.var 6) .nil)) .nil))))
def cE8 : E := .prim .ne (.cons (.prim .repr (.cons (.var 8) .nil)) (.cons (.prim .repr (.cons (.prim .mul (.cons (.prim .lstD (.cons (.prim .item (.cons (.var 7) (.cons (.cst (.int 0)) .nil))) (.cons (.var 7) .nil))) (.cons (.cst (.int 2)) .nil))) .nil)) .nil))
def cE10 : E := .or (.prim .notIn (.cons (.call 24 [0] (.cons (.var 9) .nil)) (.cons (.call 12 [0] (.cons (.prim .fdiv (.cons (.prim .len (.cons (.var 9) .nil)) (.cons (.cst (.int 2)) .nil))) .nil)) .nil))) (.prim .ne (.cons (.call 24 [0] (.cons (.call 24 [0] (.cons (.var 9) .nil)) .nil)) (.cons (.call 24 [0] (.cons (.var 9) .nil)) .nil)))
def endE : E := .prim .eq (.cons (.lcomp [6] .plain (.one 6) (.cons (.var 3) .nil) (.prim .ne (.cons (.call 24 [0] (.cons (.var 6) .nil)) (.cons (.var 6) .nil))) (.var 6)) (.cons (.prim .lstD .nil) .nil))
def retF : S := .ret (.cst (.bl false))
def bodyS : S := .seq (.asg (.name 6) (.call 18 [0, 1] (.cons (.var 1) (.cons (.cst (.int 8)) .nil)))) (.seq (.asg (.name 7) (.call 20 [0] (.cons (.var 6) .nil))) (.seq (.asg (.name 8) toldE) (.seq (.sif cE8 retF .pass) (.seq (.asg (.name 9) (.call 17 [0, 1] (.cons (.var 1) (.cons (.cst (.int 4)) .nil)))) (.sif cE10 retF .pass)))))
theorem b27_eq : b27 = .seq (.asg (.name 1) (.call 0 [0, 1] (.cons (.var 0) (.cons (.cst (.int 0)) .nil)))) (.seq (.asg (.name 2) (.call 1 [0, 1] (.cons (.var 1) (.cons (.cst (.int 5)) .nil)))) (.seq (.asg (.name 3) (.call 12 [0] (.cons (.var 2) .nil))) (.seq (.asg (.name 4) dueE) (.seq (.sif cE5 retF .pass) (.seq (.sfor .range1 (.one 5) (.cons (.cst (.int 4)) .nil) bodyS) (.ret endE)))))) := rfl
def gD : Val → Option Val
  | .tup xs => (intsOf xs).map fun w => tupI (normal w)
  | _ => none
theorem gD_tup (w : List Int) : gD (tupI w) = some (tupI (normal w)) := by
  show (intsOf (w.map Val.int)).map _ = _
  rw [intsOf_map]
  rfl
theorem gD_map : ∀ l : List (List Int), (l.map tupI).filterMap gD = (l.map normal).map tupI
  | [] => rfl
  | w :: r => by
    rw [List.map_cons, List.filterMap_cons, gD_tup, List.map_cons, List.map_cons, ← gD_map r]
theorem sm_ne {n : Nat} (h : n ≤ 4) : (sm n).length < 60 ∧ ((sm n).length < 2 ∨ ∀ k ∈ sm n, k ≠ []) := four (P := fun n => (sm n).length < 60 ∧ ((sm n).length < 2 ∨ ∀ k ∈ sm n, k ≠ [])) (by decide) (by decide) (by decide) (by decide) (by decide) h
theorem due_spec {m : Mem} {a0 a1 a3 a4 a5 a6 a7 a8 a9 : Option Val} (wf : WF m) {n : Nat} (hn : n ≤ 4) : Mi.V (dueE.ev (run P 6) [a0, a1, some (.int (Int.ofNat n)), a3, a4, a5, a6, a7, a8, a9] m) (NewL no m ((sm n).map tupI)) := by
  have len : (stgL n (2 * n)).length ≤ 65536 := Nat.le_trans (stgL_len n (2 * n)) (small4 hn (by omega))
  unfold dueE
  rw [V_prim, L_cons]
  refine V_lcomp ((stgL n (2 * n)).map tupI) gD (by rw [List.length_map]; omega) ?_
  simp only [L_cons, L_nil, V_call, V_var, getS, VI_some, permL, List.getElem?_cons_zero, VP_some]
  refine (law_all_spec 4 wf n hn).mono fun v m1 ⟨r, e, hg, h1, h2, f1⟩ => ?_
  subst e
  refine ⟨_, src_lst hg, gives_lst hg fun m' f => (f.get r h2 id).trans hg, f1.wf, fun i x m' hx fr => ?_, fun m2 f2 lt2 hg2 => ?_⟩
  · obtain ⟨u, hu, e⟩ := map_at hx
    subst e
    have ul := stgL_w n _ u (List.mem_of_getElem? hu)
    refine ⟨_, rfl, ?_⟩
    simp only [V_yes, truth_bl, VT_true, V_prim, V_call, V_cst, L_cons, L_nil, V_var, wipeS, setS, getS, VI_some, permL, List.getElem?_cons_zero, VP_some]
    refine (views_spec 4 fr.wf u (by omega)).mono fun v m3 ⟨r3, e3, hg3, _, _, f3⟩ => ?_
    subst e3
    obtain ⟨t, et⟩ := views_head u
    rw [et, List.map_cons] at hg3
    rw [P_item hg3, atI_0, VI_some]
    exact ⟨gD_tup u, f3⟩
  · rw [gD_map] at hg2
    obtain ⟨q1, q2⟩ := sm_ne hn
    have mm : ∀ k, k ∈ (stgL n (2 * n)).map normal → k ∈ sm n := fun k hk => by
      rw [← due_eq hn, sortU_mem]
      exact hk
    rw [P_sset hg2 (by rw [due_eq hn]; exact q1) (by rw [List.length_map]; omega) (by
      rw [due_eq hn]
      exact q2.imp id fun z k hk => z k (mm k hk))]
    rw [due_eq hn]
    exact ⟨_, rfl, get_new_same, Nat.le_trans f1.le f2.le, Nat.lt_succ_self _, (f1.trans f2).new⟩
theorem known {n : Nat} (h : n ≤ 4) : L2.atI [Val.int 1, Val.int 1, Val.int 2, Val.int 5, Val.int 17] (Int.ofNat n) = some (.int (Int.ofNat (sm n).length)) := four (P := fun n => L2.atI [Val.int 1, Val.int 1, Val.int 2, Val.int 5, Val.int 17] (Int.ofNat n) = some (.int (Int.ofNat (sm n).length))) rfl rfl rfl rfl rfl h
theorem cond5 {m : Mem} {a0 a1 a5 a6 a7 a8 a9 : Option Val} {s d : Nat} (wf : WF m) {n : Nat} (hn : n ≤ 4) (hs : m.get s = some (.lst ((sm n).map tupI))) (hd : m.get d = some (.lst ((sm n).map tupI))) :
    Mi.V (cE5.ev (run P 6) [a0, a1, some (.int (Int.ofNat n)), some (.ref s), some (.ref d), a5, a6, a7, a8, a9] m) fun v m' => v = .bl false ∧ Fr no m m' := by
  have ls := wf s _ hs
  have ld := wf d _ hd
  have l2 : ∀ a b : Val, [a, b].length ≤ 8000000 := fun a b => by simp
  have l5 : [Val.int 1, Val.int 1, Val.int 2, Val.int 5, Val.int 17].length ≤ 8000000 := by simp
  obtain ⟨ss, sl⟩ := sm_sml hn
  unfold cE5
  simp only [V_or, V_prim, L_cons, L_nil, V_var, V_call, V_cst, getS, VI_some, permL, List.getElem?_cons_zero, VP_some]
  refine (small_words_spec 1 wf n hn).mono fun v m1 ⟨s2, e, hg, h1, h2, f1⟩ => ?_
  subst e
  rw [smallW_eq hn] at hg
  have hs1 : m1.get s = _ := (f1.get s ls id).trans hs
  have hd1 : m1.get d = _ := (f1.get d ld id).trans hd
  rw [P_lstD (l2 _ _)]
  have ls1 : s < m1.n := Nat.lt_of_lt_of_le ls f1.le
  have ld1 : d < m1.n := Nat.lt_of_lt_of_le ld f1.le
  generalize hm2 : m1.new (.lst [.ref s, .ref s2]) = m2
  have hx : m2.get m1.n = some (.lst [.ref s, .ref s2]) := by rw [← hm2]; exact get_new_same
  have hs2 : m2.get s = some (.lst ((sm n).map tupI)) := by rw [← hm2, get_new_lt ls1]; exact hs1
  have hs22 : m2.get s2 = some (.lst ((sm n).map tupI)) := by rw [← hm2, get_new_lt h2]; exact hg
  have hd2 : m2.get d = some (.lst ((sm n).map tupI)) := by rw [← hm2, get_new_lt ld1]; exact hd1
  have n2 : m2.n = m1.n + 1 := by rw [← hm2]; rfl
  have f2 : Fr no m m2 := by rw [← hm2]; exact f1.new
  rw [P_repr (data_two hx hs2 hs22) (shw_two ss sl ss sl), P_lstD (l2 _ _)]
  have ld2 : d < m2.n := by omega
  have ls2 : s < m2.n := by omega
  generalize hm3 : m2.new (.lst [.ref d, .ref d]) = m3
  have hy : m3.get m2.n = some (.lst [.ref d, .ref d]) := by rw [← hm3]; exact get_new_same
  have hd3 : m3.get d = some (.lst ((sm n).map tupI)) := by rw [← hm3, get_new_lt ld2]; exact hd2
  have hs3 : m3.get s = some (.lst ((sm n).map tupI)) := by rw [← hm3, get_new_lt ls2]; exact hs2
  have f3 : Fr no m m3 := by rw [← hm3]; exact f2.new
  rw [P_repr (data_two hy hd3 hd3) (shw_two ss sl ss sl), P_ne, eq_reps, VB_some]
  rw [Bool.not_true, truth_bl, VT_false, P_lenL hs3, P_lstD l5, P_item get_new_same, known hn, VI_some, P_ne, eq_ints, VB_some, List.length_map, decide_eq_true rfl]
  exact ⟨rfl, f3.new⟩
theorem told_spec {m : Mem} {a0 a1 a2 a3 a4 a5 a7 a8 a9 : Option Val} (wf : WF m) {n : Nat} {w : List Int} (hw : Word n w) (hn : n ≤ 8) :
    Mi.V (toldE.ev (run P 6) [a0, a1, a2, a3, a4, a5, some (tupI w), a7, a8, a9] m) fun v m' => ∃ t r1 r2, v = .ref t ∧ m'.get t = some (.lst [tupI (normal w), .ref r1, tupI (normal w), .ref r2]) ∧ m'.get r1 = some (.lst ((views w).map tupI)) ∧ m'.get r2 = some (.lst ((views w).map tupI)) ∧ Fr no m m' := by
  have l4 : ∀ a b c d : Val, [a, b, c, d].length ≤ 8000000 := fun a b c d => by simp
  unfold toldE
  simp only [V_prim, L_cons, L_nil, V_var, V_call, getS, VI_some, permL, List.getElem?_cons_zero, VP_some]
  refine (least_spec 0 wf hw (by omega)).mono fun v m1 ⟨e, f1⟩ => ?_
  subst e
  refine (allviews_spec 0 f1.wf hw (by omega)).mono fun v m2 ⟨r1, e, hg2, h1, h2, f2⟩ => ?_
  subst e
  refine (least_spec 0 f2.wf hw (by omega)).mono fun v m3 ⟨e, f3⟩ => ?_
  subst e
  refine (allviews_spec 0 f3.wf hw (by omega)).mono fun v m4 ⟨r2, e, hg4, h3, h4, f4⟩ => ?_
  subst e
  have f24 := f3.trans f4
  rw [P_lstD (l4 _ _ _ _)]
  refine ⟨m4.n, r1, r2, rfl, get_new_same, ?_, ?_, (((f1.trans f2).trans f3).trans f4).new⟩
  · rw [get_new_lt (Nat.lt_of_lt_of_le h2 f24.le)]
    exact (f24.get r1 h2 id).trans hg2
  · rw [get_new_lt h4]
    exact hg4
theorem cond8 {m : Mem} {a0 a1 a2 a3 a4 a5 a6 a9 : Option Val} {q t r1 r2 : Nat} (wf : WF m) {n : Nat} {w : List Int} (hw : Word n w) (hn : n ≤ 8) (hq : m.get q = some (.lst ((views w).map tupI)))
    (ht : m.get t = some (.lst [tupI (normal w), .ref r1, tupI (normal w), .ref r2])) (h1 : m.get r1 = some (.lst ((views w).map tupI))) (h2 : m.get r2 = some (.lst ((views w).map tupI))) :
    Mi.V (cE8.ev (run P 6) [a0, a1, a2, a3, a4, a5, a6, some (.ref q), some (.ref t), a9] m) fun v m' => v = .bl false ∧ Fr no m m' := by
  have l2 : ∀ a b : Val, [a, b].length ≤ 8000000 := fun a b => by simp
  have hl := hw.len
  obtain ⟨s1, s2, s3⟩ := views_sml (w := w) (by omega)
  obtain ⟨r, er⟩ := views_head w
  have hq' := hq
  rw [er, List.map_cons] at hq'
  have lq := wf q _ hq
  unfold cE8
  simp only [V_prim, L_cons, L_nil, V_var, V_cst, getS, VI_some]
  rw [P_repr (data_four ht h1 h2) (shw_four s3 s3 s1 s2 s1 s2), P_item hq', atI_0, VI_some, P_lstD (l2 _ _)]
  generalize hm2 : m.new (.lst [tupI (normal w), .ref q]) = m2
  have hx : m2.get m.n = some (.lst [tupI (normal w), .ref q]) := by rw [← hm2]; exact get_new_same
  have n2 : m2.n = m.n + 1 := by rw [← hm2]; rfl
  have hq2 : m2.get q = some (.lst ((views w).map tupI)) := by rw [← hm2, get_new_lt lq]; exact hq
  have f2 : Fr no m m2 := by rw [← hm2]; exact (Fr.refl wf).new
  rw [P_twice hx (by simp)]
  generalize hm3 : m2.new (.lst ([tupI (normal w), .ref q] ++ [tupI (normal w), .ref q])) = m3
  have hy : m3.get m2.n = some (.lst [tupI (normal w), .ref q, tupI (normal w), .ref q]) := by rw [← hm3]; exact get_new_same
  have hq3 : m3.get q = some (.lst ((views w).map tupI)) := by rw [← hm3, get_new_lt (by omega)]; exact hq2
  have f3 : Fr no m m3 := by rw [← hm3]; exact f2.new
  rw [P_repr (data_four hy hq3 hq3) (shw_four s3 s3 s1 s2 s1 s2), P_ne, eq_reps, VB_some]
  exact ⟨rfl, f3⟩
theorem in_rows {m : Mem} {a : Nat} {k : List Int} {ks : List (List Int)} (ha : m.get a = some (.lst (ks.map tupI))) (hk : k ∈ ks) : Mi.inV m (tupI k) (.ref a) = some true := by
  have h1 : m.data (tupI k) = some (intD k) := data_row _ _ _
  have h2 : m.data (.ref a) = some (.list (ks.map intD)) := data_rows ha
  have h3 : ∀ ks : List (List Int), PySem.PyData.canLayAll0 (ks.map intD) = true := fun ks => by
    induction ks with
    | nil => simp [PySem.PyData.canLayAll0]
    | cons x r ih => rw [List.map_cons, PySem.PyData.canLayAll0, ih, lay_row]; rfl
  unfold Mi.inV
  simp only [ha, h1, h2, lay_row, h3, Bool.and_true, if_true]
  congr 1
  rw [List.any_map]
  refine List.any_eq_true.mpr ⟨k, hk, ?_⟩
  show PySem.PyData.eqv (intD k) (intD k) = true
  rw [eqv_row, decide_eq_true rfl]
theorem P_notIn {m : Mem} {a b : Val} {c : Bool} {Q : Val → Mem → Prop} (h : Mi.inV m a b = some c) : Mi.V (ofRV (prim .notIn [a, b] m)) Q = Q (.bl (!c)) m := by
  show Mi.V (ofRV (match Mi.inV m a b with | some c => some (.bl (!c), m) | none => none)) Q = _
  rw [h]
  rfl
theorem cond10 {m : Mem} {a0 a1 a2 a3 a4 a5 a6 a7 a8 : Option Val} (wf : WF m) {n : Nat} {w : List Int} (hw : Word n w) (hn : n ≤ 4) :
    Mi.V (cE10.ev (run P 6) [a0, a1, a2, a3, a4, a5, a6, a7, a8, some (tupI w)] m) fun v m' => v = .bl false ∧ Fr no m m' := by
  have nm := normal_sm hn hw
  obtain ⟨fx, wb⟩ := sm_fix hn _ nm
  have hw2 := wordB_ok wb
  have ln : ∀ {m : Mem} {Q : Val → Mem → Prop}, Mi.V (ofRV (prim .len [tupI w] m)) Q = Q (.int (Int.ofNat w.length)) m := fun {m Q} => by
    rw [tupI, P_lenT, List.length_map]
  unfold cE10
  simp (disch := omega) only [V_or, V_prim, L_cons, L_nil, V_var, V_call, V_cst, getS, VI_some, permL, List.getElem?_cons_zero, VP_some, ln, P_fdiv, many_of hw]
  refine (least_spec 0 wf hw (by omega)).mono fun v m1 ⟨e, f1⟩ => ?_
  subst e
  refine (small_words_spec 1 f1.wf n hn).mono fun v m2 ⟨s2, e, hg, h1, h2, f2⟩ => ?_
  subst e
  rw [smallW_eq hn] at hg
  rw [P_notIn (in_rows hg nm), Bool.not_true, truth_bl, VT_false]
  refine (least_spec 0 f2.wf hw (by omega)).mono fun v m3 ⟨e, f3⟩ => ?_
  subst e
  refine (least_spec 0 f3.wf hw2 (by omega)).mono fun v m4 ⟨e, f4⟩ => ?_
  subst e
  refine (least_spec 0 f4.wf hw (by omega)).mono fun v m5 ⟨e, f5⟩ => ?_
  subst e
  rw [P_ne, eq_rows, fx, decide_eq_true rfl, VB_some]
  exact ⟨rfl, (((f1.trans f2).trans f3).trans f4).trans f5⟩
theorem end_spec {m : Mem} {a0 a1 a2 a4 a5 a6 a7 a8 a9 : Option Val} {s : Nat} (wf : WF m) {n : Nat} (hn : n ≤ 4) (hs : m.get s = some (.lst ((sm n).map tupI))) :
    Mi.V (endE.ev (run P 6) [a0, a1, a2, some (.ref s), a4, a5, a6, a7, a8, a9] m) fun v m' => v = .bl true := by
  have l0 : ([] : List Val).length ≤ 8000000 := by decide
  have ls := wf s _ hs
  unfold endE
  rw [V_prim, L_cons]
  refine V_lcomp ((sm n).map tupI) (fun _ => none) (by rw [List.length_map]; have := (sm_sml hn).2; omega) ?_
  simp only [L_cons, L_nil, V_var, getS, VI_some]
  refine ⟨_, src_lst hs, gives_lst hs fun m' f => (f.get s ls id).trans hs, wf, fun i x m' hx fr => ?_, fun m2 f2 lt2 hg2 => ?_⟩
  · obtain ⟨u, hu, e⟩ := map_at hx
    subst e
    obtain ⟨fx, wb⟩ := sm_fix hn u (List.mem_of_getElem? hu)
    have hw := wordB_ok wb
    refine ⟨_, rfl, ?_⟩
    simp only [V_prim, V_call, L_cons, L_nil, V_var, wipeS, setS, getS, VI_some, permL, List.getElem?_cons_zero, VP_some]
    refine (least_spec 0 fr.wf hw (by omega)).mono fun v m3 ⟨e, f3⟩ => ?_
    subst e
    rw [P_ne, eq_rows, fx, decide_eq_true rfl, VB_some, Bool.not_true, truth_bl, VT_false]
    exact ⟨trivial, f3⟩
  · have e : ((sm n).map tupI).filterMap (fun _ => (none : Option Val)) = ([] : List Int).map Val.int := by simp
    rw [e] at hg2
    simp only [V_prim, L_cons, L_nil, P_lstD l0]
    have e2 : eqData (m2.new (.lst [])) (.ref m.n) (.ref m2.n) = some (decide (([] : List Int) = [])) := eq_lists (ns := []) (ms := []) (by rw [get_new_lt lt2]; exact hg2) get_new_same
    rw [P_eq, e2, VB_some]
    rfl
theorem body_spec {m : Mem} {a0 a2 a4 a5 a6 a7 a8 a9 : Option Val} {p s : Nat} (wf : WF m) (hp : PotAt p m) {xs : List Val} (hs : m.get s = some (.lst xs)) (hne : s ≠ p) {QS : Sta → Mem → Prop} {R : Val → Mem → Prop}
    (h : ∀ b6 b7 b8 b9 m', WF m' → PotAt p m' → m'.get s = some (.lst xs) → QS [a0, some (.ref p), a2, some (.ref s), a4, a5, b6, b7, b8, b9] m') :
    W (bodyS.ev (run P 6) [a0, some (.ref p), a2, some (.ref s), a4, a5, a6, a7, a8, a9] m) QS R := by
  have ls := wf s _ hs
  have keep : ∀ {m1 m2 : Mem}, Fr (one p) m1 m2 → WF m1 → m1.get s = some (.lst xs) → m2.get s = some (.lst xs) := fun f w e => (f.get s (w s _ e) hne).trans e
  have up : ∀ {m1 m2 : Mem}, Fr no m1 m2 → Fr (one p) m1 m2 := fun f => f.mono fun _ _ q => q.elim
  unfold bodyS
  simp only [W_seq, W_asg, V_call, V_var, V_cst, L_cons, L_nil, getS, VI_some, permL, List.getElem?_cons_zero, List.getElem?_cons_succ, VP_some]
  refine (word_draw 2 (most := 8) wf hp (by omega)).mono fun v m1 ⟨n, w, e, hw, hn, pot1, f1⟩ => ?_
  subst e
  have hs1 := keep f1 wf hs
  simp only [W_name, setS, V_call, V_var, V_cst, L_cons, L_nil, getS, VI_some, permL, List.getElem?_cons_zero, List.getElem?_cons_succ, VP_some]
  refine (views_spec 4 f1.wf w (by have := hw.len; omega)).mono fun v m2 ⟨q, e, hq, q1, q2, f2⟩ => ?_
  subst e
  have pot2 := pot1.fr f1.wf f2
  have hs2 := keep (up f2) f1.wf hs1
  try simp only [W_name, setS]
  refine (told_spec f2.wf hw hn).mono fun v m3 ⟨t, r1, r2, e, ht, h1, h2, f3⟩ => ?_
  subst e
  have pot3 := pot2.fr f2.wf f3
  have hs3 := keep (up f3) f2.wf hs2
  have hq3 := (f3.get q q2 id).trans hq
  try simp only [W_name, setS, W_sif]
  refine (cond8 f3.wf hw hn hq3 ht h1 h2).mono fun v m4 ⟨e, f4⟩ => ?_
  subst e
  have pot4 := pot3.fr f3.wf f4
  have hs4 := keep (up f4) f3.wf hs3
  simp only [truth_bl, VT_false, W_pass, V_call, V_var, V_cst, L_cons, L_nil, getS, VI_some, permL, List.getElem?_cons_zero, List.getElem?_cons_succ, VP_some]
  refine (any_spec 3 (most := 4) f4.wf pot4 (by omega)).mono fun v m5 ⟨k, u, e, hu, hk, pot5, f5⟩ => ?_
  subst e
  have hs5 := keep f5 f4.wf hs4
  try simp only [W_name, setS]
  refine (cond10 f5.wf hu hk).mono fun v m6 ⟨e, f6⟩ => ?_
  subst e
  simp only [truth_bl, VT_false, W_pass]
  exact h _ _ _ _ _ f6.wf (pot5.fr f5.wf f6) (keep (up f6) f5.wf hs5)
theorem wf0 (ns : List Int) : WF (mem0 ns) := fun a o e => by
  have e' : hget [(0, HObj.rol (ns.map Val.int))] a = some o := e
  simp only [hget] at e'
  split at e' <;> cases e'
  rename_i hi
  have := Nat.eq_of_beq_eq_true hi
  show a < 1
  omega
theorem law_spec (ns : List Int) : Mi.V (run P 7 27 [.ref 0] (mem0 ns)) fun v _ => v = .bl true := by
  refine V_run (F := f27) rfl rfl ?_
  show W (b27.ev (run P 6) _ (mem0 ns)) _ _
  rw [b27_eq]
  generalize hR : (fun (v : Val) (m' : Mem) => Mi.V (close (mem0 ns).n v m') fun v _ => v = .bl true) = R
  have hRt : ∀ m', R (.bl true) m' := fun m' => by
    rw [← hR]
    exact V_close rfl rfl
  generalize (fun (x : Sta) (m' : Mem) => Mi.V (close (mem0 ns).n Val.non m') fun v _ => v = .bl true) = QS
  simp only [f27, startS, List.map, List.cons_append, List.nil_append, List.replicate]
  rw [W_seq, W_asg]
  simp only [V_call, V_var, V_cst, L_cons, L_nil, getS, VI_some, permL, List.getElem?_cons_zero, List.getElem?_cons_succ, VP_some]
  refine (pot_spec 5 (k := 0) (wf0 ns) (by omega) rfl).mono fun v m1 ⟨p, e, pot1, hp1, f1⟩ => ?_
  subst e
  rw [W_name, W_seq, W_asg]
  simp only [setS, V_call, V_var, V_cst, L_cons, L_nil, getS, VI_some, permL, List.getElem?_cons_zero, List.getElem?_cons_succ, VP_some]
  refine (draw_at 5 f1.wf pot1 (by decide) (by decide)).mono fun v m2 ⟨d, e, d0, d1, pot2, f2⟩ => ?_
  subst e
  obtain ⟨n, rfl⟩ := Int.eq_ofNat_of_zero_le d0
  have hn : n ≤ 4 := by omega
  rw [show ((n : Nat) : Int) = Int.ofNat n from rfl, W_name, W_seq, W_asg]
  simp only [setS, V_call, V_var, V_cst, L_cons, L_nil, getS, VI_some, permL, List.getElem?_cons_zero, List.getElem?_cons_succ, VP_some]
  refine (small_words_spec 1 f2.wf n hn).mono fun v m3 ⟨s, e, hs, s1, s2, f3⟩ => ?_
  subst e
  rw [smallW_eq hn] at hs
  have pot3 := pot2.fr f2.wf f3
  have hne : s ≠ p := fun e => by
    have := pot2.lt f2.wf
    omega
  rw [W_name, W_seq, W_asg]
  simp only [setS]
  refine (due_spec f3.wf hn).mono fun v m4 ⟨d, e, hd, _, d2, f4⟩ => ?_
  subst e
  have pot4 := pot3.fr f3.wf f4
  have hs4 := (f4.get s s2 id).trans hs
  rw [W_name, W_seq, W_sif]
  simp only [setS]
  refine (cond5 f4.wf hn hs4 hd).mono fun v m5 ⟨e, f5⟩ => ?_
  subst e
  have pot5 := pot4.fr f4.wf f5
  have hs5 := (f5.get s (f4.wf s _ hs4) id).trans hs4
  rw [truth_bl, VT_false, W_pass, W_seq]
  refine W_for (rangeV 0 4) (fun _ σ m' => ∃ a5 a6 a7 a8 a9, σ = [some (.ref 0), some (.ref p), some (.int (Int.ofNat n)), some (.ref s), some (.ref d), a5, a6, a7, a8, a9] ∧ WF m' ∧ PotAt p m' ∧ m'.get s = some (.lst ((sm n).map tupI))) ?_ ?_ ?_
  · simp only [L_cons, L_nil, V_cst]
    exact ⟨_, src_rg1 (by decide) (by decide), gives_vals, none, none, none, none, none, rfl, f5.wf, pot5, hs5⟩
  · intro i x σ m6 hx ⟨a5, a6, a7, a8, a9, e, wf6, pot6, hs6⟩
    subst e
    refine ⟨_, rfl, ?_⟩
    simp only [setS]
    exact body_spec wf6 pot6 hs6 hne fun b6 b7 b8 b9 m7 wf7 pot7 hs7 => ⟨_, _, _, _, _, rfl, wf7, pot7, hs7⟩
  · intro σ m6 ⟨a5, a6, a7, a8, a9, e, wf6, pot6, hs6⟩
    subst e
    rw [W_ret']
    exact (end_spec wf6 hn hs6).mono fun v m7 e => by
      rw [e]
      exact hRt m7
theorem law_true (ns : List Int) (_ : ns.length ≤ 63) : ∃ m', run P 7 27 [.ref 0] (mem0 ns) = .val (.bl true) m' := by
  have h := law_spec ns
  revert h
  generalize run P 7 27 [.ref 0] (mem0 ns) = r
  intro h
  cases r <;> first | exact h.elim | skip
  cases (show _ = Val.bl true from h)
  exact ⟨_, rfl⟩
end K98

namespace K98
open PySem PySem.Spec PyProof.Rows L2 Mi
theorem all_mk {Pg : Program} {w : World} {K : PySem.W.Frag} {h : Heap} {mg : Str → Option Value} {fa a0 a1 a2 a3 a4 a5 a6 a7 a8 a9 a10 a11 a12 a13 a14 a15 a16 a17 a18 a19 a20 a21 a22 a23 a24 a25 a26 a27 : Addr} {v0 v1 v2 v3 v4 v5 v6 v7 v8 v9 v10 v11 v12 v13 v14 v15 v16 v17 v18 v19 v20 v21 v22 v23 v24 v25 v26 v27 : FuncData}
    {t_MOST_LETTERS : Tok}
    {t_MOST_SMALL : Tok}
    (X : K.In h) (Gm : h.Ns mainGlobals mg) (hfa : mg "law" = some (.ref fa))
    (d0 : DefIn K "_law_pot" s0 a0 v0)
    (d1 : DefIn K "_law_draw" s1 a1 v1)
    (d2 : DefIn K "grown" s2 a2 v2)
    (d3 : DefIn K "named_words" s3 a3 v3)
    (d4 : DefIn K "relabelled" s4 a4 v4)
    (d5 : DefIn K "turned_of" s5 a5 v5)
    (d6 : DefIn K "all_readings" s6 a6 v6)
    (d7 : DefIn K "normal_of" s7 a7 v7)
    (d8 : DefIn K "small_of" s8 a8 v8)
    (d9 : DefIn K "is_integer" s9 a9 v9)
    (d10 : DefIn K "is_count" s10 a10 v10)
    (d11 : DefIn K "want_many" s11 a11 v11)
    (d12 : DefIn K "small_words" s12 a12 v12)
    (d13 : DefIn K "_law_shuffled" s13 a13 v13)
    (d14 : DefIn K "_law_pick" s14 a14 v14)
    (d15 : DefIn K "_law_joined" s15 a15 v15)
    (d16 : DefIn K "_law_clovers" s16 a16 v16)
    (d17 : DefIn K "_law_any" s17 a17 v17)
    (d18 : DefIn K "_law_word" s18 a18 v18)
    (d19 : DefIn K "_law_named" s19 a19 v19)
    (d20 : DefIn K "_law_views" s20 a20 v20)
    (d21 : DefIn K "is_below" s21 a21 v21)
    (d22 : DefIn K "is_word_of" s22 a22 v22)
    (d23 : DefIn K "want_word" s23 a23 v23)
    (d24 : DefIn K "least_view" s24 a24 v24)
    (d25 : DefIn K "all_views" s25 a25 v25)
    (d26 : DefIn K "_law_all" s26 a26 v26)
    (d27 : DefIn K "law" s27 a27 v27)
    (z0 : PySem.W.nsIn K mainGlobals "abs" = some none)
    (z1 : PySem.W.nsIn K mainGlobals "all" = some none)
    (z2 : PySem.W.nsIn K mainGlobals "bool" = some none)
    (z3 : PySem.W.nsIn K mainGlobals "divmod" = some none)
    (z4 : PySem.W.nsIn K mainGlobals "int" = some none)
    (z5 : PySem.W.nsIn K mainGlobals "isinstance" = some none)
    (z6 : PySem.W.nsIn K mainGlobals "len" = some none)
    (z7 : PySem.W.nsIn K mainGlobals "list" = some none)
    (z8 : PySem.W.nsIn K mainGlobals "max" = some none)
    (z9 : PySem.W.nsIn K mainGlobals "min" = some none)
    (z10 : PySem.W.nsIn K mainGlobals "range" = some none)
    (z11 : PySem.W.nsIn K mainGlobals "repr" = some none)
    (z12 : PySem.W.nsIn K mainGlobals "set" = some none)
    (z13 : PySem.W.nsIn K mainGlobals "sorted" = some none)
    (z14 : PySem.W.nsIn K mainGlobals "tuple" = some none)
    (g0 : PySem.W.nsIn K mainGlobals "MOST_LETTERS" = some (some (Value.int 10 t_MOST_LETTERS)))
    (g1 : PySem.W.nsIn K mainGlobals "MOST_SMALL" = some (some (Value.int 5 t_MOST_SMALL)))
    : ∃ fd : FuncData, (∀ (s : Shared) (v : Value), BindsTo s fd ⟨[v], []⟩ [("script", v)]) ∧ ∀ base : Heap, K.In base → base.Ns mainGlobals mg → FnG Pg w K mg base 7 fa fd ["script"] (spEv K (fun _ => 0) P 7 27) := by
  have e := hfa.symm.trans (d27.mg X Gm)
  have e2 : a27 = fa := by cases e; rfl
  subst e2
  refine ⟨v27, fun s v => ?_, fun base KB GB => ?_⟩
  · obtain ⟨oc, kV, dc, pm, cd, ct, od, an, sl, e, l, c⟩ := d27.out
    rw [e]
    exact .of_eq rfl
  let ad : Nat → Addr := fun i => [a0, a1, a2, a3, a4, a5, a6, a7, a8, a9, a10, a11, a12, a13, a14, a15, a16, a17, a18, a19, a20, a21, a22, a23, a24, a25, a26, a27].getD i 0
  let fd : Nat → FuncData := fun i => [v0, v1, v2, v3, v4, v5, v6, v7, v8, v9, v10, v11, v12, v13, v14, v15, v16, v17, v18, v19, v20, v21, v22, v23, v24, v25, v26, v27].getD i v0
  have facts : ∀ f F, P[f]? = some F → FnFact K ad fd psf CK f F := fun f F h => match f, h with
    | 0, h => by cases h; exact d0.fact rfl rfl rfl sc0 rfl rfl c0
    | 1, h => by cases h; exact d1.fact rfl rfl rfl sc1 rfl rfl c1
    | 2, h => by cases h; exact d2.fact rfl rfl rfl sc2 rfl rfl c2
    | 3, h => by cases h; exact d3.fact rfl rfl rfl sc3 rfl rfl c3
    | 4, h => by cases h; exact d4.fact rfl rfl rfl sc4 rfl rfl c4
    | 5, h => by cases h; exact d5.fact rfl rfl rfl sc5 rfl rfl c5
    | 6, h => by cases h; exact d6.fact rfl rfl rfl sc6 rfl rfl c6
    | 7, h => by cases h; exact d7.fact rfl rfl rfl sc7 rfl rfl c7
    | 8, h => by cases h; exact d8.fact rfl rfl rfl sc8 rfl rfl c8
    | 9, h => by cases h; exact d9.fact rfl rfl rfl sc9 rfl rfl c9
    | 10, h => by cases h; exact d10.fact rfl rfl rfl sc10 rfl rfl c10
    | 11, h => by cases h; exact d11.fact rfl rfl rfl sc11 rfl rfl c11
    | 12, h => by cases h; exact d12.fact rfl rfl rfl sc12 rfl rfl c12
    | 13, h => by cases h; exact d13.fact rfl rfl rfl sc13 rfl rfl c13
    | 14, h => by cases h; exact d14.fact rfl rfl rfl sc14 rfl rfl c14
    | 15, h => by cases h; exact d15.fact rfl rfl rfl sc15 rfl rfl c15
    | 16, h => by cases h; exact d16.fact rfl rfl rfl sc16 rfl rfl c16
    | 17, h => by cases h; exact d17.fact rfl rfl rfl sc17 rfl rfl c17
    | 18, h => by cases h; exact d18.fact rfl rfl rfl sc18 rfl rfl c18
    | 19, h => by cases h; exact d19.fact rfl rfl rfl sc19 rfl rfl c19
    | 20, h => by cases h; exact d20.fact rfl rfl rfl sc20 rfl rfl c20
    | 21, h => by cases h; exact d21.fact rfl rfl rfl sc21 rfl rfl c21
    | 22, h => by cases h; exact d22.fact rfl rfl rfl sc22 rfl rfl c22
    | 23, h => by cases h; exact d23.fact rfl rfl rfl sc23 rfl rfl c23
    | 24, h => by cases h; exact d24.fact rfl rfl rfl sc24 rfl rfl c24
    | 25, h => by cases h; exact d25.fact rfl rfl rfl sc25 rfl rfl c25
    | 26, h => by cases h; exact d26.fact rfl rfl rfl sc26 rfl rfl c26
    | 27, h => by cases h; exact d27.fact rfl rfl rfl sc27 rfl rfl c27
    | f + 28, h => by cases h
  have ck : CkOk K mg (fun _ => 0) ad fd psf P.length CK := by
    refine ⟨?_, fun f x h => ?_, ?_, ?_⟩
    · exact fm (PySem.W.mg_none_of X Gm z0) <| fm (PySem.W.mg_none_of X Gm z1) <| fm (PySem.W.mg_none_of X Gm z2) <| fm (PySem.W.mg_none_of X Gm z3) <| fm (PySem.W.mg_none_of X Gm z4) <| fm (PySem.W.mg_none_of X Gm z5) <| fm (PySem.W.mg_none_of X Gm z6) <| fm (PySem.W.mg_none_of X Gm z7) <| fm (PySem.W.mg_none_of X Gm z8) <| fm (PySem.W.mg_none_of X Gm z9) <| fm (PySem.W.mg_none_of X Gm z10) <| fm (PySem.W.mg_none_of X Gm z11) <| fm (PySem.W.mg_none_of X Gm z12) <| fm (PySem.W.mg_none_of X Gm z13) <| fm (PySem.W.mg_none_of X Gm z14) <| fm0
    · exact match f, h with
      | 0, h => by cases h; exact ⟨by decide, d0.mg X Gm, d0.kp⟩
      | 1, h => by cases h; exact ⟨by decide, d1.mg X Gm, d1.kp⟩
      | 2, h => by cases h; exact ⟨by decide, d2.mg X Gm, d2.kp⟩
      | 3, h => by cases h; exact ⟨by decide, d3.mg X Gm, d3.kp⟩
      | 4, h => by cases h; exact ⟨by decide, d4.mg X Gm, d4.kp⟩
      | 5, h => by cases h; exact ⟨by decide, d5.mg X Gm, d5.kp⟩
      | 6, h => by cases h; exact ⟨by decide, d6.mg X Gm, d6.kp⟩
      | 7, h => by cases h; exact ⟨by decide, d7.mg X Gm, d7.kp⟩
      | 8, h => by cases h; exact ⟨by decide, d8.mg X Gm, d8.kp⟩
      | 9, h => by cases h; exact ⟨by decide, d9.mg X Gm, d9.kp⟩
      | 10, h => by cases h; exact ⟨by decide, d10.mg X Gm, d10.kp⟩
      | 11, h => by cases h; exact ⟨by decide, d11.mg X Gm, d11.kp⟩
      | 12, h => by cases h; exact ⟨by decide, d12.mg X Gm, d12.kp⟩
      | 13, h => by cases h; exact ⟨by decide, d13.mg X Gm, d13.kp⟩
      | 14, h => by cases h; exact ⟨by decide, d14.mg X Gm, d14.kp⟩
      | 15, h => by cases h; exact ⟨by decide, d15.mg X Gm, d15.kp⟩
      | 16, h => by cases h; exact ⟨by decide, d16.mg X Gm, d16.kp⟩
      | 17, h => by cases h; exact ⟨by decide, d17.mg X Gm, d17.kp⟩
      | 18, h => by cases h; exact ⟨by decide, d18.mg X Gm, d18.kp⟩
      | 19, h => by cases h; exact ⟨by decide, d19.mg X Gm, d19.kp⟩
      | 20, h => by cases h; exact ⟨by decide, d20.mg X Gm, d20.kp⟩
      | 21, h => by cases h; exact ⟨by decide, d21.mg X Gm, d21.kp⟩
      | 22, h => by cases h; exact ⟨by decide, d22.mg X Gm, d22.kp⟩
      | 23, h => by cases h; exact ⟨by decide, d23.mg X Gm, d23.kp⟩
      | 24, h => by cases h; exact ⟨by decide, d24.mg X Gm, d24.kp⟩
      | 25, h => by cases h; exact ⟨by decide, d25.mg X Gm, d25.kp⟩
      | 26, h => by cases h; exact ⟨by decide, d26.mg X Gm, d26.kp⟩
      | 27, h => by cases h; exact ⟨by decide, d27.mg X Gm, d27.kp⟩
      | f + 28, h => by cases h
    · exact fm (d0.bind (fun _ _ _ _ _ _ us ws us' h1 h2 h3 => match us, ws, h1, h2, h3 with | [u0, u1], [], _, _, h3 => by cases h3; rfl)) <|
        fm (d1.bind (fun _ _ _ _ _ _ us ws us' h1 h2 h3 => match us, ws, h1, h2, h3 with | [u0, u1], [], _, _, h3 => by cases h3; rfl)) <|
        fm (d2.bind (fun _ _ _ _ _ _ us ws us' h1 h2 h3 => match us, ws, h1, h2, h3 with | [u0, u1], [], _, _, h3 => by cases h3; rfl)) <|
        fm (d3.bind (fun _ _ _ _ _ _ us ws us' h1 h2 h3 => match us, ws, h1, h2, h3 with | [u0], [], _, _, h3 => by cases h3; rfl)) <|
        fm (d4.bind (fun _ _ _ _ _ _ us ws us' h1 h2 h3 => match us, ws, h1, h2, h3 with | [u0], [], _, _, h3 => by cases h3; rfl)) <|
        fm (d5.bind (fun _ _ _ _ _ _ us ws us' h1 h2 h3 => match us, ws, h1, h2, h3 with | [u0, u1], [], _, _, h3 => by cases h3; rfl)) <|
        fm (d6.bind (fun _ _ _ _ _ _ us ws us' h1 h2 h3 => match us, ws, h1, h2, h3 with | [u0], [], _, _, h3 => by cases h3; rfl)) <|
        fm (d7.bind (fun _ _ _ _ _ _ us ws us' h1 h2 h3 => match us, ws, h1, h2, h3 with | [u0], [], _, _, h3 => by cases h3; rfl)) <|
        fm (d8.bind (fun _ _ _ _ _ _ us ws us' h1 h2 h3 => match us, ws, h1, h2, h3 with | [u0], [], _, _, h3 => by cases h3; rfl)) <|
        fm (d9.bind (fun _ _ _ _ _ _ us ws us' h1 h2 h3 => match us, ws, h1, h2, h3 with | [u0], [], _, _, h3 => by cases h3; rfl)) <|
        fm (d10.bind (fun _ _ _ _ _ _ us ws us' h1 h2 h3 => match us, ws, h1, h2, h3 with | [u0], [], _, _, h3 => by cases h3; rfl)) <|
        fm (d11.bind (fun _ _ _ _ _ _ us ws us' h1 h2 h3 => match us, ws, h1, h2, h3 with | [u0, u1, u2], [], _, _, h3 => by cases h3; rfl)) <|
        fm (d12.bind (fun _ _ _ _ _ _ us ws us' h1 h2 h3 => match us, ws, h1, h2, h3 with | [], [w0], _, _, h3 => by cases h3; rfl)) <|
        fm (d12.bind (fun _ _ _ _ _ _ us ws us' h1 h2 h3 => match us, ws, h1, h2, h3 with | [u0], [], _, _, h3 => by cases h3; rfl)) <|
        fm (d13.bind (fun _ _ _ _ _ _ us ws us' h1 h2 h3 => match us, ws, h1, h2, h3 with | [u0, u1], [], _, _, h3 => by cases h3; rfl)) <|
        fm (d14.bind (fun _ _ _ _ _ _ us ws us' h1 h2 h3 => match us, ws, h1, h2, h3 with | [u0, u1], [], _, _, h3 => by cases h3; rfl)) <|
        fm (d15.bind (fun _ _ _ _ _ _ us ws us' h1 h2 h3 => match us, ws, h1, h2, h3 with | [u0, u1, u2], [], _, _, h3 => by cases h3; rfl)) <|
        fm (d16.bind (fun _ _ _ _ _ _ us ws us' h1 h2 h3 => match us, ws, h1, h2, h3 with | [u0, u1], [], _, _, h3 => by cases h3; rfl)) <|
        fm (d17.bind (fun _ _ _ _ _ _ us ws us' h1 h2 h3 => match us, ws, h1, h2, h3 with | [u0, u1], [], _, _, h3 => by cases h3; rfl)) <|
        fm (d18.bind (fun _ _ _ _ _ _ us ws us' h1 h2 h3 => match us, ws, h1, h2, h3 with | [u0, u1], [], _, _, h3 => by cases h3; rfl)) <|
        fm (d19.bind (fun _ _ _ _ _ _ us ws us' h1 h2 h3 => match us, ws, h1, h2, h3 with | [u0], [], _, _, h3 => by cases h3; rfl)) <|
        fm (d20.bind (fun _ _ _ _ _ _ us ws us' h1 h2 h3 => match us, ws, h1, h2, h3 with | [u0], [], _, _, h3 => by cases h3; rfl)) <|
        fm (d21.bind (fun _ _ _ _ _ _ us ws us' h1 h2 h3 => match us, ws, h1, h2, h3 with | [u0, u1], [], _, _, h3 => by cases h3; rfl)) <|
        fm (d22.bind (fun _ _ _ _ _ _ us ws us' h1 h2 h3 => match us, ws, h1, h2, h3 with | [u0], [], _, _, h3 => by cases h3; rfl)) <|
        fm (d23.bind (fun _ _ _ _ _ _ us ws us' h1 h2 h3 => match us, ws, h1, h2, h3 with | [u0], [], _, _, h3 => by cases h3; rfl)) <|
        fm (d24.bind (fun _ _ _ _ _ _ us ws us' h1 h2 h3 => match us, ws, h1, h2, h3 with | [], [w0], _, _, h3 => by cases h3; rfl)) <|
        fm (d24.bind (fun _ _ _ _ _ _ us ws us' h1 h2 h3 => match us, ws, h1, h2, h3 with | [u0], [], _, _, h3 => by cases h3; rfl)) <|
        fm (d25.bind (fun _ _ _ _ _ _ us ws us' h1 h2 h3 => match us, ws, h1, h2, h3 with | [], [w0], _, _, h3 => by cases h3; rfl)) <|
        fm (d25.bind (fun _ _ _ _ _ _ us ws us' h1 h2 h3 => match us, ws, h1, h2, h3 with | [u0], [], _, _, h3 => by cases h3; rfl)) <|
        fm (d26.bind (fun _ _ _ _ _ _ us ws us' h1 h2 h3 => match us, ws, h1, h2, h3 with | [u0], [], _, _, h3 => by cases h3; rfl)) <| fm0
    · exact fm ⟨_, .int 10, PySem.W.mg_of X Gm g0, ⟨_, rfl⟩, fun _ _ _ => .int _⟩ <|
        fm ⟨_, .int 5, PySem.W.mg_of X Gm g1, ⟨_, rfl⟩, fun _ _ _ => .int _⟩ <| fm0
  exact knot facts ck 7 27 (by decide)
end K98
open PySem PySem.W PyProof.Rows
set_option maxHeartbeats 0 in
theorem PySem.Challenge.cw_passedtwice_k98_whole_small_words_holds : PySem.Challenge.rw_passedtwice_k98_whole_small_words.Holds := by
  w_on; o_law; k_head; (case hw => w_witness2)
  k_fill
  refine Mi.walk_end (l := PySem.Challenge.rw_passedtwice_k98_whole_small_words) (n := 63) (k := 7) (x := "script") (sp := fun w _ => Mi.spEv _ (fun _ => 0) K98.P 7 27) rfl (by decide) rfl ⟨rfl, by decide, by decide⟩ (fun w h Y => PySem.W.kIn_of Y) ?F (fun _ _ _ a ns hl hO hS => let ⟨m, h⟩ := K98.law_true ns hl; Mi.law_sp hO hS h)
  case F =>
    intro w mg fa h KX G hmg
    refine' K98.all_mk KX G hmg (Mi.def_in ?xa0 ?xl0 ?xc0 ?xk0) (Mi.def_in ?xa1 ?xl1 ?xc1 ?xk1) (Mi.def_in ?xa2 ?xl2 ?xc2 ?xk2) (Mi.def_in ?xa3 ?xl3 ?xc3 ?xk3) (Mi.def_in ?xa4 ?xl4 ?xc4 ?xk4) (Mi.def_in ?xa5 ?xl5 ?xc5 ?xk5) (Mi.def_in ?xa6 ?xl6 ?xc6 ?xk6) (Mi.def_in ?xa7 ?xl7 ?xc7 ?xk7) (Mi.def_in ?xa8 ?xl8 ?xc8 ?xk8) (Mi.def_in ?xa9 ?xl9 ?xc9 ?xk9) (Mi.def_in ?xa10 ?xl10 ?xc10 ?xk10) (Mi.def_in ?xa11 ?xl11 ?xc11 ?xk11) (Mi.def_in ?xa12 ?xl12 ?xc12 ?xk12) (Mi.def_in ?xa13 ?xl13 ?xc13 ?xk13) (Mi.def_in ?xa14 ?xl14 ?xc14 ?xk14) (Mi.def_in ?xa15 ?xl15 ?xc15 ?xk15) (Mi.def_in ?xa16 ?xl16 ?xc16 ?xk16) (Mi.def_in ?xa17 ?xl17 ?xc17 ?xk17) (Mi.def_in ?xa18 ?xl18 ?xc18 ?xk18) (Mi.def_in ?xa19 ?xl19 ?xc19 ?xk19) (Mi.def_in ?xa20 ?xl20 ?xc20 ?xk20) (Mi.def_in ?xa21 ?xl21 ?xc21 ?xk21) (Mi.def_in ?xa22 ?xl22 ?xc22 ?xk22) (Mi.def_in ?xa23 ?xl23 ?xc23 ?xk23) (Mi.def_in ?xa24 ?xl24 ?xc24 ?xk24) (Mi.def_in ?xa25 ?xl25 ?xc25 ?xk25) (Mi.def_in ?xa26 ?xl26 ?xc26 ?xk26) (Mi.def_in ?xa27 ?xl27 ?xc27 ?xk27) ?xz0 ?xz1 ?xz2 ?xz3 ?xz4 ?xz5 ?xz6 ?xz7 ?xz8 ?xz9 ?xz10 ?xz11 ?xz12 ?xz13 ?xz14 ?xg0 ?xg1
    (case xa0 => k_is); (case xl0 => k_is); (case xc0 => k_is); (case xk0 => k_is)
    (case xa1 => k_is); (case xl1 => k_is); (case xc1 => k_is); (case xk1 => k_is)
    (case xa2 => k_is); (case xl2 => k_is); (case xc2 => k_is); (case xk2 => k_is)
    (case xa3 => k_is); (case xl3 => k_is); (case xc3 => k_is); (case xk3 => k_is)
    (case xa4 => k_is); (case xl4 => k_is); (case xc4 => k_is); (case xk4 => k_is)
    (case xa5 => k_is); (case xl5 => k_is); (case xc5 => k_is); (case xk5 => k_is)
    (case xa6 => k_is); (case xl6 => k_is); (case xc6 => k_is); (case xk6 => k_is)
    (case xa7 => k_is); (case xl7 => k_is); (case xc7 => k_is); (case xk7 => k_is)
    (case xa8 => k_is); (case xl8 => k_is); (case xc8 => k_is); (case xk8 => k_is)
    (case xa9 => k_is); (case xl9 => k_is); (case xc9 => k_is); (case xk9 => k_is)
    (case xa10 => k_is); (case xl10 => k_is); (case xc10 => k_is); (case xk10 => k_is)
    (case xa11 => k_is); (case xl11 => k_is); (case xc11 => k_is); (case xk11 => k_is)
    (case xa12 => k_is); (case xl12 => k_is); (case xc12 => k_is); (case xk12 => k_is)
    (case xa13 => k_is); (case xl13 => k_is); (case xc13 => k_is); (case xk13 => k_is)
    (case xa14 => k_is); (case xl14 => k_is); (case xc14 => k_is); (case xk14 => k_is)
    (case xa15 => k_is); (case xl15 => k_is); (case xc15 => k_is); (case xk15 => k_is)
    (case xa16 => k_is); (case xl16 => k_is); (case xc16 => k_is); (case xk16 => k_is)
    (case xa17 => k_is); (case xl17 => k_is); (case xc17 => k_is); (case xk17 => k_is)
    (case xa18 => k_is); (case xl18 => k_is); (case xc18 => k_is); (case xk18 => k_is)
    (case xa19 => k_is); (case xl19 => k_is); (case xc19 => k_is); (case xk19 => k_is)
    (case xa20 => k_is); (case xl20 => k_is); (case xc20 => k_is); (case xk20 => k_is)
    (case xa21 => k_is); (case xl21 => k_is); (case xc21 => k_is); (case xk21 => k_is)
    (case xa22 => k_is); (case xl22 => k_is); (case xc22 => k_is); (case xk22 => k_is)
    (case xa23 => k_is); (case xl23 => k_is); (case xc23 => k_is); (case xk23 => k_is)
    (case xa24 => k_is); (case xl24 => k_is); (case xc24 => k_is); (case xk24 => k_is)
    (case xa25 => k_is); (case xl25 => k_is); (case xc25 => k_is); (case xk25 => k_is)
    (case xa26 => k_is); (case xl26 => k_is); (case xc26 => k_is); (case xk26 => k_is)
    (case xa27 => k_is); (case xl27 => k_is); (case xc27 => k_is); (case xk27 => k_is)
    (case xz0 => k_is)
    (case xz1 => k_is)
    (case xz2 => k_is)
    (case xz3 => k_is)
    (case xz4 => k_is)
    (case xz5 => k_is)
    (case xz6 => k_is)
    (case xz7 => k_is)
    (case xz8 => k_is)
    (case xz9 => k_is)
    (case xz10 => k_is)
    (case xz11 => k_is)
    (case xz12 => k_is)
    (case xz13 => k_is)
    (case xz14 => k_is)
    (case xg0 => k_is)
    (case xg1 => k_is)

