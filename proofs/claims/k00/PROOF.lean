import PyProof.Rows.All
import Wide.All
import OpenK.AllK
import Wide.FinOn
import HandS.Base
import HandS.Call
import HandS.List
import HandS.Comp
import HandS.Iter
import HandS.Ends
import HandS.Exc
import HandS.ExcOwn
import HandS.Defaults
import HandS.Flow
import HandS.Style
import HandS.Wide
import HandS.TupAny
import HandS.IsInst
import HandS.TupLe
import HandS.Text
import HandS.TupMul
import HandS.Deep
import KE.GoesEnum
import KE.GoesMore
import KE.GoesNew
import KE.KDictZip
import KE.GoesZip
import HandS.Conv
import HandS.Head0
import HandS.Head1
import HandS.Head2
import HandS.HeadEnd
import HandS.HeadHook1
import HandS.HeadHook2
import KE.KStateDown
import Lean
import PySem.Challenge.RW_spacestold_k00_whole_rests_and_vectors
set_option Elab.async false
set_option linter.all false
set_option maxRecDepth 100000
section
set_option Elab.async false
set_option linter.all false
set_option maxRecDepth 100000
/-! Z1: a plain evaluator of resolved texts: values, store, expressions, statements, calls. -/
namespace Zv
open PySem

inductive PV where
  | non | bl (b : Bool) | int (i : Int) | str (x : Str) | tup (xs : List PV) | lst (xs : List PV)
  | dic (kvs : List (PV × PV)) | loc (n : Nat) | fn (f : Nat) | ty (n : String) | cls (c : Nat) | scr (xs : List Int)

inductive SO where
  | l (xs : List PV) | d (kvs : List (PV × PV))

abbrev Store := List SO
structure Exn where
  cls : Nat
  lim : Option Int

inductive Out (α : Type) where
  | ok (a : α) (S : Store) | exc (x : Exn) (S : Store) | stuck

def Out.bind {α β : Type} : Out α → (α → Store → Out β) → Out β
  | .ok a S, f => f a S
  | .exc x S, _ => .exc x S
  | .stuck, _ => .stuck
def ofO {α : Type} (S : Store) : Option α → Out α
  | some a => .ok a S
  | none => .stuck

/-! ### plain functions of values -/
mutual
def PV.clean : PV → Bool
  | .tup xs => cleans xs
  | .lst xs => cleans xs
  | .dic kvs => cleanKs kvs
  | .loc _ => false
  | _ => true
def cleans : List PV → Bool
  | [] => true
  | x :: xs => x.clean && cleans xs
def cleanKs : List (PV × PV) → Bool
  | [] => true
  | (k, v) :: r => k.clean && (v.clean && cleanKs r)
end

mutual
def PV.same : PV → PV → Bool
  | .non, .non => true
  | .bl a, .bl b => a == b
  | .int a, .int b => decide (a = b)
  | .str a, .str b => decide (a = b)
  | .tup a, .tup b => sames a b
  | .lst a, .lst b => sames a b
  | .dic a, .dic b => sameKs a b
  | .loc a, .loc b => decide (a = b)
  | .fn a, .fn b => decide (a = b)
  | .ty a, .ty b => decide (a = b)
  | .cls a, .cls b => decide (a = b)
  | .scr a, .scr b => decide (a = b)
  | _, _ => false
def sames : List PV → List PV → Bool
  | [], [] => true
  | a :: r, b :: s => a.same b && sames r s
  | _, _ => false
def sameKs : List (PV × PV) → List (PV × PV) → Bool
  | [], [] => true
  | (a, c) :: r, (b, d) :: s => a.same b && (c.same d && sameKs r s)
  | _, _ => false
end
def SO.same : SO → SO → Bool
  | .l a, .l b => sames a b
  | .d a, .d b => sameKs a b
  | _, _ => false

-- data: what == is asked of
mutual
def PV.isData : PV → Bool
  | .non => true
  | .bl _ => true
  | .int _ => true
  | .str x => (PyData.str x).canLay0
  | .tup xs => areData xs
  | .lst xs => areData xs
  | _ => false
def areData : List PV → Bool
  | [] => true
  | x :: xs => x.isData && areData xs
end
mutual
def PV.deep : PV → Nat
  | .tup xs => deeps xs + 1
  | .lst xs => deeps xs + 1
  | _ => 0
def deeps : List PV → Nat
  | [] => 0
  | x :: xs => max x.deep (deeps xs)
end
-- == of data
mutual
def PV.eqv : PV → PV → Bool
  | .non, .non => true
  | .bl a, .bl b => a == b
  | .int a, .int b => decide (a = b)
  | .bl a, .int b => decide (b = (if a then 1 else 0))
  | .int a, .bl b => decide (a = (if b then 1 else 0))
  | .str a, .str b => decide (a = b)
  | .tup a, .tup b => eqvs a b
  | .lst a, .lst b => eqvs a b
  | _, _ => false
def eqvs : List PV → List PV → Bool
  | [], [] => true
  | a :: r, b :: s => a.eqv b && eqvs r s
  | _, _ => false
end

def LIM : Nat := 100000
def BIGB : Nat := 2 ^ 4000
def mulOk (i j : Int) : Bool := decide (i.natAbs < 2 ^ 64) || (decide (j.natAbs < 2 ^ 64) || (decide (i.natAbs < BIGB) && decide (j.natAbs < BIGB)))
def divOk (j : Int) : Bool := decide (0 < j) && decide (j.natAbs < BIGB)
def powOk (i j : Int) : Bool := decide (0 ≤ j) && (decide (j ≤ 1000) && decide (i.natAbs < 2 ^ 64))

def repOk (k : Nat) (n : Int) : Bool := decide (k * n.toNat ≤ LIM) && (decide (n ≤ 100000) && decide (-100000 ≤ n))

/-- a live list's items, a plain one's -/
def seqOf (S : Store) : PV → Option (List PV)
  | .lst xs => some xs
  | .loc n => match S[n]? with
    | some (.l xs) => some xs
    | _ => none
  | _ => none
/-- .. or a tuple's -/
def itemsOf (S : Store) : PV → Option (List PV)
  | .tup xs => some xs
  | v => seqOf S v
/-- a live list as a plain one (for ==) -/
def flat (S : Store) : PV → PV
  | .loc n => match S[n]? with
    | some (.l xs) => .lst xs
    | _ => .loc n
  | v => v

def rep {α : Type} (xs : List α) : Nat → List α
  | 0 => []
  | n + 1 => xs ++ rep xs n

def guardO {α : Type} (b : Bool) (a : α) : Option α := match b with
  | true => some a
  | false => none

def binop (op : Operator) (a b : PV) (S : Store) : Option PV :=
  match op with
  | .Add => match a, b with
    | .int i, .int j => some (.int (i + j))
    | .tup xs, .tup ys => guardO (decide (xs.length + ys.length ≤ LIM)) (.tup (xs ++ ys))
    | .str x, .str y => guardO (decide (x.length + y.length ≤ LIM)) (.str (x ++ y))
    | a, b => match seqOf S a, seqOf S b with
      | some xs, some ys => guardO (decide (xs.length + ys.length ≤ LIM)) (.lst (xs ++ ys))
      | _, _ => none
  | .Sub => match a, b with
    | .int i, .int j => some (.int (i - j))
    | _, _ => none
  | .Mult => match a, b with
    | .int i, .int j => guardO (mulOk i j) (.int (i * j))
    | .tup xs, .int n => guardO (repOk xs.length n) (.tup (rep xs n.toNat))
    | a, .int n => match seqOf S a with
      | some xs => guardO (repOk xs.length n) (.lst (rep xs n.toNat))
      | none => none
    | _, _ => none
  | .FloorDiv => match a, b with
    | .int i, .int j => guardO (divOk j) (.int (i / j))
    | _, _ => none
  | .Mod => match a, b with
    | .int i, .int j => guardO (decide (0 < j)) (.int (i % j))
    | _, _ => none
  | .Pow => match a, b with
    | .int i, .int j => guardO (powOk i j) (.int (i ^ j.toNat))
    | _, _ => none
  | _ => none

/-- equality; data of a depth below 64 -/
def eqO (a b : PV) : Option Bool := guardO (a.isData && (b.isData && (decide (a.deep ≤ 60) && decide (b.deep ≤ 60)))) (a.eqv b)
def ltI : List Int → List Int → Bool
  | [], [] => false
  | [], _ :: _ => true
  | _ :: _, [] => false
  | a :: r, b :: s => if a = b then ltI r s else decide (a < b)
def ints? : List PV → Option (List Int)
  | [] => some []
  | .int i :: r => match ints? r with
    | some is => some (i :: is)
    | none => none
  | _ => none
def cmpop (op : CmpOp) (a b : PV) (S : Store) : Option Bool :=
  match op with
  | .Eq => eqO (flat S a) (flat S b)
  | .NotEq => (eqO (flat S a) (flat S b)).map (!·)
  | .Lt => match a, b with
    | .int i, .int j => some (decide (i < j))
    | .tup xs, .tup ys => match ints? xs, ints? ys with
      | some is, some js => some (ltI is js)
      | _, _ => none
    | .str x, .str y => some (decide (x.cps.toList < y.cps.toList))
    | _, _ => none
  | .LtE => match a, b with
    | .int i, .int j => some (decide (i ≤ j))
    | _, _ => none
  | .Gt => match a, b with
    | .int i, .int j => some (decide (j < i))
    | _, _ => none
  | .GtE => match a, b with
    | .int i, .int j => some (decide (j ≤ i))
    | _, _ => none
  | .In => match itemsOf S b with
    | some xs => guardO ((flat S a).isData && (areData xs && (decide ((flat S a).deep ≤ 60) && decide (deeps xs ≤ 59)))) (xs.any fun z => z.eqv (flat S a))
    | none => none
  | .NotIn => match itemsOf S b with
    | some xs => guardO ((flat S a).isData && (areData xs && (decide ((flat S a).deep ≤ 60) && decide (deeps xs ≤ 59)))) (!xs.any fun z => z.eqv (flat S a))
    | none => none
  | .Is => match b with
    | .non => some (match a with | .non => true | _ => false)
    | .bl b => match a with
      | .bl a => some (a == b)
      | _ => none
    | _ => none
  | .IsNot => match b with
    | .non => some (match a with | .non => false | _ => true)
    | .bl b => match a with
      | .bl a => some (!(a == b))
      | _ => none
    | _ => none

def truth (v : PV) : Option Bool := match v with
  | .bl b => some b
  | .str x => guardO (decide (x.length ≤ LIM)) ((x.length : Int) != 0)
  | _ => none

/-- the place of an index -/
def at_ (n : Nat) (i : Int) : Option Nat := match decide (0 ≤ i) with
  | true => match decide (i < n) with
    | true => some i.toNat
    | false => none
  | false => match decide (0 ≤ i + n) with
    | true => some (i + n).toNat
    | false => none
/-- the bound of a slice -/
def bnd (n : Nat) (d : Nat) : Option Int → Nat
  | none => d
  | some i => if 0 ≤ i then min i.toNat n else (i + n).toNat
def cut {α : Type} (xs : List α) (lo hi : Option Int) : List α := (xs.drop (bnd xs.length 0 lo)).take (bnd xs.length xs.length hi - bnd xs.length 0 lo)

inductive BI where
  | len | abs | int | str | list | tuple | sum | max | min | all | any | sorted | bool
deriving DecidableEq

def insI (i : Int) : List Int → List Int
  | [] => [i]
  | x :: xs => if i ≤ x then i :: x :: xs else x :: insI i xs
def sortI : List Int → List Int
  | [] => []
  | x :: xs => insI x (sortI xs)
def allB : List PV → Option Bool
  | [] => some true
  | .bl b :: r => match allB r with
    | some c => some (b && c)
    | none => none
  | _ => none
def anyB : List PV → Option Bool
  | [] => some false
  | .bl b :: r => match anyB r with
    | some c => some (b || c)
    | none => none
  | _ => none

def bfun (b : BI) (vs : List PV) (S : Store) : Option PV :=
  match b, vs with
  | .len, [.str x] => guardO (decide (x.length ≤ LIM)) (.int x.length)
  | .len, [v] => match itemsOf S v with
    | some xs => some (.int xs.length)
    | none => none
  | .abs, [.int i] => some (.int (if i < 0 then -i else i))
  | .int, [.int i] => some (.int i)
  | .int, [.bl b] => some (.int (if b then 1 else 0))
  | .str, [.int i] => guardO (decide (i.natAbs.log2 < 1920)) (.str (toString i))
  | .list, [.scr xs] => some (.lst (xs.map .int))
  | .list, [v] => match itemsOf S v with
    | some xs => some (.lst xs)
    | none => none
  | .tuple, [v] => match itemsOf S v with
    | some xs => some (.tup xs)
    | none => none
  | .sum, [v] => match seqOf S v with
    | some xs => match ints? xs with
      | some is => some (.int is.sum)
      | none => none
    | none => none
  | .max, [.int i, .int j] => some (.int (if j > i then j else i))
  | .min, [.int i, .int j] => some (.int (if j < i then j else i))
  | .sorted, [v] => match seqOf S v with
    | some xs => match ints? xs with
      | some is => guardO (decide (is.length < 64)) (.lst ((sortI is).map .int))
      | none => none
    | none => none
  | .all, [v] => match seqOf S v with
    | some xs => (allB xs).map .bl
    | none => none
  | .any, [v] => match seqOf S v with
    | some xs => (anyB xs).map .bl
    | none => none
  | _, _ => none

/-- isinstance -/
def isTy (t : String) : PV → Option Bool
  | .non => some false
  | .bl _ => some (t == "bool" || t == "int")
  | .int _ => some (t == "int")
  | .str _ => some (t == "str")
  | .tup _ => some (t == "tuple")
  | .lst _ => some (t == "list")
  | .loc _ => some (t == "list")
  | _ => none

/-! ### texts -/
inductive Mth where
  | append | extend | pop | index | count | join | split | get
deriving DecidableEq

mutual
inductive E where
  | var (i : Nat)
  | con (c : PV)
  | gl (x : Str) (id : Nat)
  | fnr (f : Nat)
  | bin (op : Operator) (a b : E)
  | neg (a : E)
  | and (a b : E)
  | or (a b : E)
  | not (a : E)
  | cmp (op : CmpOp) (a b : E)
  | chain (op op' : CmpOp) (a b c : E)
  | call (f : Nat) (es : List E)
  | callv (i : Nat) (es : List E)
  | bi (b : BI) (es : List E)
  | biIt (b : BI) (it : It)
  | isin (a : E) (t : String)
  | meth (m : Mth) (r : E) (es : List E)
  | ix (a b : E)
  | sl (a : E) (lo hi : Option E)
  | slrev (a : E)
  | ife (c a b : E)
  | tup (es : List E)
  | lst (es : List E)
  | new (e : E)
  | comp (own : List Nat) (el : E) (t : T) (it : It) (cs : List E)
  | comp2 (own : List Nat) (el : E) (t : T) (it : It) (cs : List E) (own2 : List Nat) (t2 : T) (it2 : It) (cs2 : List E)
  | dict (ks vs : List E)
  | dix (kvs : List (Int × Int)) (e : E)
inductive It where
  | val (e : E)
  | rng1 (a : E)
  | rng2 (a b : E)
  | rng3 (a b c : E)
  | enum (e : E)
  | zip (a b : E)
inductive T where
  | nm (i : Nat)
  | tp (ts : List T)
  | sub (a i : E)
end

abbrev Env := List (Option PV)
def look : Env → Nat → Option PV
  | [], _ => none
  | o :: _, 0 => o
  | _ :: r, i + 1 => look r i
def wipeE (σ : Env) : List Nat → Env
  | [] => σ
  | v :: vs => (wipeE σ vs).set v none

abbrev Guard := List (Nat × SO)
def okG : Guard → Store → Bool
  | [], _ => true
  | (n, o) :: r, S => match S[n]? with
    | some o' => o.same o' && okG r S
    | none => false

def loopC (step : PV → Store → Out (Option PV)) (g : Guard) : List PV → Store → Out (List PV)
  | [], S => match okG g S with
    | true => .ok [] S
    | false => .stuck
  | x :: xs, S => match okG g S with
    | true => (step x S).bind fun o S1 => (loopC step g xs S1).bind fun ys S2 => .ok (match o with
      | some y => y :: ys
      | none => ys) S2
    | false => .stuck
def loopC2 (step : PV → Store → Out (List PV)) (g : Guard) : List PV → Store → Out (List PV)
  | [], S => match okG g S with
    | true => .ok [] S
    | false => .stuck
  | x :: xs, S => match okG g S with
    | true => (step x S).bind fun zs S1 => (loopC2 step g xs S1).bind fun ys S2 => .ok (zs ++ ys) S2
    | false => .stuck
/-- exceptions do not leave a comprehension here -/
def noExc {α : Type} : Out α → Out α
  | .exc _ _ => .stuck
  | o => o

def rangeL (lo : Int) : Nat → List PV
  | 0 => []
  | n + 1 => .int lo :: rangeL (lo + 1) n
def rangeS (lo : Int) (st : Int) : Nat → List PV
  | 0 => []
  | n + 1 => .int lo :: rangeS (lo + st) st n
def enumL (i : Nat) : List PV → List PV
  | [] => []
  | x :: xs => .tup [.int i, x] :: enumL (i + 1) xs
def zipL : List PV → List PV → List PV
  | x :: xs, y :: ys => .tup [x, y] :: zipL xs ys
  | _, _ => []
def itOf (S : Store) : PV → Option (List PV × Guard)
  | .tup xs => some (xs, [])
  | .lst xs => some (xs, [])
  | .loc n => match S[n]? with
    | some (.l xs) => some (xs, [(n, .l xs)])
    | _ => none
  | _ => none
def small (i : Int) : Bool := decide (-1000000 ≤ i) && decide (i ≤ 1000000)

def biOf (b : BI) (xs : List PV) (S : Store) : Out PV := match b with
  | .list => .ok (.lst xs) S
  | .tuple => .ok (.tup xs) S
  | _ => .stuck

def recvOk (m : Mth) (r : PV) : Bool := match m, r with
  | .append, .loc _ => true
  | .extend, .loc _ => true
  | .pop, .loc _ => true
  | _, _ => false
def methf (m : Mth) (r : PV) (vs : List PV) (S : Store) : Option (PV × Store) :=
  match m, r, vs with
  | .append, .loc n, [v] => match S[n]? with
    | some (.l xs) => guardO (v.clean && decide (xs.length < LIM)) (.non, S.set n (.l (xs ++ [v])))
    | _ => none
  | .extend, .loc n, [v] => match S[n]?, seqOf S v with
    | some (.l xs), some ys => guardO (cleans ys && decide (xs.length + ys.length ≤ LIM)) (.non, S.set n (.l (xs ++ ys)))
    | _, _ => none
  | .pop, .loc n, [] => match S[n]? with
    | some (.l xs) => match xs[xs.length - 1]? with
      | some x => some (x, S.set n (.l xs.dropLast))
      | none => none
    | _ => none
  | .pop, .loc n, [.int i] => match S[n]? with
    | some (.l xs) => match at_ xs.length i with
      | some j => match xs[j]? with
        | some x => guardO (small i) (x, S.set n (.l (xs.eraseIdx j)))
        | none => none
      | none => none
    | _ => none
  | _, _, _ => none

section
variable (call : Nat → List PV → Store → Out PV) (gl : Nat → Option PV)
mutual
def ev : E → Env → Store → Out PV
  | .var i, σ, S => ofO S (look σ i)
  | .con c, _, S => .ok c S
  | .gl _ id, _, S => ofO S (gl id)
  | .fnr f, _, S => .ok (.fn f) S
  | .bin op a b, σ, S => (ev a σ S).bind fun x S1 => (ev b σ S1).bind fun y S2 => ofO S2 (binop op x y S2)
  | .neg a, σ, S => (ev a σ S).bind fun x S1 => match x with
    | .int i => .ok (.int (-i)) S1
    | _ => .stuck
  | .and a b, σ, S => (ev a σ S).bind fun x S1 => match truth x with
    | some true => ev b σ S1
    | some false => .ok x S1
    | none => .stuck
  | .or a b, σ, S => (ev a σ S).bind fun x S1 => match truth x with
    | some true => .ok x S1
    | some false => ev b σ S1
    | none => .stuck
  | .not a, σ, S => (ev a σ S).bind fun x S1 => match truth x with
    | some b => .ok (.bl (!b)) S1
    | none => .stuck
  | .cmp op a b, σ, S => (ev a σ S).bind fun x S1 => (ev b σ S1).bind fun y S2 => ofO S2 ((cmpop op x y S2).map .bl)
  | .chain op op' a b c, σ, S => (ev a σ S).bind fun x S1 => (ev b σ S1).bind fun y S2 => match cmpop op x y S2 with
    | some true => (ev c σ S2).bind fun z S3 => ofO S3 ((cmpop op' y z S3).map .bl)
    | some false => .ok (.bl false) S2
    | none => .stuck
  | .call f es, σ, S => (evs es σ S).bind fun vs S1 => call f vs S1
  | .callv i es, σ, S => match look σ i with
    | some (.fn f) => (evs es σ S).bind fun vs S1 => call f vs S1
    | _ => .stuck
  | .bi b es, σ, S => (evs es σ S).bind fun vs S1 => ofO S1 (bfun b vs S1)
  | .biIt b it, σ, S => (itv it σ S).bind fun xs S1 => biOf b xs.1 S1
  | .isin a t, σ, S => (ev a σ S).bind fun x S1 => ofO S1 ((isTy t x).map .bl)
  | .meth m r es, σ, S => (ev r σ S).bind fun x S1 => match recvOk m x with
    | true => (evs es σ S1).bind fun vs S2 => match methf m x vs S2 with
      | some (v, S3) => .ok v S3
      | none => .stuck
    | false => .stuck
  | .ix a b, σ, S => (ev a σ S).bind fun x S1 => (ev b σ S1).bind fun y S2 => match y with
    | .int i => match itemsOf S2 x with
      | some xs => match at_ xs.length i with
        | some j => ofO S2 xs[j]?
        | none => .stuck
      | none => .stuck
    | _ => .stuck
  | .sl a lo hi, σ, S => (ev a σ S).bind fun x S1 => (evo lo σ S1).bind fun l S2 => (evo hi σ S2).bind fun h S3 => match x with
    | .tup xs => .ok (.tup (cut xs l h)) S3
    | x => match seqOf S3 x with
      | some xs => .ok (.lst (cut xs l h)) S3
      | none => .stuck
  | .slrev a, σ, S => (ev a σ S).bind fun x S1 => match x with
    | x => match seqOf S1 x with
      | some xs => .ok (.lst xs.reverse) S1
      | none => .stuck
  | .ife c a b, σ, S => (ev c σ S).bind fun x S1 => match truth x with
    | some true => ev a σ S1
    | some false => ev b σ S1
    | none => .stuck
  | .tup es, σ, S => (evs es σ S).bind fun vs S1 => match decide (vs.length ≤ LIM) with
    | true => .ok (.tup vs) S1
    | false => .stuck
  | .lst es, σ, S => (evs es σ S).bind fun vs S1 => match decide (vs.length ≤ LIM) with
    | true => .ok (.lst vs) S1
    | false => .stuck
  | .new e, σ, S => (ev e σ S).bind fun x S1 => match x with
    | .lst xs => match cleans xs with
      | true => .ok (.loc S1.length) (S1 ++ [.l xs])
      | false => .stuck
    | _ => .stuck
  | .comp own el t it cs, σ, S => noExc ((itv it σ S).bind fun xs S1 =>
      (loopC (fun x S2 => (asgT t x (wipeE σ own) S2).bind fun σ2 S3 => (evc cs σ2 S3).bind fun b S4 => match b with
        | true => (ev el σ2 S4).bind fun y S5 => .ok (some y) S5
        | false => .ok none S4) xs.2 xs.1 S1).bind fun ys S6 => match decide (ys.length ≤ LIM) with
        | true => .ok (.lst ys) S6
        | false => .stuck)
  | .comp2 own el t it cs own2 t2 it2 cs2, σ, S => noExc ((itv it σ S).bind fun xs S1 =>
      (loopC2 (fun x S2 => (asgT t x (wipeE σ own) S2).bind fun σ2 S3 => (evc cs σ2 S3).bind fun b S4 => match b with
        | true => (itv it2 σ2 S4).bind fun zs S5 => loopC (fun z S6 => (asgT t2 z (wipeE σ2 own2) S6).bind fun σ3 S7 => (evc cs2 σ3 S7).bind fun b S8 => match b with
          | true => (ev el σ3 S8).bind fun y S9 => .ok (some y) S9
          | false => .ok none S8) zs.2 zs.1 S5
        | false => .ok [] S4) xs.2 xs.1 S1).bind fun ys S6 => match decide (ys.length ≤ LIM) with
        | true => .ok (.lst ys) S6
        | false => .stuck)
  | .dict ks vs, σ, S => .stuck
  | .dix kvs e, σ, S => (ev e σ S).bind fun x S1 => match x with
    | .int i => match kvs.lookup i with
      | some j => .ok (.int j) S1
      | none => .stuck
    | _ => .stuck
termination_by structural e => e
def evs : List E → Env → Store → Out (List PV)
  | [], _, S => .ok [] S
  | e :: es, σ, S => (ev e σ S).bind fun x S1 => (evs es σ S1).bind fun xs S2 => .ok (x :: xs) S2
termination_by structural es => es
/-- all of the tests -/
def evc : List E → Env → Store → Out Bool
  | [], _, S => .ok true S
  | e :: es, σ, S => (ev e σ S).bind fun x S1 => match truth x with
    | some true => evc es σ S1
    | some false => .ok false S1
    | none => .stuck
termination_by structural es => es
def evo : Option E → Env → Store → Out (Option Int)
  | none, _, S => .ok none S
  | some e, σ, S => (ev e σ S).bind fun x S1 => match x with
    | .int i => .ok (some i) S1
    | _ => .stuck
termination_by structural e => e
def itv : It → Env → Store → Out (List PV × Guard)
  | .val e, σ, S => (ev e σ S).bind fun x S1 => ofO S1 (itOf S1 x)
  | .rng1 a, σ, S => (ev a σ S).bind fun x S1 => match x with
    | .int i => match small i with
      | true => .ok (rangeL 0 i.toNat, []) S1
      | false => .stuck
    | _ => .stuck
  | .rng2 a b, σ, S => (ev a σ S).bind fun x S1 => (ev b σ S1).bind fun y S2 => match x, y with
    | .int i, .int j => match small i && small j with
      | true => .ok (rangeL i (j - i).toNat, []) S2
      | false => .stuck
    | _, _ => .stuck
  | .rng3 a b c, σ, S => (ev a σ S).bind fun x S1 => (ev b σ S1).bind fun y S2 => (ev c σ S2).bind fun z S3 => match x, y, z with
    | .int i, .int j, .int k => match small i && small j && decide (k = -1) with
      | true => .ok (rangeS i (-1) (i - j).toNat, []) S3
      | false => .stuck
    | _, _, _ => .stuck
  | .enum e, σ, S => (ev e σ S).bind fun x S1 => match itOf S1 x with
    | some xs => .ok (enumL 0 xs.1, xs.2) S1
    | none => .stuck
  | .zip a b, σ, S => (ev a σ S).bind fun x S1 => (ev b σ S1).bind fun y S2 => match itOf S2 x, itOf S2 y with
    | some xs, some ys => .ok (zipL xs.1 ys.1, xs.2 ++ ys.2) S2
    | _, _ => .stuck
termination_by structural it => it
def asgT : T → PV → Env → Store → Out Env
  | .nm i, v, σ, S => .ok (σ.set i (some v)) S
  | .tp ts, v, σ, S => match v with
    | .tup xs => match decide (xs.length = ts.length) with
      | true => asgTs ts xs σ S
      | false => .stuck
    | _ => .stuck
  | .sub a i, v, σ, S => noExc ((ev a σ S).bind fun x S1 => (ev i σ S1).bind fun y S2 => match x, y with
    | .loc n, .int i => match S2[n]? with
      | some (.l xs) => match at_ xs.length i with
        | some j => match v.clean with
          | true => .ok σ (S2.set n (.l (xs.set j v)))
          | false => .stuck
        | none => .stuck
      | _ => .stuck
    | _, _ => .stuck)
termination_by structural t => t
def asgTs : List T → List PV → Env → Store → Out Env
  | [], [], σ, S => .ok σ S
  | t :: ts, x :: xs, σ, S => (asgT t x σ S).bind fun σ1 S1 => asgTs ts xs σ1 S1
  | _, _, _, _ => .stuck
termination_by structural ts => ts
end
end

mutual
inductive St where
  | asg (t : T) (e : E)
  | par (ts : List T) (es : List E)
  | expr (e : E)
  | ret (e : E)
  | retN
  | ifs (c : E) (a b : List St)
  | for_ (t : T) (it : It) (body : List St)
  | while_ (bound : Nat) (c : E) (body : List St)
  | raise (cls : Nat) (es : List E)
  | pass
  | never
end

inductive SOut where
  | nx (σ : Env) (S : Store) | rt (v : PV) (S : Store) | exc (x : Exn) (σ : Env) (S : Store) | stuck

def ofE {α : Type} (σ : Env) : Out α → (α → Store → SOut) → SOut
  | .ok a S, f => f a S
  | .exc x S, _ => .exc x σ S
  | .stuck, _ => .stuck
def SOut.then_ : SOut → (Env → Store → SOut) → SOut
  | .nx σ S, f => f σ S
  | o, _ => o

def forL (step : PV → Env → Store → SOut) (g : Guard) : List PV → Env → Store → SOut
  | [], σ, S => match okG g S with
    | true => .nx σ S
    | false => .stuck
  | x :: xs, σ, S => match okG g S with
    | true => (step x σ S).then_ fun σ1 S1 => forL step g xs σ1 S1
    | false => .stuck
def whileL (c : Env → Store → Out PV) (body : Env → Store → SOut) : Nat → Env → Store → SOut
  | 0, _, _ => .stuck
  | n + 1, σ, S => ofE σ (c σ S) fun x S1 => match truth x with
    | some true => (body σ S1).then_ fun σ1 S2 => whileL c body n σ1 S2
    | some false => .nx σ S1
    | none => .stuck

section
variable (call : Nat → List PV → Store → Out PV) (gl : Nat → Option PV)
mutual
def ex : St → Env → Store → SOut
  | .asg t e, σ, S => ofE σ (ev call gl e σ S) fun v S1 => ofE σ (asgT call gl t v σ S1) fun σ1 S2 => .nx σ1 S2
  | .par ts es, σ, S => ofE σ (evs call gl es σ S) fun vs S1 => ofE σ (asgTs call gl ts vs σ S1) fun σ1 S2 => .nx σ1 S2
  | .expr e, σ, S => ofE σ (ev call gl e σ S) fun _ S1 => .nx σ S1
  | .ret e, σ, S => ofE σ (ev call gl e σ S) fun v S1 => .rt v S1
  | .retN, _, S => .rt .non S
  | .ifs c a b, σ, S => ofE σ (ev call gl c σ S) fun x S1 => match truth x with
    | some true => exs a σ S1
    | some false => exs b σ S1
    | none => .stuck
  | .for_ t it body, σ, S => ofE σ (itv call gl it σ S) fun xs S1 =>
      forL (fun x σ1 S2 => ofE σ1 (asgT call gl t x σ1 S2) fun σ2 S3 => exs body σ2 S3) xs.2 xs.1 σ S1
  | .while_ bound c body, σ, S => whileL (ev call gl c) (exs body) bound σ S
  | .raise cls es, σ, S => ofE σ (evs call gl es σ S) fun vs S1 => match vs with
    | [.int i] => .exc ⟨cls, some i⟩ σ S1
    | _ => .exc ⟨cls, none⟩ σ S1
  | .pass, σ, S => .nx σ S
  | .never, _, _ => .stuck
termination_by structural s => s
def exs : List St → Env → Store → SOut
  | [], σ, S => .nx σ S
  | s :: r, σ, S => (ex s σ S).then_ fun σ1 S1 => exs r σ1 S1
termination_by structural r => r
end
end

structure Fn where
  name : Str
  ps : Nat
  N : List Str
  keep : Bool
  body : List St

mutual
def freeze (S : Store) (k : Nat) : PV → PV
  | .loc n => match decide (n < k) with
    | true => .loc n
    | false => match S[n]? with
      | some (.l xs) => .lst xs
      | some (.d kvs) => .dic kvs
      | none => .loc n
  | .tup xs => .tup (freezes S k xs)
  | .lst xs => .lst (freezes S k xs)
  | v => v
def freezes (S : Store) (k : Nat) : List PV → List PV
  | [] => []
  | x :: xs => freeze S k x :: freezes S k xs
end
def fin (keep : Bool) (k : Nat) (v : PV) (S : Store) : Out PV := match keep with
  | true => .ok v S
  | false => .ok (freeze S k v) (S.take k)

structure Gm where
  fns : Nat → Option Fn
  gls : Nat → Option PV
def startE (N : Nat) (vs : List PV) : Env := vs.map some ++ List.replicate (N - vs.length) none
def callFn (G : Gm) : Nat → Nat → List PV → Store → Out PV
  | 0, _, _, _ => .stuck
  | n + 1, f, vs, S => match G.fns f with
    | none => .stuck
    | some fn => match decide (vs.length = fn.ps) with
      | false => .stuck
      | true => match exs (callFn G n) G.gls fn.body (startE fn.N.length vs) S with
        | .nx _ S1 => fin fn.keep S.length .non S1
        | .rt v S1 => fin fn.keep S.length v S1
        | .exc x _ S1 => .exc x (S1.take S.length)
        | .stuck => .stuck
end Zv

end
section
set_option Elab.async false
set_option linter.all false
set_option maxRecDepth 100000
set_option maxHeartbeats 4000000
/-! Z2: how plain values lie in the abstract heap; the strongest readings. -/
namespace Zv
open PySem PySem.Spec PyProof.Rows L2

/-! ### representation -/
structure Glo where
  K : PySem.W.Frag
  mg : Str → Option Value
  nm : Nat → Str
  cn : Nat → Str
  fk : Nat → Bool

/-- the live lists' addresses; those that are hidden (a comprehension's list while it is made) -/
structure Mem where
  l : List Addr
  h : List Addr
instance : Membership Addr Mem := ⟨fun m a => a ∈ m.l ∨ a ∈ m.h⟩
theorem mem_iff {m : Mem} {a : Addr} : a ∈ m ↔ (a ∈ m.l ∨ a ∈ m.h) := Iff.rfl
theorem Mem.live {m : Mem} {n : Nat} {a : Addr} (h : m.l[n]? = some a) : a ∈ m := .inl (List.mem_of_getElem? h)

def KT (K : PySem.W.Frag) (a : Addr) (xs : List V) : Prop :=
  ∃ (o : Obj) (its : Array Value) (n : Nat), K.lookup a = some o ∧ o.cls = .type "tuple" ∧ o.data = .seq its n ∧ its.size ≤ sizeLine ∧ Vals xs its.toList
def TSeq (K : PySem.W.Frag) (m : Mem) (H : Hp) (a : Addr) (vs : List V) : Prop := (H a = some (.tup vs) ∧ a ∉ m) ∨ KT K a vs
def LSeq (m : Mem) (H : Hp) (a : Addr) (vs : List V) : Prop := H a = some (.lst vs) ∧ a ∉ m
theorem TSeq.sq {K : PySem.W.Frag} {m : Mem} {H : Hp} {a : Addr} {vs : List V} (h : TSeq K m H a vs) : SqT K H a vs := by
  rcases h with h | h
  · exact .inl (.inl h.1)
  · exact .inr h
theorem LSeq.sq {K : PySem.W.Frag} {m : Mem} {H : Hp} {a : Addr} {vs : List V} (h : LSeq m H a vs) : SqL K H a vs := .inl (.inl h.1)

/-- the script's list: read only -/
def SSeq (K : PySem.W.Frag) (m : Mem) (H : Hp) (a : Addr) (vs : List V) : Prop := ((∃ o, H a = some (.frz o (.lst vs))) ∧ a ∉ m) ∨ ∃ (o : Obj) (its : Array Value) (n : Nat), K.lookup a = some o ∧ o.cls = .type "list" ∧ o.dict = none ∧ o.data = .seq its n ∧ its.size ≤ sizeLine ∧ Vals vs its.toList
theorem SSeq.sq {K : PySem.W.Frag} {m : Mem} {H : Hp} {a : Addr} {vs : List V} (h : SSeq K m H a vs) : SqL K H a vs := by
  rcases h with h | h
  · exact .inl (.inr h.1)
  · exact .inr h
section
variable (g : Glo) (m : Mem) (H : Hp)
mutual
def Rep : PV → V → Prop
  | .non, v => v = .non
  | .bl b, v => v = .bl b
  | .int i, v => v = .int i
  | .str x, v => v = .str x
  | .tup xs, v => ∃ a vs, v = .ref a ∧ TSeq g.K m H a vs ∧ Reps xs vs
  | .lst xs, v => ∃ a vs, v = .ref a ∧ LSeq m H a vs ∧ Reps xs vs
  | .dic _, _ => False
  | .loc n, v => ∃ a, v = .ref a ∧ m.l[n]? = some a
  | .fn f, v => ∃ a, v = .ref a ∧ g.mg (g.nm f) = some (.ref a) ∧ g.fk f = true
  | .ty t, v => v = .ty t
  | .cls _, _ => False
  | .scr xs, v => ∃ a, v = .ref a ∧ SSeq g.K m H a (xs.map V.int)
def Reps : List PV → List V → Prop
  | [], vs => vs = []
  | x :: xs, vs => ∃ v r, vs = v :: r ∧ Rep x v ∧ Reps xs r
end
end

/-- the heap behind: what is not live stays (others may be hidden) -/
structure Grow (m : Mem) (H : Hp) (m' : Mem) (H' : Hp) : Prop where
  pre : ∃ r, m'.l = m.l ++ r
  stay : ∀ a o, H a = some o → a ∉ m → H' a = some o
  new : ∀ a, a ∈ m' → a ∈ m ∨ H a = none
/-- .. the hidden ones the same -/
structure Fut (m : Mem) (H : Hp) (m' : Mem) (H' : Hp) : Prop extends Grow m H m' H' where
  hid : m'.h = m.h
  kept : ∀ a, a ∈ m.h → H' a = H a
theorem Grow.trans {m m1 m2 : Mem} {H H1 H2 : Hp} (a : Grow m H m1 H1) (b : Grow m1 H1 m2 H2) : Grow m H m2 H2 where
  pre := by
    obtain ⟨r, h1⟩ := a.pre
    obtain ⟨s, h2⟩ := b.pre
    exact ⟨r ++ s, by rw [h2, h1]; simp⟩
  stay := fun x o h n => b.stay x o (a.stay x o h n) fun hm => (a.new x hm).elim n fun z => by rw [h] at z; cases z
  new := fun x hx => by
    rcases b.new x hx with h | h
    · exact a.new x h
    · by_cases hm : x ∈ m
      · exact .inl hm
      · cases e : H x with
        | none => exact .inr rfl
        | some o =>
          have := a.stay x o e hm
          rw [h] at this; cases this
theorem Fut.refl (m : Mem) (H : Hp) : Fut m H m H := ⟨⟨⟨[], by simp⟩, fun _ _ h _ => h, fun _ h => .inl h⟩, rfl, fun _ _ => rfl⟩
theorem Fut.trans {m m1 m2 : Mem} {H H1 H2 : Hp} (a : Fut m H m1 H1) (b : Fut m1 H1 m2 H2) : Fut m H m2 H2 := ⟨a.toGrow.trans b.toGrow, b.hid.trans a.hid, fun x hx => (b.kept x (by rw [a.hid]; exact hx)).trans (a.kept x hx)⟩
theorem Grow.live {m m' : Mem} {H H' : Hp} (f : Grow m H m' H') {n : Nat} {a : Addr} (h : m.l[n]? = some a) : m'.l[n]? = some a := by
  obtain ⟨r, e⟩ := f.pre
  have hl := (List.getElem?_eq_some_iff.mp h).1
  rw [e, List.getElem?_append_left hl]
  exact h
theorem Grow.out {m m' : Mem} {H H' : Hp} (f : Grow m H m' H') {a : Addr} {o : HO} (h : H a = some o) (n : a ∉ m) : a ∉ m' := fun hm => by
  rcases f.new a hm with z | z
  · exact n z
  · rw [h] at z; cases z
theorem TSeq.fut {K : PySem.W.Frag} {m m' : Mem} {H H' : Hp} {a : Addr} {vs : List V} (f : Grow m H m' H') (h : TSeq K m H a vs) : TSeq K m' H' a vs := by
  rcases h with h | h
  · exact .inl ⟨f.stay _ _ h.1 h.2, f.out h.1 h.2⟩
  · exact .inr h
theorem LSeq.fut {m m' : Mem} {H H' : Hp} {a : Addr} {vs : List V} (f : Grow m H m' H') (h : LSeq m H a vs) : LSeq m' H' a vs :=
  ⟨f.stay _ _ h.1 h.2, f.out h.1 h.2⟩
theorem SSeq.fut {K : PySem.W.Frag} {m m' : Mem} {H H' : Hp} {a : Addr} {vs : List V} (f : Grow m H m' H') (h : SSeq K m H a vs) : SSeq K m' H' a vs := by
  rcases h with ⟨⟨o, h⟩, n⟩ | h
  · exact .inl ⟨⟨o, f.stay _ _ h n⟩, f.out h n⟩
  · exact .inr h
section
variable {g : Glo} {m m' : Mem} {H H' : Hp}
mutual
theorem Rep.gro (f : Grow m H m' H') : ∀ {x : PV} {v : V}, Rep g m H x v → Rep g m' H' x v
  | .non, _, h => h
  | .bl _, _, h => h
  | .int _, _, h => h
  | .str _, _, h => h
  | .tup _, _, ⟨a, vs, e, t, r⟩ => ⟨a, vs, e, t.fut f, Reps.gro f r⟩
  | .lst _, _, ⟨a, vs, e, t, r⟩ => ⟨a, vs, e, t.fut f, Reps.gro f r⟩
  | .dic _, _, h => h
  | .loc _, _, ⟨a, e, h⟩ => ⟨a, e, f.live h⟩
  | .fn _, _, h => h
  | .ty _, _, h => h
  | .cls _, _, h => h
  | .scr _, _, ⟨a, e, h⟩ => ⟨a, e, h.fut f⟩
theorem Reps.gro (f : Grow m H m' H') : ∀ {xs : List PV} {vs : List V}, Reps g m H xs vs → Reps g m' H' xs vs
  | [], _, h => h
  | _ :: _, _, ⟨v, r, e, h1, h2⟩ => ⟨v, r, e, Rep.gro f h1, Reps.gro f h2⟩
end
theorem Rep.fut (f : Fut m H m' H') {x : PV} {v : V} (r : Rep g m H x v) : Rep g m' H' x v := r.gro f.toGrow
theorem Reps.fut (f : Fut m H m' H') {xs : List PV} {vs : List V} (r : Reps g m H xs vs) : Reps g m' H' xs vs := r.gro f.toGrow
-- fewer hidden ones, the same live ones
mutual
theorem Rep.show (hl : m'.l = m.l) (hs : ∀ a, a ∈ m' → a ∈ m) : ∀ {x : PV} {v : V}, Rep g m H x v → Rep g m' H x v
  | .non, _, h => h
  | .bl _, _, h => h
  | .int _, _, h => h
  | .str _, _, h => h
  | .tup xs, _, ⟨a, vs, e, t, r⟩ => ⟨a, vs, e, t.elim (fun z => .inl ⟨z.1, fun q => z.2 (hs _ q)⟩) .inr, Reps.show hl hs r⟩
  | .lst xs, _, ⟨a, vs, e, t, r⟩ => ⟨a, vs, e, ⟨t.1, fun q => t.2 (hs _ q)⟩, Reps.show hl hs r⟩
  | .dic _, _, h => h
  | .loc _, _, ⟨a, e, h⟩ => ⟨a, e, by rw [hl]; exact h⟩
  | .fn _, _, h => h
  | .ty _, _, h => h
  | .cls _, _, h => h
  | .scr _, _, ⟨a, e, h⟩ => ⟨a, e, h.elim (fun z => .inl ⟨z.1, fun q => z.2 (hs _ q)⟩) .inr⟩
theorem Reps.show (hl : m'.l = m.l) (hs : ∀ a, a ∈ m' → a ∈ m) : ∀ {xs : List PV} {vs : List V}, Reps g m H xs vs → Reps g m' H xs vs
  | [], _, h => h
  | x :: xs, _, ⟨v, r, e, h1, h2⟩ => ⟨v, r, e, Rep.show hl hs h1, Reps.show hl hs h2⟩
end
-- a value without live ones needs nothing of them: fewer live ones
mutual
theorem Rep.fewer (hs : ∀ a, a ∈ m' → a ∈ m) : ∀ {x : PV} {v : V}, x.clean = true → Rep g m H x v → Rep g m' H x v
  | .non, _, _, h => h
  | .bl _, _, _, h => h
  | .int _, _, _, h => h
  | .str _, _, _, h => h
  | .tup xs, _, c, ⟨a, vs, e, t, r⟩ => ⟨a, vs, e, t.elim (fun z => .inl ⟨z.1, fun q => z.2 (hs _ q)⟩) .inr, Reps.fewer hs (by simpa [PV.clean] using c) r⟩
  | .lst xs, _, c, ⟨a, vs, e, t, r⟩ => ⟨a, vs, e, ⟨t.1, fun q => t.2 (hs _ q)⟩, Reps.fewer hs (by simpa [PV.clean] using c) r⟩
  | .dic _, _, _, h => h
  | .loc _, _, c, _ => by simp [PV.clean] at c
  | .fn _, _, _, h => h
  | .ty _, _, _, h => h
  | .cls _, _, _, h => h
  | .scr _, _, _, ⟨a, e, h⟩ => ⟨a, e, h.elim (fun z => .inl ⟨z.1, fun q => z.2 (hs _ q)⟩) .inr⟩
theorem Reps.fewer (hs : ∀ a, a ∈ m' → a ∈ m) : ∀ {xs : List PV} {vs : List V}, cleans xs = true → Reps g m H xs vs → Reps g m' H xs vs
  | [], _, _, h => h
  | x :: xs, _, c, ⟨v, r, e, h1, h2⟩ => by
    simp only [cleans, Bool.and_eq_true] at c
    exact ⟨v, r, e, Rep.fewer hs c.1 h1, Reps.fewer hs c.2 h2⟩
end
theorem Reps.length : ∀ {xs : List PV} {vs : List V}, Reps g m H xs vs → vs.length = xs.length
  | [], _, h => by
    have h : _ = [] := h
    rw [h] <;> rfl
  | _ :: xs, _, ⟨v, r, e, _, h2⟩ => by
    rw [e, List.length_cons, List.length_cons, Reps.length h2]
theorem Reps.get : ∀ {xs : List PV} {vs : List V} {i : Nat} {x : PV}, Reps g m H xs vs → xs[i]? = some x → ∃ v, vs[i]? = some v ∧ Rep g m H x v
  | [], _, _, _, _, e => by simp at e
  | y :: ys, _, 0, x, ⟨v, r, e, h1, _⟩, q => by
    have q' : y = x := by simpa using q
    subst q'
    exact ⟨v, by rw [e]; rfl, h1⟩
  | y :: ys, _, i + 1, x, ⟨v, r, e, _, h2⟩, q => by
    obtain ⟨w, e1, e2⟩ := Reps.get (i := i) h2 (by simpa using q)
    exact ⟨w, by rw [e]; simpa using e1, e2⟩
theorem Reps.append : ∀ {xs ys : List PV} {vs ws : List V}, Reps g m H xs vs → Reps g m H ys ws → Reps g m H (xs ++ ys) (vs ++ ws)
  | [], _, _, _, h, k => by
    have h : _ = [] := h
    rw [h]; exact k
  | _ :: _, _, _, _, ⟨v, r, e, h1, h2⟩, k => ⟨v, r ++ _, by rw [e]; rfl, h1, Reps.append h2 k⟩
theorem Reps.drop : ∀ {xs : List PV} {vs : List V} (n : Nat), Reps g m H xs vs → Reps g m H (xs.drop n) (vs.drop n)
  | _, _, 0, h => by simpa using h
  | [], _, n + 1, h => by
    have h : _ = [] := h
    rw [h]; rfl
  | _ :: _, _, n + 1, ⟨v, r, e, _, h2⟩ => by
    rw [e]; exact Reps.drop n h2
theorem Reps.take : ∀ {xs : List PV} {vs : List V} (n : Nat), Reps g m H xs vs → Reps g m H (xs.take n) (vs.take n)
  | xs, vs, 0, h => by simp [Reps]
  | [], _, n + 1, h => by
    have h : _ = [] := h
    rw [h]; rfl
  | _ :: _, _, n + 1, ⟨v, r, e, h1, h2⟩ => by
    rw [e]; exact ⟨v, _, rfl, h1, Reps.take n h2⟩
theorem Reps.set : ∀ {xs : List PV} {vs : List V} (i : Nat) {x : PV} {v : V}, Reps g m H xs vs → Rep g m H x v → Reps g m H (xs.set i x) (vs.set i v)
  | [], _, _, _, _, h, _ => by
    have h : _ = [] := h
    rw [h]; simp [Reps]
  | _ :: _, _, 0, _, _, ⟨v, r, e, h1, h2⟩, k => by
    rw [e]; exact ⟨_, _, rfl, k, h2⟩
  | _ :: _, _, i + 1, _, _, ⟨v, r, e, h1, h2⟩, k => by
    rw [e]; exact ⟨_, _, rfl, h1, Reps.set i h2 k⟩
theorem Reps.reverse {xs : List PV} {vs : List V} (h : Reps g m H xs vs) : Reps g m H xs.reverse vs.reverse := by
  induction xs generalizing vs with
  | nil =>
    have h : _ = [] := h
    rw [h]; simp [Reps]
  | cons x xs ih =>
    obtain ⟨v, r, e, h1, h2⟩ := h
    rw [e, List.reverse_cons, List.reverse_cons]
    exact Reps.append (ih h2) ⟨v, [], rfl, h1, rfl⟩
theorem Reps.erase : ∀ {xs : List PV} {vs : List V} (i : Nat), Reps g m H xs vs → Reps g m H (xs.eraseIdx i) (vs.eraseIdx i)
  | [], _, _, h => by
    have h : _ = [] := h
    rw [h]; simp [Reps]
  | _ :: _, _, 0, ⟨v, r, e, h1, h2⟩ => by
    rw [e]; exact h2
  | _ :: _, _, i + 1, ⟨v, r, e, h1, h2⟩ => by
    rw [e]; exact ⟨_, _, rfl, h1, Reps.erase i h2⟩
theorem Reps.rep {xs : List PV} {vs : List V} (h : Reps g m H xs vs) : ∀ n : Nat, Reps g m H (rep xs n) (List.replicate n vs).flatten
  | 0 => by simp [Zv.rep, Reps]
  | n + 1 => by
    rw [List.replicate_succ, List.flatten_cons]
    exact Reps.append h (Reps.rep h n)
theorem Reps.cons {x : PV} {xs : List PV} {v : V} {vs : List V} (h : Rep g m H x v) (k : Reps g m H xs vs) : Reps g m H (x :: xs) (v :: vs) := ⟨v, vs, rfl, h, k⟩
theorem Reps.nil : Reps g m H [] [] := rfl
theorem Reps.ints : ∀ {xs : List PV} {vs : List V} {is : List Int}, Reps g m H xs vs → ints? xs = some is → vs = is.map V.int
  | [], _, is, h, e => by
    have h : _ = [] := h
    have e' : [] = is := by simpa [ints?] using e
    rw [h, ← e']; rfl
  | x :: xs, _, is, ⟨v, r, ev, h1, h2⟩, e => by
    cases x with
    | int i =>
      unfold ints? at e
      cases q : ints? xs with
      | none => rw [q] at e; cases e
      | some js =>
        rw [q] at e
        have e' : i :: js = is := by simpa using e
        have h1' : v = .int i := h1
        rw [ev, ← e', h1', Reps.ints h2 q]; rfl
    | _ => simp [ints?] at e
end

/-! ### the store -/
def SoR (g : Glo) (m : Mem) (H : Hp) : SO → Addr → Prop
  | .l xs, a => ∃ vs, H a = some (.lst vs) ∧ Reps g m H xs vs ∧ cleans xs = true
  | .d _, _ => False
structure SR (g : Glo) (m : Mem) (S : Store) (H : Hp) : Prop where
  len : m.l.length = S.length
  nd : m.l.Nodup
  at_ : ∀ (i : Nat) (o : SO) (a : Addr), S[i]? = some o → m.l[i]? = some a → SoR g m H o a
  ap : ∀ a, a ∈ m.l → a ∉ m.h
  hi : ∀ a, a ∈ m.h → ∃ o, H a = some o
structure ER (g : Glo) (m : Mem) (H : Hp) (σp : Env) (σ : L2.St) : Prop where
  len : σp.length = σ.length
  at_ : ∀ (i : Nat) (x : PV), look σp i = some x → ∃ v, σ[i]? = some (some v) ∧ Rep g m H x v
theorem ER.gro {g : Glo} {m m' : Mem} {H H' : Hp} {σp : Env} {σ : L2.St} (f : Grow m H m' H') (h : ER g m H σp σ) : ER g m' H' σp σ :=
  ⟨h.len, fun i x e => let ⟨v, e1, r⟩ := h.at_ i x e; ⟨v, e1, r.gro f⟩⟩
theorem ER.fut {g : Glo} {m m' : Mem} {H H' : Hp} {σp : Env} {σ : L2.St} (f : Fut m H m' H') (h : ER g m H σp σ) : ER g m' H' σp σ := h.gro f.toGrow
theorem look_eq : ∀ (σ : Env) (i : Nat), look σ i = (σ[i]?).join
  | [], _ => by simp [look]
  | o :: r, 0 => by cases o <;> simp [look]
  | o :: r, i + 1 => by rw [look, look_eq r i]; simp
theorem look_set {σ : Env} {i j : Nat} {o : Option PV} : look (σ.set i o) j = if i = j then (if j < σ.length then o else none) else look σ j := by
  rw [look_eq, look_eq, List.getElem?_set]
  by_cases h : i = j
  · subst h
    by_cases h2 : i < σ.length
    · simp [h2]
    · simp [h2]
  · simp [h]
theorem ER.set {g : Glo} {m : Mem} {H : Hp} {σp : Env} {σ : L2.St} (h : ER g m H σp σ) {x : PV} {v : V} (r : Rep g m H x v) (i : Nat) : ER g m H (σp.set i (some x)) (σ.set i (some v)) := by
  refine ⟨by simp [h.len], fun j y e => ?_⟩
  rw [look_set] at e
  by_cases hij : i = j
  · subst hij
    rw [if_pos rfl] at e
    by_cases hl : i < σp.length
    · rw [if_pos hl] at e
      cases e
      exact ⟨v, by rw [List.getElem?_set_self (by rw [← h.len]; exact hl)], r⟩
    · rw [if_neg hl] at e; cases e
  · rw [if_neg hij] at e
    obtain ⟨w, e1, e2⟩ := h.at_ j y e
    exact ⟨w, by rw [List.getElem?_set_ne hij]; exact e1, e2⟩
theorem look_wipe {σ : Env} : ∀ {vs : List Nat} {i : Nat} {x : PV}, look (wipeE σ vs) i = some x → look σ i = some x ∧ i ∉ vs
  | [], _, _, h => ⟨h, by simp⟩
  | v :: vs, i, x, h => by
    unfold wipeE at h
    rw [look_set] at h
    by_cases hv : v = i
    · rw [if_pos hv] at h
      split at h <;> cases h
    · rw [if_neg hv] at h
      obtain ⟨h1, h2⟩ := look_wipe h
      exact ⟨h1, by simp only [List.mem_cons, not_or]; exact ⟨fun e => hv e.symm, h2⟩⟩
theorem wipeE_len (σ : Env) : ∀ vs : List Nat, (wipeE σ vs).length = σ.length
  | [] => rfl
  | v :: vs => by unfold wipeE; rw [List.length_set, wipeE_len σ vs]
theorem ER.wipe {g : Glo} {m : Mem} {H : Hp} {σp : Env} {σ : L2.St} (h : ER g m H σp σ) (vs : List Nat) : ER g m H (wipeE σp vs) (L2.wipe σ vs) := by
  refine ⟨by rw [wipeE_len, L2.wipe_length, h.len], fun i x e => ?_⟩
  obtain ⟨e1, e2⟩ := look_wipe e
  obtain ⟨v, e3, r⟩ := h.at_ i x e1
  refine ⟨v, ?_, r⟩
  rw [wipe_out e2]
  exact e3

/-! ### exceptions -/
def XR (g : Glo) (H : Hp) (x : Exn) (c : Value) (d : Option Addr) : Prop :=
  ∃ C : Addr, c = .ref C ∧ g.mg (g.cn x.cls) = some (.ref C) ∧ match x.lim with
    | none => d = none
    | some i => ∃ dx, d = some dx ∧ H dx = some (.xd [("limit", .int i)])

/-! ### what an outcome promises -/
/-- r: how a result lies -/
def OkX {α β : Type} (g : Glo) (r : Mem → Hp → α → β → Prop) (m : Mem) (H : Hp) (o : Out α) (Q : β → Hp → Prop) (E : XK) : Prop := match o with
  | .ok x S' => ∀ v H' m', Fut m H m' H' → SR g m' S' H' → r m' H' x v → Q v H'
  | .exc x S' => ∀ c d H' m', Fut m H m' H' → SR g m' S' H' → XR g H' x c d → E c d H'
  | .stuck => False
abbrev OkE (g : Glo) (m : Mem) (H : Hp) (o : Out PV) (Q : VK) (E : XK) : Prop := OkX g (Rep g) m H o Q E
/-- the result is a list made anew: where it lies nothing lay -/
def OkN (g : Glo) (m : Mem) (H : Hp) (o : Out PV) (Q : VK) (E : XK) : Prop := match o with
  | .ok x S' => match x with
    | .lst xs => ∀ (p : Addr) (vs : List V) (H1 : Hp) (m1 : Mem), Fut m H m1 H1 → SR g m1 S' H1 → H1 p = none → Reps g m1 H1 xs vs → Q (.ref p) (upd H1 p (.lst vs))
    | _ => False
  | .exc x S' => ∀ c d H' m', Fut m H m' H' → SR g m' S' H' → XR g H' x c d → E c d H'
  | .stuck => False
def OkF (g : Glo) (fr : Bool) (m : Mem) (H : Hp) (o : Out PV) (Q : VK) (E : XK) : Prop := match fr with
  | false => OkE g m H o Q E
  | true => OkN g m H o Q E
abbrev OkL (g : Glo) (m : Mem) (H : Hp) (o : Out (List PV)) (Q : List V → Hp → Prop) (E : XK) : Prop := OkX g (Reps g) m H o Q E
theorem OkX.step {α β : Type} {g : Glo} {r : Mem → Hp → α → β → Prop} {m m1 : Mem} {H H1 : Hp} {o : Out α} {Q : β → Hp → Prop} {E : XK} (f : Fut m H m1 H1) (h : OkX g r m H o Q E) : OkX g r m1 H1 o Q E := by
  cases o with
  | ok x S => exact fun v H' m' f' => h v H' m' (f.trans f')
  | exc x S => exact fun c d H' m' f' => h c d H' m' (f.trans f')
  | stuck => exact h
/-- a part of it: k is asked at the part's end -/
theorem OkX.fst {α β γ δ : Type} {g : Glo} {r : Mem → Hp → α → β → Prop} {r' : Mem → Hp → γ → δ → Prop} {m : Mem} {H : Hp} {o : Out α} {f : α → Store → Out γ} {Q : δ → Hp → Prop} {Q' : β → Hp → Prop} {E : XK} (h : OkX g r' m H (o.bind f) Q E)
    (k : ∀ (x : α) (S1 : Store) (m1 : Mem) (H1 : Hp) (u : β), o = .ok x S1 → Fut m H m1 H1 → SR g m1 S1 H1 → r m1 H1 x u → OkX g r' m1 H1 (f x S1) Q E → Q' u H1) : OkX g r m H o Q' E := by
  cases o with
  | ok x S1 => exact fun v H' m' f' r' q => k x S1 m' H' v rfl f' r' q (OkX.step f' h)
  | exc x S => exact h
  | stuck => exact h

theorem OkF.step {g : Glo} {fr : Bool} {m m1 : Mem} {H H1 : Hp} {o : Out PV} {Q : VK} {E : XK} (f : Fut m H m1 H1) (h : OkF g fr m H o Q E) : OkF g fr m1 H1 o Q E := by
  cases fr with
  | false => exact OkX.step f h
  | true =>
    cases o with
    | ok x S =>
      cases x <;> first | exact h | skip
      exact fun p vs H' m' f' => h p vs H' m' (f.trans f')
    | exc x S => exact fun c d H' m' f' => h c d H' m' (f.trans f')
    | stuck => exact h
theorem OkF.fst {α β : Type} {g : Glo} {fr : Bool} {r : Mem → Hp → α → β → Prop} {m : Mem} {H : Hp} {o : Out α} {f : α → Store → Out PV} {Q : VK} {Q' : β → Hp → Prop} {E : XK} (h : OkF g fr m H (o.bind f) Q E)
    (k : ∀ (x : α) (S1 : Store) (m1 : Mem) (H1 : Hp) (u : β), o = .ok x S1 → Fut m H m1 H1 → SR g m1 S1 H1 → r m1 H1 x u → OkF g fr m1 H1 (f x S1) Q E → Q' u H1) : OkX g r m H o Q' E := by
  cases o with
  | ok x S1 => exact fun v H' m' f' r' q => k x S1 m' H' v rfl f' r' q (OkF.step f' h)
  | exc x S => cases fr <;> exact h
  | stuck => cases fr <;> exact h

/-! ### the strongest readings -/
def W (X : Cx) (e : Expr) : TE := fun σ H Q => ∀ (pins : List (Addr × Obj)) (s : Shared), Inv X pins σ H s → wpAny (model X.prog X.w) X.A (eval e X.env) (EP X pins σ Q) X.xe s
theorem pe_W {X : Cx} {e : Expr} : PE X e (W X e) := ⟨fun pins s _ _ _ I h => h pins s I⟩
theorem W.of {X : Cx} {e : Expr} {t : TE} {σ : L2.St} {H : Hp} {Q : VK} (h : PE X e t) (q : t σ H Q) : W X e σ H Q := fun pins s I => h.run pins s σ H Q I q
def WT (X : Cx) (e : Expr) : TT := fun σ H Q => ∀ (pins : List (Addr × Obj)) (s : Shared), Inv X pins σ H s → wpAny (model X.prog X.w) X.A (isTrue e X.env (eval e X.env)) (TP X pins σ Q) X.xe s
theorem pt_W {X : Cx} {e : Expr} : PT X e (WT X e) := ⟨fun pins s _ _ _ I h => h pins s I⟩
theorem WT.of {X : Cx} {e : Expr} {t : TT} {σ : L2.St} {H : Hp} {Q : Bool → Hp → Prop} (h : PT X e t) (q : t σ H Q) : WT X e σ H Q := fun pins s I => h.run pins s σ H Q I q
def WA (X : Cx) (es : List Expr) : TA := fun σ H Q => ∀ (pos : Pos) (pins : List (Addr × Obj)) (s : Shared), Inv X pins σ H s → wpAny (model X.prog X.w) X.A (spliced (backTo pos (starEach es X.env))) (AP X pins σ Q) X.xe s
theorem pa_W {X : Cx} {es : List Expr} : PA X es (WA X es) := ⟨fun pos pins s _ _ _ I h => h pos pins s I⟩
theorem WA.of {X : Cx} {es : List Expr} {t : TA} {σ : L2.St} {H : Hp} {Q : List V → Hp → Prop} (h : PA X es t) (q : t σ H Q) : WA X es σ H Q := fun pos pins s I => h.run pos pins s σ H Q I q
def WS (X : Cx) (st : Stmt) : TS := fun D σ H => ∀ (pins : List (Addr × Obj)) (s : Shared), Inv X pins σ H s → wpAny (model X.prog X.w) X.A (exec st X.env) (SP X pins D) X.xe s
theorem ps_W {X : Cx} {st : Stmt} : PS X st (WS X st) := ⟨fun pins s _ _ _ I h => h pins s I⟩
theorem WS.of {X : Cx} {st : Stmt} {t : TS} {D : Ends} {σ : L2.St} {H : Hp} (h : PS X st t) (q : t D σ H) : WS X st D σ H := fun pins s I => h.run pins s σ H D I q
def WSs (X : Cx) (st : List Stmt) : TS := fun D σ H => ∀ (pins : List (Addr × Obj)) (s : Shared), Inv X pins σ H s → wpAny (model X.prog X.w) X.A (execs st X.env) (SP X pins D) X.xe s
theorem pss_W {X : Cx} {st : List Stmt} : PSs X st (WSs X st) := ⟨fun pins s _ _ _ I h => h pins s I⟩
theorem WSs.of {X : Cx} {st : List Stmt} {t : TS} {D : Ends} {σ : L2.St} {H : Hp} (h : PSs X st t) (q : t D σ H) : WSs X st D σ H := fun pins s I => h.run pins s σ H D I q
def WI (X : Cx) (tg iter : Expr) : TI := fun σ H R => ∀ (pins : List (Addr × Obj)) (s : Shared), Inv X pins σ H s →
    wpAny (model X.prog X.w) X.A (eval iter X.env) (fun v s1 => wpAny (model X.prog X.w) X.A (pyIter v) (PIE X pins σ tg R) X.xe s1) X.xe s
theorem pi_W {X : Cx} {tg iter : Expr} : PI X tg iter (WI X tg iter) := ⟨fun pins s _ _ _ I h => h pins s I⟩
theorem WI.of {X : Cx} {tg iter : Expr} {t : TI} {σ : L2.St} {H : Hp} {R : L2.It → Hp → Prop} (h : PI X tg iter t) (q : t σ H R) : WI X tg iter σ H R := fun pins s I => h.run pins s σ H R I q
def WO (X : Cx) (e : Option Expr) : TO := fun σ H Q => ∀ (pins : List (Addr × Obj)) (s : Shared), Inv X pins σ H s →
    wpAny (model X.prog X.w) X.A (evalPart e X.env) (fun u s' => ∃ o H', Inv X pins σ H' s' ∧ IsPart u o ∧ Q o H') X.xe s
theorem po_W {X : Cx} {e : Option Expr} : PO X e (WO X e) := ⟨fun pins s _ _ _ I h => h pins s I⟩
theorem WO.of {X : Cx} {e : Option Expr} {t : TO} {σ : L2.St} {H : Hp} {Q : Option Int → Hp → Prop} (h : PO X e t) (q : t σ H Q) : WO X e σ H Q := fun pins s I => h.run pins s σ H Q I q
def WG (X : Cx) (tg : Expr) : TG := fun v σ H Q => ∀ (pins : List (Addr × Obj)) (s : Shared) (u : Value), Inv X pins σ H s → RelV v u →
    wpAny (model X.prog X.w) X.A (assign tg X.env u) (fun _ s' => ∃ σ' H', Inv X pins σ' H' s' ∧ Q σ' H') X.xe s
theorem pg_W {X : Cx} {tg : Expr} : PG X tg (WG X tg) := ⟨fun pins s _ _ _ u _ I r h => h pins s u I r⟩
theorem WG.of {X : Cx} {tg : Expr} {t : TG} {v : V} {σ : L2.St} {H : Hp} {Q : L2.St → Hp → Prop} (h : PG X tg t) (q : t v σ H Q) : WG X tg v σ H Q := fun pins s u I r => h.run pins s σ H v u Q I r q
def WGs (X : Cx) (ts : List Expr) : TGs := fun vs σ H Q => ∀ (pins : List (Addr × Obj)) (s : Shared) (us : List Value), Inv X pins σ H s → Vals vs us →
    wpAny (model X.prog X.w) X.A (assignInOrder ((assignEach ts X.env).map (·.2)) us) (fun _ s' => ∃ σ' H', Inv X pins σ' H' s' ∧ Q σ' H') X.xe s
theorem pgs_W {X : Cx} {ts : List Expr} : PGs X ts (WGs X ts) := ⟨fun pins s _ _ _ us _ I r h => h pins s us I r⟩
theorem WGs.of {X : Cx} {ts : List Expr} {t : TGs} {vs : List V} {σ : L2.St} {H : Hp} {Q : L2.St → Hp → Prop} (h : PGs X ts t) (q : t vs σ H Q) : WGs X ts vs σ H Q := fun pins s us I r => h.run pins s σ H vs us Q I r q
/-- an operation on two values, on one -/
def WR (X : Cx) (f : Value → Value → Sem Value) : R2 := fun x y H Q => ∀ (pins : List (Addr × Obj)) (s : Shared) (σ : L2.St) (v u : Value), Inv X pins σ H s → RelV x v → RelV y u →
    wpAny (model X.prog X.w) X.A (f v u) (EP X pins σ Q) X.xe s
theorem opr_W {X : Cx} {f : Value → Value → Sem Value} : OpR X f (WR X f) := fun pins s σ H x y v u Q I r1 r2 h => h pins s σ v u I r1 r2
theorem WR.of {X : Cx} {f : Value → Value → Sem Value} {r : R2} {x y : V} {H : Hp} {Q : VK} (h : OpR X f r) (q : r x y H Q) : WR X f x y H Q := fun pins s σ v u I r1 r2 => h pins s σ H x y v u Q I r1 r2 q
def WC (X : Cx) (f : Value) : List V → Hp → VK → Prop := fun vs H Q => ∀ (pins : List (Addr × Obj)) (s : Shared) (σ : L2.St) (us : List Value), Inv X pins σ H s → Vals vs us →
    wpAny (model X.prog X.w) X.A (call f us) (EP X pins σ Q) X.xe s
theorem callr_W {X : Cx} {f : Value} : CallR X f (WC X f) := fun pins s σ H vs us Q I r h => h pins s σ us I r
theorem WC.of {X : Cx} {f : Value} {r : List V → Hp → VK → Prop} {vs : List V} {H : Hp} {Q : VK} (h : CallR X f r) (q : r vs H Q) : WC X f vs H Q := fun pins s σ us I r1 => h pins s σ H vs us Q I r1 q
end Zv

end
section
set_option Elab.async false
set_option linter.all false
set_option maxRecDepth 100000
set_option maxHeartbeats 4000000
/-! Z3: operators, comparisons. -/
namespace Zv
open PySem PySem.Spec PyProof.Rows L2

theorem LIM_line {n : Nat} (h : n ≤ LIM) : n ≤ sizeLine := Nat.le_trans h (by decide)
theorem LIM_lt {n : Nat} (h : n < LIM) : n < sizeLine := Nat.lt_of_lt_of_le h (by decide)
theorem guardO_some {α : Type} {b : Bool} {a c : α} (h : guardO b a = some c) : b = true ∧ a = c := by
  cases b with
  | true => exact ⟨rfl, Option.some.inj h⟩
  | false => cases h

section
variable {g : Glo} {m : Mem} {S : Store} {H : Hp}
theorem SR.mem (hS : SR g m S H) {a : Addr} (h : a ∈ m.l) : ∃ vs, H a = some (.lst vs) := by
  obtain ⟨i, hi⟩ := List.getElem?_of_mem h
  have hl := (List.getElem?_eq_some_iff.mp hi).1
  have hl2 : i < S.length := by rw [← hS.len]; exact hl
  have q := hS.at_ i _ a (List.getElem?_eq_getElem hl2) hi
  cases e : S[i] with
  | l xs =>
    rw [e] at q
    obtain ⟨vs, h1, _⟩ := q
    exact ⟨vs, h1⟩
  | d kvs =>
    rw [e] at q
    exact False.elim q
theorem SR.fresh (hS : SR g m S H) {p : Addr} (hp : H p = none) : p ∉ m := fun h => by
  rcases h with h | h
  · obtain ⟨vs, e⟩ := hS.mem h
    rw [hp] at e; cases e
  · obtain ⟨o, e⟩ := hS.hi p h
    rw [hp] at e; cases e
theorem fut_new {p : Addr} {o : HO} (hS : SR g m S H) (hp : H p = none) : Fut m H m (upd H p o) :=
  ⟨⟨⟨[], by simp⟩, fun a u h _ => by rw [upd_ne (ne_of_none h hp)]; exact h, fun _ h => .inl h⟩, rfl, fun a ha => upd_ne fun e => by
    obtain ⟨u, q⟩ := hS.hi a ha
    rw [e, hp] at q; cases q⟩
/-- the live ones stand as they stood -/
theorem SR.keep {H' : Hp} (hS : SR g m S H) (f : Fut m H m H') (k : ∀ a ∈ m.l, H' a = H a) (k2 : ∀ a ∈ m.h, ∃ o, H' a = some o) : SR g m S H' := by
  refine ⟨hS.len, hS.nd, fun i o a e1 e2 => ?_, hS.ap, k2⟩
  have q := hS.at_ i o a e1 e2
  cases o with
  | l xs =>
    obtain ⟨vs, h1, h2, h3⟩ := q
    exact ⟨vs, by rw [k a (List.mem_of_getElem? e2)]; exact h1, h2.fut f, h3⟩
  | d kvs => exact False.elim q
theorem SR.new {p : Addr} {o : HO} (hS : SR g m S H) (hp : H p = none) : SR g m S (upd H p o) :=
  hS.keep (fut_new hS hp) (fun a ha => upd_ne fun e => hS.fresh hp (e ▸ .inl ha)) fun a ha => by
    obtain ⟨u, e⟩ := hS.hi a ha
    exact ⟨u, by rw [upd_ne (ne_of_none e hp)]; exact e⟩
theorem rep_new_lst {p : Addr} {xs : List PV} {vs : List V} (hS : SR g m S H) (hp : H p = none) (r : Reps g m H xs vs) : Rep g m (upd H p (.lst vs)) (.lst xs) (.ref p) :=
  ⟨p, vs, rfl, ⟨upd_same, hS.fresh hp⟩, r.fut (fut_new hS hp)⟩
theorem rep_new_tup {p : Addr} {xs : List PV} {vs : List V} (hS : SR g m S H) (hp : H p = none) (r : Reps g m H xs vs) : Rep g m (upd H p (.tup vs)) (.tup xs) (.ref p) :=
  ⟨p, vs, rfl, .inl ⟨upd_same, hS.fresh hp⟩, r.fut (fut_new hS hp)⟩
theorem ok_new_lst {fr : Bool} {Q : VK} {E : XK} {xs : List PV} {vs : List V} (hS : SR g m S H) (r : Reps g m H xs vs) (h : OkF g fr m H (.ok (.lst xs) S) Q E) : ∀ p, H p = none → Q (.ref p) (upd H p (.lst vs)) := by
  cases fr with
  | false => exact fun p hp => h (.ref p) _ m (fut_new hS hp) (hS.new hp) (rep_new_lst hS hp r)
  | true => exact fun p hp => h p vs H m (Fut.refl _ _) hS hp r
theorem ok_val {fr : Bool} {Q : VK} {E : XK} {x : PV} {v : V} (hS : SR g m S H) (r : Rep g m H x v) (nl : fr = false ∨ ∀ xs, x ≠ .lst xs) (h : OkF g fr m H (.ok x S) Q E) : Q v H := by
  cases fr with
  | false => exact h v H m (Fut.refl _ _) hS r
  | true =>
    rcases nl with z | nl
    · cases z
    · cases x <;> first | exact False.elim h | exact absurd rfl (nl _)
theorem ok_new_tup {fr : Bool} {Q : VK} {E : XK} {xs : List PV} {vs : List V} (hS : SR g m S H) (r : Reps g m H xs vs) (h : OkF g fr m H (.ok (.tup xs) S) Q E) : ∀ p, H p = none → Q (.ref p) (upd H p (.tup vs)) := by
  cases fr with
  | false => exact fun p hp => h (.ref p) _ m (fut_new hS hp) (hS.new hp) (rep_new_tup hS hp r)
  | true => exact False.elim h
theorem ok_int {fr : Bool} {Q : VK} {E : XK} {i : Int} (hS : SR g m S H) (h : OkF g fr m H (.ok (.int i) S) Q E) : Q (.int i) H := ok_val hS (by exact rfl) (.inr fun _ q => by cases q) h
theorem ok_str {fr : Bool} {Q : VK} {E : XK} {i : Str} (hS : SR g m S H) (h : OkF g fr m H (.ok (.str i) S) Q E) : Q (.str i) H := ok_val hS (by exact rfl) (.inr fun _ q => by cases q) h
theorem ok_bl {fr : Bool} {Q : VK} {E : XK} {i : Bool} (hS : SR g m S H) (h : OkF g fr m H (.ok (.bl i) S) Q E) : Q (.bl i) H := ok_val hS (by exact rfl) (.inr fun _ q => by cases q) h
theorem ok_non {fr : Bool} {Q : VK} {E : XK} (hS : SR g m S H) (h : OkF g fr m H (.ok .non S) Q E) : Q .non H := ok_val hS (by exact rfl) (.inr fun _ q => by cases q) h
theorem e_val {Q : VK} {E : XK} {x : PV} {v : V} (hS : SR g m S H) (r : Rep g m H x v) (h : OkE g m H (.ok x S) Q E) : Q v H := h v H m (Fut.refl _ _) hS r
theorem e_int {Q : VK} {E : XK} {i : Int} (hS : SR g m S H) (h : OkE g m H (.ok (.int i) S) Q E) : Q (.int i) H := h _ H m (Fut.refl _ _) hS rfl
theorem e_str {Q : VK} {E : XK} {i : Str} (hS : SR g m S H) (h : OkE g m H (.ok (.str i) S) Q E) : Q (.str i) H := h _ H m (Fut.refl _ _) hS rfl
theorem e_bl {Q : VK} {E : XK} {i : Bool} (hS : SR g m S H) (h : OkE g m H (.ok (.bl i) S) Q E) : Q (.bl i) H := h _ H m (Fut.refl _ _) hS rfl
theorem e_non {Q : VK} {E : XK} (hS : SR g m S H) (h : OkE g m H (.ok .non S) Q E) : Q .non H := h _ H m (Fut.refl _ _) hS rfl
theorem e_new_tup {Q : VK} {E : XK} {xs : List PV} {vs : List V} (hS : SR g m S H) (r : Reps g m H xs vs) (h : OkE g m H (.ok (.tup xs) S) Q E) : ∀ p, H p = none → Q (.ref p) (upd H p (.tup vs)) :=
  fun p hp => h (.ref p) _ m (fut_new hS hp) (hS.new hp) (rep_new_tup hS hp r)
theorem OkF.no {fr : Bool} {Q : VK} {E : XK} (h : OkF g fr m H .stuck Q E) : False := by cases fr <;> exact h
theorem seqOf_ok {x : PV} {u : V} {xs : List PV} (hS : SR g m S H) (r : Rep g m H x u) (e : seqOf S x = some xs) : ∃ a vs, u = .ref a ∧ H a = some (.lst vs) ∧ Reps g m H xs vs := by
  cases x with
  | lst ys =>
    cases (Option.some.inj e : ys = xs)
    obtain ⟨a, vs, e1, e2, e3⟩ := r
    exact ⟨a, vs, e1, e2.1, e3⟩
  | loc n =>
    obtain ⟨a, e1, e2⟩ := r
    unfold seqOf at e
    cases q : S[n]? with
    | none => simp [q] at e
    | some o =>
      cases o with
      | l ys =>
        simp [q] at e
        subst e
        obtain ⟨vs, h1, h2, _⟩ := hS.at_ n _ a q e2
        exact ⟨a, vs, e1, h1, h2⟩
      | d kvs => simp [q] at e
  | _ => simp [seqOf] at e
theorem itemsOf_ok {x : PV} {u : V} {xs : List PV} (hS : SR g m S H) (r : Rep g m H x u) (e : itemsOf S x = some xs) : ∃ a vs, u = .ref a ∧ (SqL g.K H a vs ∨ SqT g.K H a vs) ∧ Reps g m H xs vs := by
  cases x with
  | tup ys =>
    have e' : ys = xs := by simpa [itemsOf] using e
    subst e'
    obtain ⟨a, vs, e1, e2, e3⟩ := r
    exact ⟨a, vs, e1, .inr e2.sq, e3⟩
  | lst ys =>
    obtain ⟨a, vs, h1, h2, h3⟩ := seqOf_ok hS r (by simpa [itemsOf] using e)
    exact ⟨a, vs, h1, .inl (SqL.of h2), h3⟩
  | loc n =>
    obtain ⟨a, vs, h1, h2, h3⟩ := seqOf_ok hS r (by simpa [itemsOf] using e)
    exact ⟨a, vs, h1, .inl (SqL.of h2), h3⟩
  | _ => simp [itemsOf, seqOf] at e
end

/-! ### a tuple times a number, of any kind -/
theorem tuple_mulW1 (l : Addr) (items : Array Value) (n : Nat) (dd : Option Addr) (sl : Array (Option Value)) (x : Int) (u : Tok) (c0 : (decide (x < -(2 ^ 63)) || decide (x ≥ 2 ^ 63)) = false) (c1 : (items.isEmpty || x == 1) = true) :
    Meets (Builtin.«tuple.__mul__» ⟨[.ref l, .int x u], []⟩) (fun _ R s => s.heap.get? l = some { cls := .type "tuple", dict := dd, data := .seq items n, slots := sl } ∧
      R (.ok (.ret (Value.ref l))) s) :=
  .of_wp fun prog w A R s h => by
    obtain ⟨hp, g, d, tk, os⟩ := s
    obtain ⟨hl, h⟩ := h
    have f1 := AutoSeq1.idx_int
    wp_walk using wpAny_loadPart' hl
    repeat (first
      | (refine wpAny_ite_false (decide_eq_false (by rw [c0]; exact Bool.false_ne_true)) ?_; wp_walk using wpAny_loadPart' hl)
      | (refine wpAny_ite_true (decide_eq_true c1) ?_; wp_walk using wpAny_loadPart' hl))
    exact ⟨_, rfl, h⟩
theorem tuple_mulW0 (l : Addr) (items : Array Value) (n : Nat) (dd : Option Addr) (sl : Array (Option Value)) (x : Int) (u : Tok) (c0 : (decide (x < -(2 ^ 63)) || decide (x ≥ 2 ^ 63)) = false) (c1 : (items.isEmpty || x == 1) = false) (c2 : (decide (x ≤ 0) || items.isEmpty) = true) :
    Meets (Builtin.«tuple.__mul__» ⟨[.ref l, .int x u], []⟩) (fun _ R s => s.heap.get? l = some { cls := .type "tuple", dict := dd, data := .seq items n, slots := sl } ∧
      R (.ok (.ret (Value.ref s.heap.objs.size))) { s with heap := s.heap.push { cls := Value.type "tuple", data := Data.seq #[] }, toks := s.toks }) :=
  .of_wp fun prog w A R s h => by
    obtain ⟨hp, g, d, tk, os⟩ := s
    obtain ⟨hl, h⟩ := h
    have f1 := AutoSeq1.idx_int
    wp_walk using wpAny_loadPart' hl
    repeat (first
      | (refine wpAny_ite_false (decide_eq_false (by rw [c0]; exact Bool.false_ne_true)) ?_; wp_walk using wpAny_loadPart' hl)
      | (refine wpAny_ite_false (decide_eq_false (by rw [c1]; exact Bool.false_ne_true)) ?_; wp_walk using wpAny_loadPart' hl)
      | (refine wpAny_ite_true (decide_eq_true c2) ?_; wp_walk using wpAny_loadPart' hl))
    exact ⟨_, rfl, h⟩
def rRepA (K : PySem.W.Frag) : R2 := fun x y H Q => ∃ l k xs, x = .ref l ∧ y = .int k ∧ SqT K H l xs ∧ k ≤ 100000 ∧ -100000 ≤ k ∧ xs.length * k.toNat ≤ LIM ∧
  ((xs = [] ∨ k = 1) → Q (.ref l) H) ∧ (xs ≠ [] → k ≠ 1 → ∀ p, H p = none → Q (.ref p) (upd H p (.tup (List.replicate k.toNat xs).flatten)))
theorem op_repA {X : Cx} : OpR X (binaryOp .Mult) (rRepA X.K) := by
  intro pins s σ H x y v u Q I rx ry h
  obtain ⟨l, k, xs, rfl, rfl, hT, hk1, hk2, hz, q1, q2⟩ := h
  cases rx
  obtain ⟨t, rfl⟩ := ry
  obtain ⟨its, r, ⟨⟨cls, dd, data, sl⟩, ho, hc, n, hd⟩, hs⟩ := I.tuple hT
  simp only at hc hd
  subst hc hd
  have hle : its.length = xs.length := r.length.symm
  have hie : its.toArray.isEmpty = xs.isEmpty := by
    cases its with
    | nil => cases xs with
      | nil => rfl
      | cons a b => cases hle
    | cons a b => cases xs with
      | nil => cases hle
      | cons a b => rfl
  have hsz0 : its.toArray.size = xs.length := by rw [List.size_toArray, hle]
  have c0 : (decide (k < -(2 ^ 63)) || decide (k ≥ 2 ^ 63)) = false := by
    rw [decide_eq_false (by omega), decide_eq_false (by omega)] <;> rfl
  have go : ∀ {Q' : Value → Shared → Prop}, Meets (Builtin.«tuple.__mul__» ⟨[.ref l, .int k t], []⟩) (fun _ R s => s.heap.get? l = some { cls := .type "tuple", dict := dd, data := .seq its.toArray n, slots := sl } ∧ (∃ v s', (Q' v s' → R (.ok (.ret v)) s') ∧ Q' v s')) → True := fun _ => trivial
  by_cases h1 : xs = [] ∨ k = 1
  · have c1 : (its.toArray.isEmpty || k == 1) = true := by
      rw [hie]
      rcases h1 with e | e
      · rw [e]; rfl
      · rw [e]; simp
    refine wpAny_binaryOp_repeat_ref (T := "tuple") (U := "int") (by decide) ⟨_, ho, rfl⟩ (fun s' => typeIs_int s' k t) noFill_tuple_mul F.fills_int_mul F.slot_int_rmul repeat_tuple F.slot_int_index.lookup
      (call_meets F.slot_int_rmul (typeIs_int s k t) F.entry_int_rmul (F.args_int_rmul_2 _ _) (int_rmul_tuple k t l its.toArray n dd sl)
        ⟨ho, rfl, ⟨_, ho, rfl⟩, call_meets F.slot_tuple_mul ⟨_, ho, rfl⟩ F.entry_tuple_mul (F.args_tuple_mul_2 _ _) (tuple_mulW1 l its.toArray n dd sl k t c0 c1) ⟨ho, ?_⟩⟩)
    exact ⟨.ref l, H, I, rfl, q1 h1⟩
  · have hx : xs ≠ [] := fun e => h1 (.inl e)
    have hk : k ≠ 1 := fun e => h1 (.inr e)
    have hxe : xs.isEmpty = false := by
      cases xs with
      | nil => exact absurd rfl hx
      | cons a b => rfl
    have c1 : (its.toArray.isEmpty || k == 1) = false := by
      rw [hie, hxe, Bool.false_or]
      exact beq_eq_false_iff_ne.mpr hk
    by_cases h0 : k ≤ 0
    · have c2 : (decide (k ≤ 0) || its.toArray.isEmpty) = true := by rw [decide_eq_true h0]; rfl
      have e0 : k.toNat = 0 := by omega
      refine wpAny_binaryOp_repeat_ref (T := "tuple") (U := "int") (by decide) ⟨_, ho, rfl⟩ (fun s' => typeIs_int s' k t) noFill_tuple_mul F.fills_int_mul F.slot_int_rmul repeat_tuple F.slot_int_index.lookup
        (call_meets F.slot_int_rmul (typeIs_int s k t) F.entry_int_rmul (F.args_int_rmul_2 _ _) (int_rmul_tuple k t l its.toArray n dd sl)
          ⟨ho, rfl, ⟨_, ho, rfl⟩, call_meets F.slot_tuple_mul ⟨_, ho, rfl⟩ F.entry_tuple_mul (F.args_tuple_mul_2 _ _) (tuple_mulW0 l its.toArray n dd sl k t c0 c1 c2) ⟨ho, ?_⟩⟩)
      have q := q2 hx hk s.heap.objs.size (I.hok.fresh (Nat.le_refl _))
      rw [e0] at q
      refine ⟨.ref s.heap.objs.size, _, I.laid (t' := s.toks) (o := .tup []) (fun b ob q => Heap.get?_push_of_some _ q) (Nat.le_refl _) ?_, rfl, q⟩
      exact ⟨by decide, [], .nil, IsTup.new _ _⟩
    · have c2 : (decide (k ≤ 0) || its.toArray.isEmpty) = false := by
        rw [hie, hxe, Bool.or_false]
        exact decide_eq_false h0
      have hm : ((its.toArray.size : Nat) : Int) * k ≤ 100000 := by
        rw [hsz0]
        have a1 : ((xs.length * k.toNat : Nat) : Int) ≤ ((LIM : Nat) : Int) := Int.ofNat_le.mpr hz
        have a2 : ((xs.length * k.toNat : Nat) : Int) = (xs.length : Int) * k := by
          rw [Int.natCast_mul]
          congr 1
          omega
        rw [a2] at a1
        exact a1
      have flen : (List.replicate k.toNat its).flatten.length ≤ sizeLine := by
        rw [PyProof.Rows.lm_len_rep_flat, hle, Nat.mul_comm]
        exact LIM_line hz
      have c4 : Builtin.Tuple.tupleTooMany (((its.toArray.size : Nat) : Int) * k) = false := by
        unfold Builtin.Tuple.tupleTooMany
        rw [sizeLine_eq]
        exact decide_eq_false (by omega)
      refine wpAny_binaryOp_repeat_ref (T := "tuple") (U := "int") (by decide) ⟨_, ho, rfl⟩ (fun s' => typeIs_int s' k t) noFill_tuple_mul F.fills_int_mul F.slot_int_rmul repeat_tuple F.slot_int_index.lookup
        (call_meets F.slot_int_rmul (typeIs_int s k t) F.entry_int_rmul (F.args_int_rmul_2 _ _) (int_rmul_tuple k t l its.toArray n dd sl)
          ⟨ho, rfl, ⟨_, ho, rfl⟩, call_meets F.slot_tuple_mul ⟨_, ho, rfl⟩ F.entry_tuple_mul (F.args_tuple_mul_2 _ _) (tuple_mulW l its.toArray n dd sl k t c0 c1 c2 (by omega) c4 (by rw [size_rep, List.size_toArray]; exact flen)) ⟨ho, ?_⟩⟩)
      rw [size_rep]
      refine ⟨.ref s.heap.objs.size, _, I.laid (t' := s.toks) (o := .tup (List.replicate k.toNat xs).flatten) (fun b ob q => Heap.get?_push_of_some _ q) (Nat.le_refl _) ?_, rfl, q2 hx hk _ (I.hok.fresh (Nat.le_refl _))⟩
      exact ⟨by rw [PyProof.Rows.lm_len_rep_flat, Nat.mul_comm]; exact LIM_line hz, _, r.rep k.toNat, IsTup.new _ _⟩

/-! ### the operators -/
theorem mulOk_c {i j : Int} (h : mulOk i j = true) : CMul i j ∨ CMulW i j := by
  unfold mulOk at h
  rw [Bool.or_eq_true, Bool.or_eq_true, Bool.and_eq_true] at h
  rcases h with h | h | ⟨h1, h2⟩
  · have := of_decide_eq_true h
    exact .inl (.inl (by omega))
  · have := of_decide_eq_true h
    exact .inl (.inr (by omega))
  · exact .inr (wide_mul (a := 4000) (b := 4000) (of_decide_eq_true h1) (of_decide_eq_true h2) (by decide) (by decide) (by decide))
theorem seqOf_tup {S : Store} {xs : List PV} : seqOf S (.tup xs) = none := rfl
theorem nil_flatten_rep {α : Type} (n : Nat) : (List.replicate n ([] : List α)).flatten = [] := by
  induction n with
  | zero => rfl
  | succ n ih => rw [List.replicate_succ, List.flatten_cons, ih]; rfl
theorem rep_nil {α : Type} (n : Nat) : rep ([] : List α) n = [] := by
  induction n with
  | zero => rfl
  | succ n ih => rw [rep, ih]; rfl

section
variable {X : Cx} {g : Glo} {m : Mem} {S : Store} {H : Hp} {x y : PV} {u w : V} {Q : VK} {E : XK} {fr : Bool}
theorem bin_addL (hK : X.K = g.K) (hS : SR g m S H) (rx : Rep g m H x u) (ry : Rep g m H y w)
    (h : OkF g fr m H (ofO S (match seqOf S x, seqOf S y with
      | some xs, some ys => guardO (decide (xs.length + ys.length ≤ LIM)) (.lst (xs ++ ys))
      | _, _ => none)) Q E) : WR X (binaryOp .Add) u w H Q := by
  cases e1 : seqOf S x with
  | none => rw [e1] at h; exact h.no.elim
  | some xs =>
    cases e2 : seqOf S y with
    | none => rw [e1, e2] at h; exact h.no.elim
    | some ys =>
      rw [e1, e2] at h
      obtain ⟨a, vs, rfl, ha, r1⟩ := seqOf_ok hS rx e1
      obtain ⟨b, ws, rfl, hb, r2⟩ := seqOf_ok hS ry e2
      by_cases hl : xs.length + ys.length ≤ LIM
      · simp only [decide_eq_true hl, guardO, ofO] at h
        refine WR.of op_cat ⟨a, b, vs, ws, rfl, rfl, ha, hb, by rw [r1.length, r2.length]; exact LIM_line hl, ok_new_lst hS (r1.append r2) h⟩
      · simp only [decide_eq_false hl, guardO, ofO] at h
        exact h.no.elim
theorem bin_ok (hK : X.K = g.K) {op : Operator} (hS : SR g m S H) (rx : Rep g m H x u) (ry : Rep g m H y w) (h : OkF g fr m H (ofO S (binop op x y S)) Q E) : WR X (binaryOp op) u w H Q := by
  cases op with
  | Add =>
    cases x with
    | int i =>
      cases y with
      | int j =>
        cases rx; cases ry
        exact WR.of op_add ⟨i, j, rfl, rfl, ok_int hS h⟩
      | _ => exact h.no.elim
    | tup xs =>
      cases y with
      | tup ys =>
        obtain ⟨a, vs, rfl, ha, r1⟩ := id rx
        obtain ⟨b, ws, rfl, hb, r2⟩ := id ry
        by_cases hl : xs.length + ys.length ≤ LIM
        · simp only [binop, decide_eq_true hl, guardO, ofO] at h
          refine WR.of op_catA ⟨a, b, vs, ws, rfl, rfl, by rw [hK]; exact ha.sq, by rw [hK]; exact hb.sq, by rw [r1.length, r2.length]; exact LIM_line hl, fun e => ?_, fun _ e => ?_, fun _ _ => ok_new_tup hS (r1.append r2) h⟩
          · have e' : xs = [] := List.eq_nil_of_length_eq_zero (by rw [← r1.length, e]; rfl)
            subst e'
            exact ok_val hS ry (.inr fun _ q => by cases q) h
          · have e' : ys = [] := List.eq_nil_of_length_eq_zero (by rw [← r2.length, e]; rfl)
            subst e'
            rw [List.append_nil] at h
            exact ok_val hS rx (.inr fun _ q => by cases q) h
        · simp only [binop, decide_eq_false hl, guardO, ofO] at h
          exact h.no.elim
      | _ => exact h.no.elim
    | str a =>
      cases y with
      | str b =>
        cases rx; cases ry
        by_cases hl : a.length + b.length ≤ LIM
        · simp only [binop, decide_eq_true hl, guardO, ofO] at h
          exact WR.of op_add_str ⟨a, b, rfl, rfl, LIM_line hl, ok_str hS h⟩
        · simp only [binop, decide_eq_false hl, guardO, ofO] at h
          exact h.no.elim
      | _ => exact h.no.elim
    | lst xs => exact bin_addL hK hS rx ry h
    | loc n => exact bin_addL hK hS rx ry h
    | _ => exact bin_addL hK hS rx ry h
  | Sub =>
    cases x with
    | int i =>
      cases y with
      | int j =>
        cases rx; cases ry
        exact WR.of op_sub ⟨i, j, rfl, rfl, ok_int hS h⟩
      | _ => exact h.no.elim
    | _ => exact h.no.elim
  | Mult =>
    cases y with
    | int n =>
      have lists : ∀ {x : PV} {u : V}, Rep g m H x u → OkF g fr m H (ofO S (match seqOf S x with
          | some xs => guardO (repOk xs.length n) (.lst (rep xs n.toNat))
          | none => none)) Q E → WR X (binaryOp .Mult) u w H Q := fun {x u} rx h => by
        cases ry
        cases e1 : seqOf S x with
        | none => rw [e1] at h; exact h.no.elim
        | some xs =>
          rw [e1] at h
          obtain ⟨a, vs, rfl, ha, r1⟩ := seqOf_ok hS rx e1
          cases hl : repOk xs.length n with
          | true =>
            simp only [hl, guardO, ofO] at h
            unfold repOk at hl
            rw [Bool.and_eq_true, Bool.and_eq_true] at hl
            have l1 := of_decide_eq_true hl.1
            have l2 := of_decide_eq_true hl.2.1
            have l3 := of_decide_eq_true hl.2.2
            exact WR.of op_rep ⟨a, n, vs, rfl, rfl, ha, by omega, by omega, by rw [r1.length]; exact LIM_line l1, ok_new_lst hS (r1.rep n.toNat) h⟩
          | false =>
            simp only [hl, guardO, ofO] at h
            exact h.no.elim
      cases x with
      | int i =>
        cases rx; cases ry
        cases e : mulOk i n with
        | true =>
          simp only [binop, e, guardO, ofO] at h
          rcases mulOk_c e with c | c
          · exact WR.of op_mul ⟨i, n, rfl, rfl, c, ok_int hS h⟩
          · exact WR.of op_mulW ⟨i, n, rfl, rfl, c, ok_int hS h⟩
        | false =>
          simp only [binop, e, guardO, ofO] at h
          exact h.no.elim
      | tup xs =>
        cases ry
        obtain ⟨a, vs, rfl, ha, r1⟩ := id rx
        cases hl : repOk xs.length n with
        | true =>
          simp only [binop, hl, guardO, ofO] at h
          unfold repOk at hl
          rw [Bool.and_eq_true, Bool.and_eq_true] at hl
          have l1 := of_decide_eq_true hl.1
          have l2 := of_decide_eq_true hl.2.1
          have l3 := of_decide_eq_true hl.2.2
          refine WR.of op_repA ⟨a, n, vs, rfl, rfl, by rw [hK]; exact ha.sq, l2, l3, by rw [r1.length]; exact l1, fun e => ?_, fun _ _ => ok_new_tup hS (r1.rep n.toNat) h⟩
          rcases e with e | e
          · have e' : xs = [] := List.eq_nil_of_length_eq_zero (by rw [← r1.length, e]; rfl)
            subst e'
            rw [rep_nil] at h
            exact ok_val hS rx (.inr fun _ q => by cases q) h
          · subst e
            have e2 : rep xs (1 : Int).toNat = xs := by show xs ++ [] = xs; rw [List.append_nil]
            rw [e2] at h
            exact ok_val hS rx (.inr fun _ q => by cases q) h
        | false =>
          simp only [binop, hl, guardO, ofO] at h
          exact h.no.elim
      | lst xs => exact lists rx h
      | loc k => exact lists rx h
      | _ => exact lists rx h
    | _ =>
      cases x <;> exact h.no.elim
  | FloorDiv =>
    cases x with
    | int i =>
      cases y with
      | int j =>
        cases rx; cases ry
        cases e : divOk j with
        | true =>
          simp only [binop, e, guardO, ofO] at h
          unfold divOk at e
          rw [Bool.and_eq_true] at e
          exact WR.of op_fdivW ⟨i, j, rfl, rfl, wide_div (b := 4000) (of_decide_eq_true e.1) (of_decide_eq_true e.2) (by decide) (by decide), ok_int hS h⟩
        | false =>
          simp only [binop, e, guardO, ofO] at h
          exact h.no.elim
      | _ => exact h.no.elim
    | _ => exact h.no.elim
  | Mod =>
    cases x with
    | int i =>
      cases y with
      | int j =>
        cases rx; cases ry
        by_cases hl : 0 < j
        · simp only [binop, decide_eq_true hl, guardO, ofO] at h
          exact WR.of op_mod ⟨i, j, rfl, rfl, hl, ok_int hS h⟩
        · simp only [binop, decide_eq_false hl, guardO, ofO] at h
          exact h.no.elim
      | _ => exact h.no.elim
    | _ => exact h.no.elim
  | Pow =>
    cases x with
    | int i =>
      cases y with
      | int j =>
        cases rx; cases ry
        cases e : powOk i j with
        | true =>
          simp only [binop, e, guardO, ofO] at h
          unfold powOk at e
          rw [Bool.and_eq_true, Bool.and_eq_true] at e
          obtain ⟨e1, e2, e3⟩ := e
          have e1 := of_decide_eq_true e1
          have e2 := of_decide_eq_true e2
          exact WR.of op_pow ⟨i, j, rfl, rfl, ⟨e1, by omega, of_decide_eq_true e3⟩, ok_int hS h⟩
        | false =>
          simp only [binop, e, guardO, ofO] at h
          exact h.no.elim
      | _ => exact h.no.elim
    | _ => exact h.no.elim
  | _ => exact h.no.elim
end
end Zv

end
section
set_option Elab.async false
set_option linter.all false
set_option maxRecDepth 100000
set_option maxHeartbeats 4000000
/-! Z4: comparisons. -/
namespace Zv
open PySem PySem.Spec PyProof.Rows L2

mutual
def toD : PV → PyData
  | .bl b => .bool b
  | .int i => .int i
  | .str x => .str x
  | .tup xs => .tuple (toDs xs)
  | .lst xs => .list (toDs xs)
  | _ => .none
def toDs : List PV → List PyData
  | [] => []
  | x :: xs => toD x :: toDs xs
end
mutual
theorem toD_deep : ∀ x : PV, (toD x).depth ≤ x.deep
  | .non => by simp [toD, PyData.depth]
  | .bl _ => by simp [toD, PyData.depth]
  | .int _ => by simp [toD, PyData.depth]
  | .str _ => by simp [toD, PyData.depth]
  | .tup xs => by simp only [toD, PyData.depth, PV.deep]; exact Nat.succ_le_succ (toDs_deep xs)
  | .lst xs => by simp only [toD, PyData.depth, PV.deep]; exact Nat.succ_le_succ (toDs_deep xs)
  | .dic _ => by simp [toD, PyData.depth]
  | .loc _ => by simp [toD, PyData.depth]
  | .fn _ => by simp [toD, PyData.depth]
  | .ty _ => by simp [toD, PyData.depth]
  | .cls _ => by simp [toD, PyData.depth]
  | .scr _ => by simp [toD, PyData.depth]
theorem toDs_deep : ∀ xs : List PV, PyData.depthAll (toDs xs) ≤ deeps xs
  | [] => by simp [toDs, PyData.depthAll]
  | x :: xs => by
    simp only [toDs, PyData.depthAll, deeps]
    have h1 := toD_deep x
    have h2 := toDs_deep xs
    omega
end
mutual
theorem toD_lay : ∀ x : PV, x.isData = true → (toD x).canLay0 = true
  | .non, _ => by simp [toD, PyData.canLay0]
  | .bl _, _ => by simp [toD, PyData.canLay0]
  | .int _, _ => by simp [toD, PyData.canLay0]
  | .str _, h => by simpa [toD, PV.isData] using h
  | .tup xs, h => by simp only [toD, PyData.canLay0]; exact toDs_lay xs (by simpa [PV.isData] using h)
  | .lst xs, h => by simp only [toD, PyData.canLay0]; exact toDs_lay xs (by simpa [PV.isData] using h)
  | .dic _, h => by simp [PV.isData] at h
  | .loc _, h => by simp [PV.isData] at h
  | .fn _, h => by simp [PV.isData] at h
  | .ty _, h => by simp [PV.isData] at h
  | .cls _, h => by simp [PV.isData] at h
  | .scr _, h => by simp [PV.isData] at h
theorem toDs_lay : ∀ xs : List PV, areData xs = true → PyData.canLayAll0 (toDs xs) = true
  | [], _ => by simp [toDs, PyData.canLayAll0]
  | x :: xs, h => by
    simp only [areData, Bool.and_eq_true] at h
    simp only [toDs, PyData.canLayAll0, Bool.and_eq_true]
    exact ⟨toD_lay x h.1, toDs_lay xs h.2⟩
end
theorem beq_dec {i j : Int} : (i == j) = decide (i = j) := by
  by_cases h : i = j
  · subst h; simp
  · simp [h]
theorem beq_decS {i j : Str} : (i == j) = decide (i = j) := by
  by_cases h : i = j
  · subst h; simp
  · rw [decide_eq_false h]; exact beq_eq_false_iff_ne.mpr h
mutual
theorem eqv_toD : ∀ x y : PV, x.isData = true → y.isData = true → PyData.eqv (toD x) (toD y) = x.eqv y
  | .non, y, _, h => by cases y <;> first | (simp [PV.isData] at h; done) | simp [toD, PyData.eqv, PV.eqv]
  | .bl a, y, _, h => by
    cases y <;> first | (simp [PV.isData] at h; done) | (simp [toD, PyData.eqv, PV.eqv]; done) | skip
    simp only [toD, PyData.eqv, PV.eqv, beq_dec]
    congr 1
    exact propext eq_comm
  | .int a, y, _, h => by cases y <;> first | (simp [PV.isData] at h; done) | simp [toD, PyData.eqv, PV.eqv, beq_dec]
  | .str a, y, _, h => by cases y <;> first | (simp [PV.isData] at h; done) | simp [toD, PyData.eqv, PV.eqv, beq_decS]
  | .tup xs, y, hx, h => by
    cases y <;> first | (simp [PV.isData] at h; done) | (simp [toD, PyData.eqv, PV.eqv]; done) | skip
    simp only [toD, PyData.eqv, PV.eqv]
    exact eqvs_toD xs _ (by simpa [PV.isData] using hx) (by simpa [PV.isData] using h)
  | .lst xs, y, hx, h => by
    cases y <;> first | (simp [PV.isData] at h; done) | (simp [toD, PyData.eqv, PV.eqv]; done) | skip
    simp only [toD, PyData.eqv, PV.eqv]
    exact eqvs_toD xs _ (by simpa [PV.isData] using hx) (by simpa [PV.isData] using h)
  | .dic _, _, h, _ => by simp [PV.isData] at h
  | .loc _, _, h, _ => by simp [PV.isData] at h
  | .fn _, _, h, _ => by simp [PV.isData] at h
  | .ty _, _, h, _ => by simp [PV.isData] at h
  | .cls _, _, h, _ => by simp [PV.isData] at h
  | .scr _, _, h, _ => by simp [PV.isData] at h
theorem eqvs_toD : ∀ xs ys : List PV, areData xs = true → areData ys = true → PyData.eqvAll (toDs xs) (toDs ys) = eqvs xs ys
  | [], [], _, _ => by simp [toDs, PyData.eqvAll, eqvs]
  | [], _ :: _, _, _ => by simp [toDs, PyData.eqvAll, eqvs]
  | _ :: _, [], _, _ => by simp [toDs, PyData.eqvAll, eqvs]
  | x :: xs, y :: ys, hx, hy => by
    simp only [areData, Bool.and_eq_true] at hx hy
    simp only [toDs, PyData.eqvAll, eqvs]
    rw [eqv_toD x y hx.1 hy.1, eqvs_toD xs ys hx.2 hy.2]
end
theorem any_toD {d : PV} (hd : d.isData = true) : ∀ xs : List PV, areData xs = true → ((toDs xs).any fun z => PyData.eqv z (toD d)) = xs.any fun z => z.eqv d
  | [], _ => rfl
  | x :: xs, h => by
    simp only [areData, Bool.and_eq_true] at h
    simp only [toDs, List.any_cons]
    rw [eqv_toD x d h.1 hd, any_toD hd xs h.2]

section
variable {g : Glo} {m : Mem} {H : Hp}
mutual
theorem Rep.dp : ∀ {x : PV} {v : V}, x.isData = true → Rep g m H x v → Dp g.K H v (toD x)
  | .non, _, _, h => by
    have h : _ = V.non := h
    rw [h]; exact .non
  | .bl b, _, _, h => by
    have h : _ = V.bl b := h
    rw [h]; exact .bl b
  | .int i, _, _, h => by
    have h : _ = V.int i := h
    rw [h]; exact .int i
  | .str i, _, _, h => by
    have h : _ = V.str i := h
    rw [h]; exact .str i
  | .tup xs, _, d, ⟨a, vs, e, t, r⟩ => by
    rw [e]
    exact .tup t.sq (Reps.dp (by simpa [PV.isData] using d) r)
  | .lst xs, _, d, ⟨a, vs, e, t, r⟩ => by
    rw [e]
    exact .lst t.sq (Reps.dp (by simpa [PV.isData] using d) r)
  | .dic _, _, d, _ => by simp [PV.isData] at d
  | .loc _, _, d, _ => by simp [PV.isData] at d
  | .fn _, _, d, _ => by simp [PV.isData] at d
  | .ty _, _, d, _ => by simp [PV.isData] at d
  | .cls _, _, d, _ => by simp [PV.isData] at d
  | .scr _, _, d, _ => by simp [PV.isData] at d
theorem Reps.dp : ∀ {xs : List PV} {vs : List V}, areData xs = true → Reps g m H xs vs → DpAll g.K H vs (toDs xs)
  | [], _, _, h => by
    have h : _ = [] := h
    rw [h]; exact .nil
  | x :: xs, _, d, ⟨v, r, e, h1, h2⟩ => by
    simp only [areData, Bool.and_eq_true] at d
    rw [e]
    exact .cons (Rep.dp d.1 h1) (Reps.dp d.2 h2)
end
/-- a live list as data -/
theorem flat_dp {S : Store} {x : PV} {v : V} (hS : SR g m S H) (d : (flat S x).isData = true) (h : Rep g m H x v) : Dp g.K H v (toD (flat S x)) := by
  cases x with
  | loc n =>
    cases q : S[n]? with
    | none =>
      simp only [flat, q] at d
      simp [PV.isData] at d
    | some o =>
      cases o with
      | l xs =>
        simp only [flat, q] at d ⊢
        obtain ⟨a, vs, e1, e2, e3⟩ := seqOf_ok (x := .loc n) (xs := xs) hS h (by simp [seqOf, q])
        rw [e1]
        exact .lst (SqL.of e2) (Reps.dp (by simpa [PV.isData] using d) e3)
      | d kvs =>
        simp only [flat, q] at d
        simp [PV.isData] at d
  | _ => exact Rep.dp d h
end

theorem shaped_of {x : PV} (h : x.isData = true) (hd : x.deep ≤ 60) : SeqAt.shaped (toD x) = true := by
  unfold SeqAt.shaped
  rw [Bool.and_eq_true]
  have := toD_deep x
  exact ⟨toD_lay x h, decide_eq_true (by omega)⟩

section
variable {X : Cx} {g : Glo} {m : Mem} {S : Store} {H : Hp} {x y : PV} {u w : V} {Q : VK} {E : XK}
theorem in_ok (hK : X.K = g.K) (hu : X.A.units + 65 < cLine) (hS : SR g m S H) (rx : Rep g m H x u) (ry : Rep g m H y w) {xs : List PV} (e : itemsOf S y = some xs)
    (h1 : (flat S x).isData = true) (h2 : areData xs = true) (h3 : (flat S x).deep ≤ 60) (h4 : deeps xs ≤ 59) :
    (Q (.bl (xs.any fun z => z.eqv (flat S x))) H → WR X (compareOp .In) u w H Q) ∧ (Q (.bl (!xs.any fun z => z.eqv (flat S x))) H → WR X (compareOp .NotIn) u w H Q) := by
  have hd := flat_dp hS h1 rx
  have hroom : X.A.units + 1 + min (PyData.depthAll (toDs xs)) (toD (flat S x)).depth < cLine := by
    have := toDs_deep xs
    have h5 : min (PyData.depthAll (toDs xs)) (toD (flat S x)).depth ≤ PyData.depthAll (toDs xs) := Nat.min_le_left _ _
    omega
  have hcl := toDs_lay xs h2
  have hcd := toD_lay _ h1
  have hany := any_toD h1 xs h2
  obtain ⟨a, vs, rfl, hq, hr⟩ := itemsOf_ok hS ry e
  have ha := Reps.dp h2 hr
  rw [← hany]
  rw [← hK] at hq ha hd
  refine ⟨fun q pins s σ v u' I r1 r2 => ?_, fun q pins s σ v u' I r1 r2 => ?_⟩
  all_goals
    obtain ⟨as, k1⟩ := Dp.reads I _ _ v hd r1
    rcases hq with hq | hq
    · obtain ⟨bs, k2⟩ := Dp.reads I (.list (toDs xs)) _ u' (.lst hq ha) r2
      first
      | exact SeqAt.in_list_reads k2 k1 hcl hcd hroom ⟨.bl _, H, I, rfl, q⟩
      | exact SeqAt.notIn_list_reads k2 k1 hcl hcd hroom ⟨.bl _, H, I, rfl, q⟩
    · obtain ⟨bs, k2⟩ := Dp.reads I (.tuple (toDs xs)) _ u' (.tup hq ha) r2
      first
      | exact SeqAt.in_tuple_reads k2 k1 hcl hcd hroom ⟨.bl _, H, I, rfl, q⟩
      | exact SeqAt.notIn_tuple_reads k2 k1 hcl hcd hroom ⟨.bl _, H, I, rfl, q⟩
theorem ltI_eq : ∀ a b : List Int, ltI a b = HT.lexLt a b
  | [], [] => rfl
  | [], _ :: _ => rfl
  | _ :: _, [] => rfl
  | x :: xs, y :: ys => by
    unfold ltI
    rw [HT.lexLt_cons, ltI_eq xs ys]
theorem eqO_inv {x y : PV} {b : Bool} (h : eqO x y = some b) : x.isData = true ∧ y.isData = true ∧ x.deep ≤ 60 ∧ y.deep ≤ 60 ∧ x.eqv y = b := by
  obtain ⟨h1, h2⟩ := guardO_some h
  rw [Bool.and_eq_true, Bool.and_eq_true, Bool.and_eq_true] at h1
  exact ⟨h1.1, h1.2.1, of_decide_eq_true h1.2.2.1, of_decide_eq_true h1.2.2.2, h2⟩
theorem cmp_ok (hK : X.K = g.K) (hu : X.A.units + 65 < cLine) {op : CmpOp} {b : Bool} (hS : SR g m S H) (rx : Rep g m H x u) (ry : Rep g m H y w) (e : cmpop op x y S = some b) (q : Q (.bl b) H) : WR X (compareOp op) u w H Q := by
  have hu2 : X.A.units + 64 < cLine := by omega
  have hu3 : X.A.units < cLine := by omega
  cases op with
  | Eq =>
    obtain ⟨h1, h2, h3, h4, h5⟩ := eqO_inv e
    refine WR.of (op_eqD hu2) ⟨toD (flat S x), toD (flat S y), by rw [hK]; exact flat_dp hS h1 rx, by rw [hK]; exact flat_dp hS h2 ry, shaped_of h1 h3, shaped_of h2 h4, ?_⟩
    rw [eqv_toD _ _ h1 h2, h5]
    exact q
  | NotEq =>
    have e' : (eqO (flat S x) (flat S y)).map (!·) = some b := e
    obtain ⟨c, e1, e2⟩ := Option.map_eq_some_iff.mp e'
    obtain ⟨h1, h2, h3, h4, h5⟩ := eqO_inv e1
    refine WR.of (op_neD hu2) ⟨toD (flat S x), toD (flat S y), by rw [hK]; exact flat_dp hS h1 rx, by rw [hK]; exact flat_dp hS h2 ry, shaped_of h1 h3, shaped_of h2 h4, ?_⟩
    rw [eqv_toD _ _ h1 h2, h5]
    have e2' : (!c) = b := e2
    rw [e2']
    exact q
  | Lt =>
    cases x with
    | int i =>
      cases y with
      | int j =>
        cases rx; cases ry
        cases (Option.some.inj e : decide (i < j) = b)
        exact WR.of op_lt ⟨i, j, rfl, rfl, q⟩
      | _ => cases e
    | str i =>
      cases y with
      | str j =>
        cases rx; cases ry
        cases (Option.some.inj e : decide (i.cps.toList < j.cps.toList) = b)
        exact WR.of op_lt_str ⟨i, j, rfl, rfl, q⟩
      | _ => cases e
    | tup xs =>
      cases y with
      | tup ys =>
        cases q1 : ints? xs with
        | none => simp [cmpop, q1] at e
        | some is =>
          cases q2 : ints? ys with
          | none => simp [cmpop, q1, q2] at e
          | some js =>
            simp only [cmpop, q1, q2] at e
            cases (Option.some.inj e : ltI is js = b)
            obtain ⟨a, vs, rfl, ha, r1⟩ := rx
            obtain ⟨a', ws, rfl, hb, r2⟩ := ry
            have v1 := r1.ints q1
            have v2 := r2.ints q2
            subst v1 v2
            exact WR.of (op_ltT hu3) ⟨a, a', is, js, rfl, rfl, by rw [hK]; exact ha.sq, by rw [hK]; exact hb.sq, by rw [← ltI_eq]; exact q⟩
      | _ => cases e
    | _ => cases e
  | LtE =>
    cases x with
    | int i =>
      cases y with
      | int j =>
        cases rx; cases ry
        cases (Option.some.inj e : decide (i ≤ j) = b)
        exact WR.of op_le ⟨i, j, rfl, rfl, q⟩
      | _ => cases e
    | _ => cases e
  | Gt =>
    cases x with
    | int i =>
      cases y with
      | int j =>
        cases rx; cases ry
        cases (Option.some.inj e : decide (j < i) = b)
        exact WR.of op_gt ⟨i, j, rfl, rfl, q⟩
      | _ => cases e
    | _ => cases e
  | GtE =>
    cases x with
    | int i =>
      cases y with
      | int j =>
        cases rx; cases ry
        cases (Option.some.inj e : decide (j ≤ i) = b)
        exact WR.of op_ge ⟨i, j, rfl, rfl, q⟩
      | _ => cases e
    | _ => cases e
  | In =>
    cases ei : itemsOf S y with
    | none => simp [cmpop, ei] at e
    | some xs =>
      simp only [cmpop, ei] at e
      obtain ⟨h1, h2⟩ := guardO_some e
      rw [Bool.and_eq_true, Bool.and_eq_true, Bool.and_eq_true] at h1
      subst h2
      exact (in_ok hK hu hS rx ry ei h1.1 h1.2.1 (of_decide_eq_true h1.2.2.1) (of_decide_eq_true h1.2.2.2)).1 q
  | NotIn =>
    cases ei : itemsOf S y with
    | none => simp [cmpop, ei] at e
    | some xs =>
      simp only [cmpop, ei] at e
      obtain ⟨h1, h2⟩ := guardO_some e
      rw [Bool.and_eq_true, Bool.and_eq_true, Bool.and_eq_true] at h1
      subst h2
      exact (in_ok hK hu hS rx ry ei h1.1 h1.2.1 (of_decide_eq_true h1.2.2.1) (of_decide_eq_true h1.2.2.2)).2 q
  | Is =>
    cases y with
    | non =>
      cases ry
      refine WR.of op_isN ⟨rfl, ?_⟩
      cases x with
      | non => cases rx; cases e; exact q
      | bl c => cases rx; cases e; exact q
      | int i => cases rx; cases e; exact q
      | str z => cases rx; cases e; exact q
      | tup xs => obtain ⟨a, vs, rfl, _⟩ := rx; cases e; exact q
      | lst xs => obtain ⟨a, vs, rfl, _⟩ := rx; cases e; exact q
      | dic k => exact False.elim rx
      | loc n => obtain ⟨a, rfl, _⟩ := rx; cases e; exact q
      | fn f => obtain ⟨a, rfl, _⟩ := rx; cases e; exact q
      | ty t => cases rx; cases e; exact q
      | cls c => exact False.elim rx
      | scr c => obtain ⟨a, rfl, _⟩ := rx; cases e; exact q
    | bl c =>
      cases x with
      | bl d =>
        cases rx; cases ry
        cases (Option.some.inj e : (d == c) = b)
        refine WR.of op_is_bl ⟨d, c, rfl, rfl, ?_⟩
        have : decide (d = c) = (d == c) := by cases d <;> cases c <;> rfl
        rw [this]; exact q
      | _ => cases e
    | _ => cases e
  | IsNot =>
    cases y with
    | non =>
      cases ry
      refine WR.of op_notN ⟨rfl, ?_⟩
      cases x with
      | non => cases rx; cases e; exact q
      | bl c => cases rx; cases e; exact q
      | int i => cases rx; cases e; exact q
      | str z => cases rx; cases e; exact q
      | tup xs => obtain ⟨a, vs, rfl, _⟩ := rx; cases e; exact q
      | lst xs => obtain ⟨a, vs, rfl, _⟩ := rx; cases e; exact q
      | dic k => exact False.elim rx
      | loc n => obtain ⟨a, rfl, _⟩ := rx; cases e; exact q
      | fn f => obtain ⟨a, rfl, _⟩ := rx; cases e; exact q
      | ty t => cases rx; cases e; exact q
      | cls c => exact False.elim rx
      | scr c => obtain ⟨a, rfl, _⟩ := rx; cases e; exact q
    | bl c =>
      cases x with
      | bl d =>
        cases rx; cases ry
        cases (Option.some.inj e : (!(d == c)) = b)
        refine WR.of op_isnot_bl ⟨d, c, rfl, rfl, ?_⟩
        have : (!decide (d = c)) = !(d == c) := by cases d <;> cases c <;> rfl
        rw [this]; exact q
      | _ => cases e
    | _ => cases e
end
end Zv

end
section
set_option Elab.async false
set_option linter.all false
set_option maxRecDepth 100000
set_option maxHeartbeats 4000000
/-! Z5: built-in functions and types called by values; isinstance. -/
namespace Zv
open PySem PySem.Spec PyProof.Rows L2

def biV : BI → Value
  | .len => .builtin "len"
  | .abs => .builtin "abs"
  | .int => .type "int"
  | .str => .type "str"
  | .list => .type "list"
  | .tuple => .type "tuple"
  | .sum => .builtin "sum"
  | .max => .builtin "max"
  | .min => .builtin "min"
  | .all => .builtin "all"
  | .any => .builtin "any"
  | .sorted => .builtin "sorted"
  | .bool => .type "bool"
def biN : BI → Str
  | .len => "len"
  | .abs => "abs"
  | .int => "int"
  | .str => "str"
  | .list => "list"
  | .tuple => "tuple"
  | .sum => "sum"
  | .max => "max"
  | .min => "min"
  | .all => "all"
  | .any => "any"
  | .sorted => "sorted"
  | .bool => "bool"
def biIsTy : BI → Bool
  | .int => true
  | .str => true
  | .list => true
  | .tuple => true
  | .bool => true
  | _ => false
theorem bi_boot (b : BI) : bootBuiltins (biN b) = some (biV b) := by
  cases b <;> decide +kernel
theorem bi_name (b : BI) : biN b ≠ "__name__" ∧ (biN b == ("__debug__" : Str)) = false := by
  cases b <;> exact ⟨by decide, by decide⟩

theorem Reps.one {g : Glo} {m : Mem} {H : Hp} {x : PV} {us : List V} (r : Reps g m H [x] us) : ∃ u, us = [u] ∧ Rep g m H x u := by
  obtain ⟨u, r', e, h1, h2⟩ := r
  have h2 : r' = [] := h2
  exact ⟨u, by rw [e, h2], h1⟩
theorem Reps.two {g : Glo} {m : Mem} {H : Hp} {x y : PV} {us : List V} (r : Reps g m H [x, y] us) : ∃ u w, us = [u, w] ∧ Rep g m H x u ∧ Rep g m H y w := by
  obtain ⟨u, r', e, h1, h2⟩ := r
  obtain ⟨w, e2, h3⟩ := Reps.one h2
  exact ⟨u, w, by rw [e, e2], h1, h3⟩
theorem Reps.allB {g : Glo} {m : Mem} {H : Hp} : ∀ {xs : List PV} {vs : List V} {b : Bool}, Reps g m H xs vs → allB xs = some b → ∃ bs : List Bool, vs = bs.map V.bl ∧ bs.all id = b
  | [], _, b, h, e => by
    have h : _ = [] := h
    exact ⟨[], by rw [h]; rfl, Option.some.inj e⟩
  | x :: xs, _, b, ⟨v, r, ev, h1, h2⟩, e => by
    cases x with
    | bl c =>
      unfold Zv.allB at e
      cases q : Zv.allB xs with
      | none => rw [q] at e; cases e
      | some d =>
        rw [q] at e
        obtain ⟨bs, e1, e2⟩ := Reps.allB h2 q
        have h1 : v = V.bl c := h1
        refine ⟨c :: bs, by rw [ev, h1, e1]; rfl, ?_⟩
        rw [List.all_cons, e2]
        exact Option.some.inj e
    | _ => simp [Zv.allB] at e
theorem Reps.anyB {g : Glo} {m : Mem} {H : Hp} : ∀ {xs : List PV} {vs : List V} {b : Bool}, Reps g m H xs vs → anyB xs = some b → ∃ bs : List Bool, vs = bs.map V.bl ∧ bs.any id = b
  | [], _, b, h, e => by
    have h : _ = [] := h
    exact ⟨[], by rw [h]; rfl, Option.some.inj e⟩
  | x :: xs, _, b, ⟨v, r, ev, h1, h2⟩, e => by
    cases x with
    | bl c =>
      unfold Zv.anyB at e
      cases q : Zv.anyB xs with
      | none => rw [q] at e; cases e
      | some d =>
        rw [q] at e
        obtain ⟨bs, e1, e2⟩ := Reps.anyB h2 q
        have h1 : v = V.bl c := h1
        refine ⟨c :: bs, by rw [ev, h1, e1]; rfl, ?_⟩
        rw [List.any_cons, e2]
        exact Option.some.inj e
    | _ => simp [Zv.anyB] at e

/-! ### sorted lists of ints -/
theorem insI_perm (i : Int) : ∀ xs : List Int, (insI i xs).Perm (i :: xs)
  | [] => List.Perm.refl _
  | x :: xs => by
    unfold insI
    split
    · exact List.Perm.refl _
    · exact ((insI_perm i xs).cons x).trans (List.Perm.swap i x xs)
theorem sortI_perm : ∀ xs : List Int, (sortI xs).Perm xs
  | [] => List.Perm.refl _
  | x :: xs => (insI_perm x _).trans ((sortI_perm xs).cons x)
theorem insI_sorted (i : Int) : ∀ xs : List Int, xs.Pairwise (· ≤ ·) → (insI i xs).Pairwise (· ≤ ·)
  | [], _ => by simp [insI]
  | x :: xs, h => by
    rw [List.pairwise_cons] at h
    unfold insI
    split
    · rename_i hle
      rw [List.pairwise_cons]
      refine ⟨fun y hy => ?_, List.pairwise_cons.mpr h⟩
      rcases List.mem_cons.mp hy with e | hy
      · rw [e]; exact hle
      · exact Int.le_trans hle (h.1 y hy)
    · rename_i hle
      rw [List.pairwise_cons]
      refine ⟨fun y hy => ?_, insI_sorted i xs h.2⟩
      have hy' := (insI_perm i xs).mem_iff.mp hy
      rcases List.mem_cons.mp hy' with e | hy'
      · rw [e]; omega
      · exact h.1 y hy'
theorem sortI_sorted : ∀ xs : List Int, (sortI xs).Pairwise (· ≤ ·)
  | [] => List.Pairwise.nil
  | x :: xs => insI_sorted x _ (sortI_sorted xs)
theorem sorted_one {xs ys : List Int} (p : xs.Perm ys) (h1 : xs.Pairwise (· ≤ ·)) (h2 : ys.Pairwise (· ≤ ·)) : xs = ys :=
  List.Perm.eq_of_pairwise (le := (· ≤ ·)) (fun a b _ _ h k => Int.le_antisymm h k) h1 h2 p

section
variable {X : Cx} {g : Glo} {m : Mem} {S : Store} {H : Hp} {Q : VK} {E : XK}
theorem reps_ints {is : List Int} : Reps g m H (is.map PV.int) (is.map V.int) := by
  induction is with
  | nil => rfl
  | cons i is ih => exact ⟨_, _, rfl, rfl, ih⟩
theorem bfun_ok {fr : Bool} (hK : X.K = g.K) (hc : X.calm = true) {b : BI} {vs : List PV} {us : List V} (hS : SR g m S H) (r : Reps g m H vs us) (h : OkF g fr m H (ofO S (bfun b vs S)) Q E) : WC X (biV b) us H Q := by
  cases b with
  | len =>
    match vs, r, h with
    | [], _, h => exact h.no.elim
    | [x], r, h =>
      obtain ⟨u, rfl, rx⟩ := r.one
      have seqs : (∃ xs, itemsOf S x = some xs ∧ OkF g fr m H (.ok (.int xs.length) S) Q E) → WC X (biV .len) [u] H Q := fun ⟨xs, e, h⟩ => by
        obtain ⟨a, vs, rfl, hq, hr⟩ := itemsOf_ok hS rx e
        rw [← hr.length] at h
        refine WC.of call_len_seq ⟨a, vs, rfl, by rw [hK]; exact hq, ok_int hS h⟩
      cases x with
      | str z =>
        cases rx
        by_cases hl : z.length ≤ LIM
        · simp only [bfun, decide_eq_true hl, guardO, ofO] at h
          exact WC.of call_len ⟨.str z, z.length, rfl, ⟨LIM_line hl, rfl⟩, ok_int hS h⟩
        · simp only [bfun, decide_eq_false hl, guardO, ofO] at h
          exact h.no.elim
      | tup xs => exact seqs ⟨xs, rfl, h⟩
      | lst xs => exact seqs ⟨xs, rfl, h⟩
      | loc n =>
        cases e : itemsOf S (.loc n) with
        | none => simp only [bfun, e, ofO] at h; exact h.no.elim
        | some xs => simp only [bfun, e, ofO] at h; exact seqs ⟨xs, e, h⟩
      | _ => exact h.no.elim
    | x :: y :: r, _, h => cases x <;> exact h.no.elim
  | abs =>
    match vs, r, h with
    | [.int i], r, h =>
      obtain ⟨u, rfl, rx⟩ := r.one
      cases rx
      exact WC.of call_abs ⟨i, rfl, ok_int hS h⟩
    | [], _, h => exact h.no.elim
    | [.non], _, h | [.bl _], _, h | [.str _], _, h | [.tup _], _, h | [.lst _], _, h | [.dic _], _, h | [.loc _], _, h | [.fn _], _, h | [.ty _], _, h | [.cls _], _, h | [.scr _], _, h => exact h.no.elim
    | x :: y :: r, _, h => cases x <;> exact h.no.elim
  | int =>
    match vs, r, h with
    | [.int i], r, h =>
      obtain ⟨u, rfl, rx⟩ := r.one
      cases rx
      exact WC.of call_int1 (.inl ⟨i, rfl, ok_int hS h⟩)
    | [.bl c], r, h =>
      obtain ⟨u, rfl, rx⟩ := r.one
      cases rx
      exact WC.of call_int1 (.inr ⟨c, rfl, ok_int hS h⟩)
    | [], _, h => exact h.no.elim
    | [.non], _, h | [.str _], _, h | [.tup _], _, h | [.lst _], _, h | [.dic _], _, h | [.loc _], _, h | [.fn _], _, h | [.ty _], _, h | [.cls _], _, h | [.scr _], _, h => exact h.no.elim
    | x :: y :: r, _, h => cases x <;> exact h.no.elim
  | str =>
    match vs, r, h with
    | [.int i], r, h =>
      obtain ⟨u, rfl, rx⟩ := r.one
      cases rx
      by_cases hl : i.natAbs.log2 < 1920
      · simp only [bfun, decide_eq_true hl, guardO, ofO] at h
        exact WC.of call_str_int ⟨i, rfl, hl, ok_str hS h⟩
      · simp only [bfun, decide_eq_false hl, guardO, ofO] at h
        exact h.no.elim
    | [], _, h => exact h.no.elim
    | [.non], _, h | [.bl _], _, h | [.str _], _, h | [.tup _], _, h | [.lst _], _, h | [.dic _], _, h | [.loc _], _, h | [.fn _], _, h | [.ty _], _, h | [.cls _], _, h | [.scr _], _, h => exact h.no.elim
    | x :: y :: r, _, h => cases x <;> exact h.no.elim
  | list =>
    match vs, r, h with
    | [], _, h => exact h.no.elim
    | [.scr xs], r, h =>
      obtain ⟨u, rfl, rx⟩ := r.one
      obtain ⟨a, rfl, hq⟩ := rx
      have h : OkF g fr m H (.ok (.lst (xs.map PV.int)) S) Q E := h
      exact WC.of call_list_of ⟨a, _, rfl, .inl (by rw [hK]; exact hq.sq), ok_new_lst hS reps_ints h⟩
    | [x], r, h =>
      obtain ⟨u, rfl, rx⟩ := r.one
      cases e : itemsOf S x with
      | none =>
        cases x <;> first | (simp only [bfun, e, ofO] at h; exact h.no.elim) | skip
        rename_i xs
        obtain ⟨a, rfl, hq⟩ := rx
        have h : OkF g fr m H (.ok (.lst (xs.map PV.int)) S) Q E := h
        exact WC.of call_list_of ⟨a, _, rfl, .inl (by rw [hK]; exact hq.sq), ok_new_lst hS reps_ints h⟩
      | some xs =>
        obtain ⟨a, vs, rfl, hq, hr⟩ := itemsOf_ok hS rx e
        cases x <;> first | (simp only [bfun, e, ofO] at h; exact WC.of call_list_of ⟨a, vs, rfl, by rw [hK]; exact hq, ok_new_lst hS hr h⟩) | (simp [itemsOf, seqOf] at e)
    | x :: y :: r, _, h => cases x <;> exact h.no.elim
  | tuple =>
    match vs, r, h with
    | [], _, h => exact h.no.elim
    | [x], r, h =>
      obtain ⟨u, rfl, rx⟩ := r.one
      cases e : itemsOf S x with
      | none => simp only [bfun, e, ofO] at h; exact h.no.elim
      | some xs =>
        simp only [bfun, e, ofO] at h
        cases x with
        | tup ys =>
          have e' : ys = xs := by simpa [itemsOf] using e
          subst e'
          obtain ⟨a, vs, rfl, ht, hr⟩ := id rx
          exact WC.of call_tuple_of ⟨a, vs, rfl, .inr ⟨by rw [hK]; exact ht.sq, ok_val hS rx (.inr fun _ q => by cases q) h⟩⟩
        | lst ys =>
          obtain ⟨a, vs, rfl, ha, hr⟩ := seqOf_ok hS rx (by simpa [itemsOf] using e)
          exact WC.of call_tuple_of ⟨a, vs, rfl, .inl ⟨SqL.of ha, ok_new_tup hS hr h⟩⟩
        | loc n =>
          obtain ⟨a, vs, rfl, ha, hr⟩ := seqOf_ok hS rx (by simpa [itemsOf] using e)
          exact WC.of call_tuple_of ⟨a, vs, rfl, .inl ⟨SqL.of ha, ok_new_tup hS hr h⟩⟩
        | _ => simp [itemsOf, seqOf] at e
    | x :: y :: r, _, h => cases x <;> exact h.no.elim
  | sum =>
    match vs, r, h with
    | [], _, h => exact h.no.elim
    | [x], r, h =>
      obtain ⟨u, rfl, rx⟩ := r.one
      cases e : seqOf S x with
      | none => simp only [bfun, e, ofO] at h; exact h.no.elim
      | some xs =>
        cases q : ints? xs with
        | none => simp only [bfun, e, q, ofO] at h; exact h.no.elim
        | some is =>
          simp only [bfun, e, q, ofO] at h
          obtain ⟨a, vs, rfl, ha, hr⟩ := seqOf_ok hS rx e
          have hv := hr.ints q
          subst hv
          exact WC.of (cr_sum hc) ⟨a, is, rfl, SqL.of ha, ok_int hS h⟩
    | x :: y :: r, _, h => cases x <;> exact h.no.elim
  | max =>
    match vs, r, h with
    | [.int i, .int j], r, h =>
      obtain ⟨u, w, rfl, rx, ry⟩ := r.two
      cases rx; cases ry
      exact WC.of (call_max2 hc) ⟨i, j, rfl, ok_int hS h⟩
    | [], _, h => exact h.no.elim
    | [x], _, h => cases x <;> exact h.no.elim
    | [x, y], r, h =>
      cases x <;> first | exact h.no.elim | skip
      cases y <;> first | exact h.no.elim | skip
      obtain ⟨u, w, rfl, rx, ry⟩ := r.two
      cases rx; cases ry
      exact WC.of (call_max2 hc) ⟨_, _, rfl, ok_int hS h⟩
    | x :: y :: z :: r, _, h => cases x <;> first | exact h.no.elim | (cases y <;> exact h.no.elim)
  | min =>
    match vs, r, h with
    | [], _, h => exact h.no.elim
    | [x], _, h => cases x <;> exact h.no.elim
    | [x, y], r, h =>
      cases x <;> first | exact h.no.elim | skip
      cases y <;> first | exact h.no.elim | skip
      obtain ⟨u, w, rfl, rx, ry⟩ := r.two
      cases rx; cases ry
      exact WC.of (call_min2 hc) ⟨_, _, rfl, ok_int hS h⟩
    | x :: y :: z :: r, _, h => cases x <;> first | exact h.no.elim | (cases y <;> exact h.no.elim)
  | all =>
    match vs, r, h with
    | [], _, h => exact h.no.elim
    | [x], r, h =>
      obtain ⟨u, rfl, rx⟩ := r.one
      cases e : seqOf S x with
      | none => simp only [bfun, e, ofO] at h; exact h.no.elim
      | some xs =>
        cases q : allB xs with
        | none => simp only [bfun, e, q, ofO] at h; exact h.no.elim
        | some c =>
          simp only [bfun, e, q, ofO] at h
          obtain ⟨a, vs, rfl, ha, hr⟩ := seqOf_ok hS rx e
          obtain ⟨bs, e1, e2⟩ := hr.allB q
          subst e1 e2
          exact WC.of (cr_all hc) ⟨a, bs, rfl, SqL.of ha, ok_bl hS h⟩
    | x :: y :: r, _, h => cases x <;> exact h.no.elim
  | any =>
    match vs, r, h with
    | [], _, h => exact h.no.elim
    | [x], r, h =>
      obtain ⟨u, rfl, rx⟩ := r.one
      cases e : seqOf S x with
      | none => simp only [bfun, e, ofO] at h; exact h.no.elim
      | some xs =>
        cases q : anyB xs with
        | none => simp only [bfun, e, q, ofO] at h; exact h.no.elim
        | some c =>
          simp only [bfun, e, q, ofO] at h
          obtain ⟨a, vs, rfl, ha, hr⟩ := seqOf_ok hS rx e
          obtain ⟨bs, e1, e2⟩ := hr.anyB q
          subst e1 e2
          exact WC.of (cr_any hc) ⟨a, bs, rfl, SqL.of ha, ok_bl hS h⟩
    | x :: y :: r, _, h => cases x <;> exact h.no.elim
  | sorted =>
    match vs, r, h with
    | [], _, h => exact h.no.elim
    | [x], r, h =>
      obtain ⟨u, rfl, rx⟩ := r.one
      cases e : seqOf S x with
      | none => simp only [bfun, e, ofO] at h; exact h.no.elim
      | some xs =>
        cases q : ints? xs with
        | none => simp only [bfun, e, q, ofO] at h; exact h.no.elim
        | some is =>
          by_cases hl : is.length < 64
          · simp only [bfun, e, q, decide_eq_true hl, guardO, ofO] at h
            obtain ⟨a, vs, rfl, ha, hr⟩ := seqOf_ok hS rx e
            have hv := hr.ints q
            subst hv
            refine WC.of cr_sorted ⟨a, is, rfl, SqL.of ha, hl, fun ns' p h1 h2 hp => ?_⟩
            have en : ns' = sortI is := sorted_one (h1.trans (sortI_perm is).symm) h2 (sortI_sorted is)
            subst en
            exact ok_new_lst hS reps_ints h p hp
          · simp only [bfun, e, q, decide_eq_false hl, guardO, ofO] at h
            exact h.no.elim
    | x :: y :: r, _, h => cases x <;> exact h.no.elim
  | bool =>
    match vs, h with
    | [], h => exact h.no.elim
    | x :: r, h => cases x <;> exact h.no.elim

/-! ### isinstance -/
theorem isTy_kit {K : PySem.W.Frag} {x : PV} {u : V} {t : String} {b : Bool} (ht : t = "int" ∨ t = "bool" ∨ t = "str" ∨ t = "tuple" ∨ t = "list") (rx : Rep g m H x u) (hS : SR g m S H) (e : isTy t x = some b) :
    ∃ T : String, TyX g.K H u (.type T) ∧ PySem.W.kitOne K (.type T) (.type t) = some b := by
  have seqT : ∀ {a : Addr} {vs : List V}, TSeq g.K m H a vs → TyX g.K H (.ref a) (.type "tuple") := fun {a vs} h => by
    rcases h with h | ⟨o, its, n, h1, h2, _⟩
    · exact .base (.tup h.1)
    · exact .kTuple h1 h2
  cases x with
  | non =>
    cases rx; cases e
    refine ⟨"NoneType", .base .non, ?_⟩
    rcases ht with rfl | rfl | rfl | rfl | rfl <;> exact kit_ty (by decide +kernel)
  | bl c =>
    cases rx; cases e
    refine ⟨"bool", .base (.bl c), ?_⟩
    rcases ht with rfl | rfl | rfl | rfl | rfl <;> exact kit_ty (by decide +kernel)
  | int i =>
    cases rx; cases e
    refine ⟨"int", .base (.int i), ?_⟩
    rcases ht with rfl | rfl | rfl | rfl | rfl <;> exact kit_ty (by decide +kernel)
  | str i =>
    cases rx; cases e
    refine ⟨"str", .base (.str i), ?_⟩
    rcases ht with rfl | rfl | rfl | rfl | rfl <;> exact kit_ty (by decide +kernel)
  | tup xs =>
    obtain ⟨a, vs, rfl, h1, _⟩ := rx
    cases e
    refine ⟨"tuple", seqT h1, ?_⟩
    rcases ht with rfl | rfl | rfl | rfl | rfl <;> exact kit_ty (by decide +kernel)
  | lst xs =>
    obtain ⟨a, vs, rfl, h1, _⟩ := rx
    cases e
    refine ⟨"list", .base (.lst h1.1), ?_⟩
    rcases ht with rfl | rfl | rfl | rfl | rfl <;> exact kit_ty (by decide +kernel)
  | loc n =>
    obtain ⟨a, rfl, h1⟩ := rx
    cases e
    obtain ⟨vs, h2⟩ := hS.mem (List.mem_of_getElem? h1)
    refine ⟨"list", .base (.lst h2), ?_⟩
    rcases ht with rfl | rfl | rfl | rfl | rfl <;> exact kit_ty (by decide +kernel)
  | _ => cases e
theorem isin_ok (hK : X.K = g.K) {x : PV} {u : V} {t : String} {b : Bool} (ht : t = "int" ∨ t = "bool" ∨ t = "str" ∨ t = "tuple" ∨ t = "list") (rx : Rep g m H x u) (hS : SR g m S H) (e : isTy t x = some b) (q : Q (.bl b) H) :
    WC X (.builtin "isinstance") [u, .ty t] H Q := by
  obtain ⟨T, h1, h2⟩ := isTy_kit (K := X.K) ht rx hS e
  exact WC.of call_isi ⟨u, .ty t, .type T, .type t, b, rfl, .ty t, by rw [hK]; exact h1, h2, q⟩
end
end Zv

end
section
set_option Elab.async false
set_option linter.all false
set_option maxRecDepth 100000
set_option maxHeartbeats 4000000
/-! Z6: enumerate and zip over lists and tuples, mixed. -/
namespace Zv
open PySem PySem.Spec PyProof.Rows L2

def SqS (K : PySem.W.Frag) (H : Hp) (l : Bool) (a : Addr) (xs : List V) : Prop := match l with
  | true => SqL K H a xs
  | false => SqT K H a xs
def ItS (h : Heap) (l : Bool) (it a : Addr) (i : Nat) : Prop := match l with
  | true => h.IsListIter it a i
  | false => h.IsTupleIter it a i
def CtS (h : Heap) (l : Bool) (a : Addr) (its : Array Value) : Prop := match l with
  | true => h.IsList a its
  | false => h.IsTuple a its
def itObj (l : Bool) (a : Addr) : Obj := match l with
  | true => { cls := .type "list_iterator", data := .fields #[.ref a, .int 0 0] }
  | false => { cls := .type "tuple_iterator", data := .fields #[.ref a, .int 0 0] }
theorem ItS.obj {h : Heap} {l : Bool} {it a : Addr} {i : Nat} (x : ItS h l it a i) : ∃ o, h.get? it = some o ∧ ∀ v, o.data ≠ .cell v := by
  cases l with
  | true => obtain ⟨o, e, _, d⟩ := (show h.IsListIter it a i from x); exact ⟨o, e, fun v q => by rw [d] at q; cases q⟩
  | false => obtain ⟨o, e, _, d⟩ := (show h.IsTupleIter it a i from x); exact ⟨o, e, fun v q => by rw [d] at q; cases q⟩
theorem ItS.at' {h h' : Heap} {l : Bool} {it a : Addr} {i : Nat} (x : ItS h l it a i) (k : ∀ o, h.get? it = some o → h'.get? it = some o) : ItS h' l it a i := by
  cases l with
  | true => exact (show h.IsListIter it a i from x).at k
  | false => exact (show h.IsTupleIter it a i from x).at k
theorem CtS.lt {h : Heap} {l : Bool} {a : Addr} {its : Array Value} (x : CtS h l a its) : a < h.objs.size := by
  cases l with
  | true => obtain ⟨o, e, _⟩ := (show h.IsList a its from x); exact Heap.lt_size e
  | false => obtain ⟨o, e, _⟩ := (show h.IsTuple a its from x); exact Heap.lt_size e
theorem drawsS {prog : Program} {w : World} {A : Around} (hh : A.handled = none) (l : Bool) (it a : Addr) (hne : a ≠ it) (items : Array Value) :
    Draws prog w A it [it, a] items.size (fun i v => items[i]? = some v) (fun i h => ItS h l it a i ∧ CtS h l a items) := by
  cases l with
  | true => exact Draws.list hh it a hne items
  | false => exact Draws.tuple hh it a hne items
theorem beginsS (l : Bool) (a : Addr) (items : Array Value) : Begins (.ref a) (itObj l a) fun h => CtS h l a items := by
  cases l with
  | true => exact begins_list a items
  | false => exact begins_tuple a items
theorem itObj_it {h : Heap} {l : Bool} {it a : Addr} (e : h.get? it = some (itObj l a)) : ItS h l it a 0 := by
  cases l with
  | true => exact ⟨_, e, rfl, rfl⟩
  | false => exact ⟨_, e, rfl, rfl⟩
section
variable {X : Cx} {pins : List (Addr × Obj)} {σ : L2.St} {H : Hp} {s : Shared} {l : Bool} {a : Addr} {xs ys : List V}
theorem Inv.seqS (I : Inv X pins σ H s) (h : SqS X.K H l a xs) : ∃ its : List Value, Vals xs its ∧ CtS s.heap l a its.toArray ∧ xs.length ≤ sizeLine := by
  cases l with
  | true => obtain ⟨its, r, p, z⟩ := I.list h; exact ⟨its, r, p.isList, z⟩
  | false => obtain ⟨its, r, p, z⟩ := I.tuple h; exact ⟨its, r, p, z⟩
theorem Inv.seqS_inj (I : Inv X pins σ H s) (h : SqS X.K H l a xs) (h' : SqS X.K H l a ys) : xs = ys := by
  cases l with
  | true => exact I.list_inj h h'
  | false => exact I.tuple_inj h h'
end

/-! ### enumerate -/
def IteS (K : PySem.W.Frag) (l : Bool) (a : Addr) : L2.It :=
  ⟨fun i H => ∃ (xs : List V) (x : V), SqS K H l a xs ∧ xs[i]? = some x, fun i H v H' => ∃ T x, v = .ref T ∧ H T = none ∧ H' = upd H T (.tup [.int (i : Nat), x]) ∧ ∀ xs, SqS K H l a xs → xs[i]? = some x, fun i H => ∃ xs : List V, SqS K H l a xs ∧ xs.length = i⟩
theorem turn_enumS {P : Program} {w : World} {K : PySem.W.Frag} {elts : List Expr} {kk : Nat} {tpos : Pos} (l : Bool) (a e it : Addr) :
    Turn P w K (.Tuple elts kk tpos) (IteS K l a) [e, it] e (fun i h => (∃ old, IsEnum h e it (0 + ((i : Nat) : Int)) old) ∧ ItS h l it a i ∧ e ≠ it ∧ a ≠ it ∧ e ≠ a) where
  mem := by simp
  obj := fun i h st b hb => by
    obtain ⟨⟨old, he⟩, hi, _⟩ := st
    have e' : b = e ∨ b = it := by simpa using hb
    rcases e' with z | z
    · rw [z]; exact ⟨_, he, fun v q => nomatch q⟩
    · rw [z]; exact hi.obj
  keep := fun i h h' st k => let ⟨⟨old, he⟩, hi, hne⟩ := st; ⟨⟨old, k e (by simp) _ he⟩, hi.at' fun o q => k it (by simp) o q, hne⟩
  item := by
    intro X hP hw hK hc i pins s σ H E I hf st hg
    subst hP hw hK
    obtain ⟨⟨old, he⟩, hit, hne, hne2, hne3⟩ := st
    obtain ⟨xs, x, hq, hx⟩ := hg
    obtain ⟨its, rv, p, hz⟩ := Inv.seqS I hq
    obtain ⟨u, hu, ru⟩ := rv.get hx
    have hlt : i < its.toArray.size := by
      have := (List.getElem?_eq_some_iff.mp hu).1
      simpa using this
    have D := drawsS (prog := X.prog) (w := X.w) (A := X.A.in1) (I.ok.hd hc) l it a hne2 its.toArray
    refine (GoesN.enumFrom (elts := elts) (x1 := kk) (pos := tpos) 0 D e hne (by simp [hne, hne3]) (by simp)).goes i s (fun v s2 => ∃ x H', Inv X pins σ H' s2 ∧ RelV x v ∧ (IteS X.K l a).yld i H x H' ∧ _ ∧ ∀ b ∈ [e, it], H' b = none) E hlt ⟨⟨old, he⟩, hit, p⟩ ?_
    rintro v h' tk ⟨T, t, x', ev, hnew, hP, hT⟩ ⟨⟨old', he'⟩, hit', _⟩ hk _
    have ex : x' = u := by
      have hu' : its.toArray[i]? = some u := by simpa using hu
      rw [hu'] at hP
      exact (Option.some.inj hP).symm
    subst ex
    subst ev
    have hn : H T = none := I.hok.fresh hnew
    have i0 : (0 : Int) + (i : Nat) = (i : Nat) := by omega
    have new : ObjOk X.prog X.w (upd H T (.tup [.int (i : Nat), x])) h' T (.tup [.int (i : Nat), x]) :=
      ⟨by show 2 ≤ sizeLine; decide, [.int (0 + (i : Int)) t, x'], .cons ⟨t, by rw [i0]⟩ (.cons ru .nil), hT⟩
    have I1 : Inv X pins σ (upd H T (.tup [.int (i : Nat), x])) { s with heap := h', toks := tk } :=
      I.turnedNew (ch := [e, it]) (fun b ob hb q => hk b ob hb q) hf hnew new
    refine ⟨.ref T, _, I1, rfl, ⟨T, x, rfl, hn, rfl, fun ys hy => by rw [Inv.seqS_inj I hy hq]; exact hx⟩, ⟨⟨old', he'⟩, hit', hne, hne2, hne3⟩, fun b hb => ?_⟩
    have hb' : b ≠ T := by
      rcases (show b = e ∨ b = it by simpa using hb) with z | z
      · rw [z]; exact Nat.ne_of_lt (Nat.lt_of_lt_of_le (Heap.lt_size he) hnew)
      · obtain ⟨o, q, _⟩ := hit.obj
        rw [z]; exact Nat.ne_of_lt (Nat.lt_of_lt_of_le (Heap.lt_size q) hnew)
    rw [upd_ne hb']
    exact (hf b hb).1
  done := by
    intro X hP hw hK hc i pins s σ H E I hf st hg
    subst hP hw hK
    obtain ⟨⟨old, he⟩, hit, hne, hne2, hne3⟩ := st
    obtain ⟨xs, hq, hx⟩ := hg
    obtain ⟨its, rv, p, hz⟩ := Inv.seqS I hq
    have hl := rv.length
    have hn : i = its.toArray.size := by simp; omega
    have D := drawsS (prog := X.prog) (w := X.w) (A := X.A.in1) (I.ok.hd hc) l it a hne2 its.toArray
    subst hn
    exact (GoesN.enumFrom (elts := elts) (x1 := kk) (pos := tpos) 0 D e hne (by simp [hne, hne3]) (by simp)).stops s (fun s1 => Inv X pins σ H s1) E ⟨⟨old, he⟩, hit, p⟩ fun h' tk hk _ => I.turnedL (ch := [e, it]) (fun b ob hb q => hk b ob hb q) hf
  self := fun A i s Q E st h => let ⟨⟨_, he⟩, _⟩ := st; wpAny_pyIter_enum he h
def iEnumS (K : PySem.W.Frag) (ta : TA) : TI := fun σ H R => ta σ H fun vs H1 => ∃ l a xs, vs = [.ref a] ∧ SqS K H1 l a xs ∧ R (IteS K l a) H1
theorem meets_enum1 {v : Value} {o : Obj} {H : Heap → Prop} (B : Begins v o H) :
    Meets (Builtin.«enumerate.__new__» ⟨[.type "enumerate", v], []⟩) (fun _ R s => H s.heap ∧
      R (.ok (.ret (.ref (s.heap.push o).objs.size))) { s with heap := (s.heap.push o).push { cls := .type "enumerate", data := .fields #[.none, .bool false, .ref s.heap.objs.size, rawInt 0, .none, .none] } }) :=
  .of_wp fun prog w A R s h => by
    obtain ⟨hp, g, d, tk, os⟩ := s; obtain ⟨h1, h⟩ := h
    have hsub := sub_enumerate
    have q1 : ∀ {A' : Around} {E : Value → Shared → Prop} {Q : Value → Shared → Prop}, Q (.ref hp.objs.size) ⟨hp.push o, g, d, tk, os⟩ → wpAny (model prog w) A' (pyIter v) Q E ⟨hp, g, d, tk, os⟩ :=
      fun q => B.iter prog w _ _ ⟨hp, g, d, tk, os⟩ _ h1 q
    wp_walk using q1
    refine wpAny_stack_any fun st => wpAny_pure ?_
    split
    · rename_i c _ _ _ _ _
      cases (c == Value.type "enumerate")
      · wp_walk using q1
        exact ⟨_, rfl, h⟩
      · wp_walk using q1
        exact ⟨_, rfl, h⟩
    · wp_walk using q1
      exact ⟨_, rfl, h⟩
theorem enum1 {prog : Program} {w : World} {A : Around} {E : Value → Shared → Prop} {s : Shared} {v : Value} {o : Obj} {Hc : Heap → Prop} {Q : Value → Shared → Prop} (B : Begins v o Hc) (h1 : Hc s.heap)
    (h : ∀ h', IsEnum h' (s.heap.objs.size + 1) s.heap.objs.size 0 .none → h'.get? s.heap.objs.size = some o → h'.objs.size = s.heap.objs.size + 2 →
      (∀ b o, s.heap.get? b = some o → h'.get? b = some o) → Q (.ref (s.heap.objs.size + 1)) { s with heap := h' }) :
    wpAny (model prog w) A (call (.type "enumerate") [v]) Q E s := by
  refine callType_new F.called_enumerate (by decide) (F.typeCall_enumerate_1 _) (F.newCall_enumerate_1 _) (fun obj => F.args_object_init_2 obj _) F.entry_enumerate_new
    (meets_enum1 B) ⟨h1, ?_⟩
  have hz : (s.heap.push o).objs.size = s.heap.objs.size + 1 := Heap.size_push ..
  show _ ∧ _
  rw [hz]
  have he : IsEnum ((s.heap.push o).push { cls := .type "enumerate", data := .fields #[.none, .bool false, .ref s.heap.objs.size, rawInt 0, .none, .none] }) (s.heap.objs.size + 1) s.heap.objs.size 0 .none := by
    have := Heap.get?_push_size (s.heap.push o) (o := { cls := .type "enumerate", data := .fields #[.none, .bool false, .ref s.heap.objs.size, rawInt 0, .none, .none] }) rfl
    rw [hz] at this; exact this
  refine ⟨⟨_, he, rfl⟩, h _ he (Heap.get?_push_of_some _ (Heap.get?_push_size _ B.free)) (by rw [Heap.size_push, hz]) fun b o x => Heap.get?_push_of_some _ (Heap.get?_push_of_some _ x)⟩
theorem pi_enumS {X : Cx} {e : Expr} {ta : TA} {p pos tpos : Pos} {elts : List Expr} {kk : Nat} (hg : Gl X "enumerate") (hm : X.mg "enumerate" = none) (ha : PA X [e] ta) (hs : starEach [e] X.env = [(false, eval e X.env)]) :
    PI X (.Tuple elts kk tpos) (.Call (.Name "enumerate" p) [e] [] pos) (iEnumS X.K ta) := by
  refine ⟨fun pins s σ H R I h => ?_⟩
  refine Call_ (ld_blt I hg hm boot_enumerate (PyProof.Rows.callWith_type1 (thn (ha.run pos pins s σ H _ I h) fun us s1 ⟨vs, H1, I1, r1, q1⟩ => ?_) hs rfl))
  obtain ⟨l, a, xs, ex, hq, q⟩ := q1
  subst ex
  cases r1 with
  | cons r rr =>
    cases rr
    cases r
    obtain ⟨its, rv, p', hz⟩ := Inv.seqS I1 hq
    refine enum1 (beginsS l a its.toArray) p' fun h' he hit hsz hk => wpAny_pyIter_enum he ?_
    have I2 : Inv X pins σ H1 { s1 with heap := h' } := I1.kept (t' := s1.toks) hk
    have hal := p'.lt
    refine ⟨s1.heap.objs.size + 1, [s1.heap.objs.size + 1, s1.heap.objs.size], _, _, H1, rfl, I2, turn_enumS l a (s1.heap.objs.size + 1) s1.heap.objs.size, ⟨⟨.none, he⟩, itObj_it hit, Nat.succ_ne_self _, Nat.ne_of_lt hal, Nat.ne_of_gt (Nat.lt_succ_of_lt hal)⟩, fun b hb => ?_, q⟩
    have e' : b = s1.heap.objs.size + 1 ∨ b = s1.heap.objs.size := by simpa using hb
    have hle : s1.heap.objs.size ≤ b := by
      rcases e' with z | z
      · rw [z]; exact Nat.le_add_right _ _
      · rw [z]; exact Nat.le_refl _
    exact I1.fpOk hle (I1.hok.fresh hle)

/-! ### zip of two -/
def ItzS (K : PySem.W.Frag) (l l' : Bool) (a b : Addr) : L2.It :=
  ⟨fun i H => ∃ (xs ys : List V) (x y : V), SqS K H l a xs ∧ SqS K H l' b ys ∧ xs[i]? = some x ∧ ys[i]? = some y,
    fun i H v H' => ∃ T x y, v = .ref T ∧ H T = none ∧ H' = upd H T (.tup [x, y]) ∧ (∀ xs, SqS K H l a xs → xs[i]? = some x) ∧ ∀ ys, SqS K H l' b ys → ys[i]? = some y,
    fun i H => ∃ xs ys : List V, SqS K H l a xs ∧ SqS K H l' b ys ∧ min xs.length ys.length = i⟩
theorem turn_zipS {P : Program} {w : World} {K : PySem.W.Frag} {elts : List Expr} {kk : Nat} {tpos : Pos} {l l' : Bool} {a b z TI TO i1 i2 : Addr} (D : ZipSep2 z TI TO i1 i2 [i1, a] [i2, b]) (n1 : a ≠ i1) (n2 : b ≠ i2) :
    Turn P w K (.Tuple elts kk tpos) (ItzS K l l' a b) [z, TI, TO, i1, i2] z (fun i h => IsZip h z TI TO .none ∧ IsTupOf2 h TI (.ref i1) (.ref i2) ∧ (∃ x y, IsTupOf2 h TO x y) ∧ ItS h l i1 a i ∧ ItS h l' i2 b i) where
  mem := by simp
  obj := fun i h st c hc => by
    obtain ⟨hz, hTI, ⟨x, y, hTO⟩, h1, h2⟩ := st
    have e' : c = z ∨ c = TI ∨ c = TO ∨ c = i1 ∨ c = i2 := by simpa using hc
    rcases e' with q | q | q | q | q
    · rw [q]; exact ⟨_, hz, fun v q => nomatch q⟩
    · rw [q]; exact ⟨_, hTI, fun v q => nomatch q⟩
    · rw [q]; exact ⟨_, hTO, fun v q => nomatch q⟩
    · rw [q]; exact h1.obj
    · rw [q]; exact h2.obj
  keep := fun i h h' st k => by
    obtain ⟨hz, hTI, ⟨x, y, hTO⟩, h1, h2⟩ := st
    exact ⟨k z (by simp) _ hz, k TI (by simp) _ hTI, ⟨x, y, k TO (by simp) _ hTO⟩, h1.at' fun o q => k i1 (by simp) o q, h2.at' fun o q => k i2 (by simp) o q⟩
  item := by
    intro X hP hw hK hc i pins s σ H E I hf st hg
    subst hP hw hK
    obtain ⟨hz, hTI, hTO, h1, h2⟩ := st
    obtain ⟨xs, ys, x, y, hqx, hqy, hx, hy⟩ := hg
    obtain ⟨its, rv, p, _⟩ := Inv.seqS I hqx
    obtain ⟨its2, rv2, p2, _⟩ := Inv.seqS I hqy
    obtain ⟨u, hu, ru⟩ := rv.get hx
    obtain ⟨u2, hu2, ru2⟩ := rv2.get hy
    have hlt : i < min its.toArray.size its2.toArray.size := by
      have l1 := (List.getElem?_eq_some_iff.mp hu).1
      have l2 := (List.getElem?_eq_some_iff.mp hu2).1
      simp only [List.size_toArray]
      omega
    have D1 := drawsS (prog := X.prog) (w := X.w) (A := X.A.in1) (I.ok.hd hc) l i1 a n1 its.toArray
    have D2 := drawsS (prog := X.prog) (w := X.w) (A := X.A.in1) (I.ok.hd hc) l' i2 b n2 its2.toArray
    refine (GoesN.zip2 (elts := elts) (x1 := kk) (pos := tpos) D D1 D2).goes i s (fun v s2 => ∃ x H', Inv X pins σ H' s2 ∧ RelV x v ∧ (ItzS X.K l l' a b).yld i H x H' ∧ _ ∧ ∀ c ∈ [z, TI, TO, i1, i2], H' c = none) E hlt ⟨hz, hTI, hTO, ⟨h1, p⟩, ⟨h2, p2⟩⟩ ?_
    rintro v h' tk ⟨T, x', y', ev, hnew, hP1, hP2, hT⟩ ⟨hz', hTI', hTO', ⟨h1', _⟩, ⟨h2', _⟩⟩ hk _
    have ex : x' = u := by
      have hu' : its.toArray[i]? = some u := by simpa using hu
      rw [hu'] at hP1
      exact (Option.some.inj hP1).symm
    have ey : y' = u2 := by
      have hu' : its2.toArray[i]? = some u2 := by simpa using hu2
      rw [hu'] at hP2
      exact (Option.some.inj hP2).symm
    subst ex ey ev
    have hn : H T = none := I.hok.fresh hnew
    have new : ObjOk X.prog X.w (upd H T (.tup [x, y])) h' T (.tup [x, y]) := ⟨by show 2 ≤ sizeLine; decide, [x', y'], .cons ru (.cons ru2 .nil), hT⟩
    have I1 : Inv X pins σ (upd H T (.tup [x, y])) { s with heap := h', toks := tk } :=
      I.turnedNew (ch := [z, TI, TO, i1, i2]) (fun c ob hb q => hk c ob (fun q' => hb (by
        have e' : c = z ∨ c = TO ∨ c = i1 ∨ c = i2 := by simpa using q'
        rcases e' with q | q | q | q <;> simp [q])) q) hf hnew new
    refine ⟨.ref T, _, I1, rfl, ⟨T, x, y, rfl, hn, rfl, fun zs hz => by rw [Inv.seqS_inj I hz hqx]; exact hx, fun zs hz => by rw [Inv.seqS_inj I hz hqy]; exact hy⟩, ⟨hz', hTI', hTO', h1', h2'⟩, fun c hcm => ?_⟩
    have hlt2 : c < s.heap.objs.size := by
      have e' : c = z ∨ c = TI ∨ c = TO ∨ c = i1 ∨ c = i2 := by simpa using hcm
      obtain ⟨x0, y0, hTO⟩ := hTO
      rcases e' with q | q | q | q | q
      · rw [q]; exact Heap.lt_size hz
      · rw [q]; exact Heap.lt_size hTI
      · rw [q]; exact Heap.lt_size hTO
      · rw [q]; obtain ⟨_, e1, _⟩ := h1.obj; exact Heap.lt_size e1
      · rw [q]; obtain ⟨_, e2, _⟩ := h2.obj; exact Heap.lt_size e2
    rw [upd_ne (Nat.ne_of_lt (Nat.lt_of_lt_of_le hlt2 hnew))]
    exact (hf c hcm).1
  done := by
    intro X hP hw hK hc i pins s σ H E I hf st hg
    subst hP hw hK
    obtain ⟨hz, hTI, hTO, h1, h2⟩ := st
    obtain ⟨xs, ys, hqx, hqy, hend⟩ := hg
    obtain ⟨its, rv, p, _⟩ := Inv.seqS I hqx
    obtain ⟨its2, rv2, p2, _⟩ := Inv.seqS I hqy
    have l1 := rv.length
    have l2 := rv2.length
    have hn : i = min its.toArray.size its2.toArray.size := by simp only [List.size_toArray]; omega
    have D1 := drawsS (prog := X.prog) (w := X.w) (A := X.A.in1) (I.ok.hd hc) l i1 a n1 its.toArray
    have D2 := drawsS (prog := X.prog) (w := X.w) (A := X.A.in1) (I.ok.hd hc) l' i2 b n2 its2.toArray
    subst hn
    exact (GoesN.zip2 (elts := elts) (x1 := kk) (pos := tpos) D D1 D2).stops s (fun s1 => Inv X pins σ H s1) E ⟨hz, hTI, hTO, ⟨h1, p⟩, ⟨h2, p2⟩⟩ fun h' tk hk _ => I.turnedL (ch := [z, TI, TO, i1, i2]) (fun c ob hb q => hk c ob (fun q' => hb (by
        have e' : c = z ∨ c = TO ∨ c = i1 ∨ c = i2 := by simpa using q'
        rcases e' with q | q | q | q <;> simp [q])) q) hf
  self := fun A i s Q E st h => wpAny_pyIter_zip st.1 h
def iZipS (K : PySem.W.Frag) (ta : TA) : TI := fun σ H R => ta σ H fun vs H1 => ∃ l l' a b xs ys, vs = [.ref a, .ref b] ∧ SqS K H1 l a xs ∧ SqS K H1 l' b ys ∧ R (ItzS K l l' a b) H1
theorem pi_zipS {X : Cx} {e e2 : Expr} {ta : TA} {p pos tpos : Pos} {elts : List Expr} {kk : Nat} (hg : Gl X "zip") (hm : X.mg "zip" = none) (ha : PA X [e, e2] ta)
    (hs : starEach [e, e2] X.env = (false, eval e X.env) :: starEach [e2] X.env) (hpl : (backTo pos (starEach [e2] X.env)).any (·.1) = false) :
    PI X (.Tuple elts kk tpos) (.Call (.Name "zip" p) [e, e2] [] pos) (iZipS X.K ta) := by
  refine ⟨fun pins s σ H R I h => ?_⟩
  refine Call_ (ld_blt I hg hm PyProof.Rows.boot_zip (PyProof.Rows.callWith_type1 (thn (ha.run pos pins s σ H _ I h) fun us s1 ⟨vs, H1, I1, r1, q1⟩ => ?_) hs hpl))
  obtain ⟨l, l', a, b, xs, ys, ex, hqx, hqy, q⟩ := q1
  subst ex
  cases r1 with
  | cons r rr =>
    cases rr with
    | cons r' rr =>
      cases rr
      cases r
      cases r'
      obtain ⟨its, rv, p1, _⟩ := Inv.seqS I1 hqx
      obtain ⟨its2, rv2, p2, _⟩ := Inv.seqS I1 hqy
      refine zip_begins2 (beginsS l a its.toArray) (beginsS l' b its2.toArray) p1 p2 fun h' hz hTI hTO h1 h2 hsz hk => wpAny_pyIter_zip hz ?_
      have I2 : Inv X pins σ H1 { s1 with heap := h' } := I1.kept (t' := s1.toks) hk
      have la := p1.lt
      have lb := p2.lt
      have sep := zip_sep2 (N := s1.heap.objs.size) (fp1 := [a]) (fp2 := [b]) (fun c hc => by rw [List.mem_singleton.mp hc]; exact la) (fun c hc => by rw [List.mem_singleton.mp hc]; exact lb)
      refine ⟨s1.heap.objs.size + 4, [s1.heap.objs.size + 4, s1.heap.objs.size + 2, s1.heap.objs.size + 3, s1.heap.objs.size, s1.heap.objs.size + 1], _, _, H1, rfl, I2, turn_zipS sep (Nat.ne_of_lt la) (Nat.ne_of_lt (Nat.lt_succ_of_lt lb)), ⟨hz, hTI, ⟨_, _, hTO⟩, itObj_it h1, itObj_it h2⟩, fun c hcm => ?_, q⟩
      have e' : c = s1.heap.objs.size + 4 ∨ c = s1.heap.objs.size + 2 ∨ c = s1.heap.objs.size + 3 ∨ c = s1.heap.objs.size ∨ c = s1.heap.objs.size + 1 := by simpa using hcm
      have hle : s1.heap.objs.size ≤ c := by
        rcases e' with z | z | z | z | z
        · rw [z]; exact Nat.le_add_right _ _
        · rw [z]; exact Nat.le_add_right _ _
        · rw [z]; exact Nat.le_add_right _ _
        · rw [z]; exact Nat.le_refl _
        · rw [z]; exact Nat.le_add_right _ _
      exact I1.fpOk hle (I1.hok.fresh hle)
end Zv

end
section
set_option Elab.async false
set_option linter.all false
set_option maxRecDepth 100000
set_option maxHeartbeats 4000000
/-! Z7: which resolved text is which text; expressions. -/
namespace Zv
open PySem PySem.Spec PyProof.Rows L2

structure SCx where
  N : List Str
  sc : Scope
  fb : Option Scope
def SCx.fn (c : SCx) : Str → Bool := match c.fb with
  | none => fun _ => true
  | some s => fun x => s.names.lookup x == some .cell
def SCx.blk (c : SCx) (scope : Scope) : SCx := ⟨c.N, L2.relS scope c.sc, some scope⟩

def visB (sc : Scope) (x : Str) : Bool := match sc.names.lookup x with
  | some .local => true
  | some .cell => true
  | some .free => true
  | _ => false
def locB (c : SCx) (x : Str) : Bool := match c.sc.names.lookup x with
  | some .local => true
  | some .cell => c.fn x
  | _ => false
def glB (sc : Scope) (x : Str) : Bool := decide (sc.names.lookup x = some .globalImplicit)
def okN (x : Str) : Bool := !(x == ("__debug__" : Str)) && (!(x == ("__classdict__" : Str)) && decide (x ≠ "__name__"))
def nst : Expr → Bool
  | .Starred .. => false
  | _ => true
def nse : Expr → Bool
  | .Set .. => false
  | _ => true
def nsl : Expr → Bool
  | .Slice .. => false
  | .Starred .. => false
  | _ => true
def recvB : Expr → Bool
  | .Name .. => true
  | .Constant .. => true
  | _ => false
/-- the texts that make a list anew -/
def E.fresh : E → Bool
  | .lst _ => true
  | .biIt .list _ => true
  | .comp .. => true
  | .comp2 .. => true
  | .bi .list _ => true
  | .bi .sorted _ => true
  | .bin .Add _ _ => true
  | .bin .Mult _ _ => true
  | .sl _ _ _ => true
  | .slrev _ => true
  | _ => false
def mthN : Mth → Str
  | .append => "append"
  | .extend => "extend"
  | .pop => "pop"
  | .index => "index"
  | .count => "count"
  | .join => "join"
  | .split => "split"
  | .get => "get"
def isTupE : Expr → Bool
  | .Tuple .. => true
  | _ => false
def needT : It → Bool
  | .enum _ => true
  | .zip _ _ => true
  | _ => false
def mthA : Mth → Nat → Bool
  | .append, 1 => true
  | .extend, 1 => true
  | .pop, 0 => true
  | .pop, 1 => true
  | _, _ => false
def tyOk (t : String) : Bool := t == "int" || (t == "bool" || (t == "str" || (t == "tuple" || t == "list")))

def ownP (N : List Str) : List Nat → Option (List (Str × Nat))
  | [] => some []
  | i :: r => match N[i]?, ownP N r with
    | some x, some l => some ((x, i) :: l)
    | _, _ => none

mutual
def tgts : T → List Nat
  | .nm i => [i]
  | .tp ts => tgtss ts
  | .sub _ _ => []
def tgtss : List T → List Nat
  | [] => []
  | t :: ts => tgts t ++ tgtss ts
end
mutual
def plainT : T → Bool
  | .nm _ => true
  | .tp ts => plainTs ts
  | .sub _ _ => false
def plainTs : List T → Bool
  | [] => true
  | t :: ts => plainT t && plainTs ts
end

def kvsB : List (Int × Int) → List (Option Expr) → List Expr → Bool
  | [], [], [] => true
  | (i, j) :: r, some (.Constant (.int a) _ _) :: ks, .Constant (.int b) _ _ :: vs => decide (i = a) && (decide (j = b) && kvsB r ks vs)
  | _, _, _ => false
def distK : List Int → Bool
  | [] => true
  | i :: r => !r.contains i && distK r
def bLT : BI → Bool
  | .list => true
  | .tuple => true
  | _ => false
def rzB (b : BI) : It → Bool
  | .rng1 _ => true
  | .rng2 _ _ => true
  | .zip _ _ => (match b with
    | .list => true
    | _ => false)
  | _ => false
def isM1 : Expr → Bool
  | .UnaryOp op e _ => (match op with
    | .USub => true
    | _ => false) && (match e with
    | .Constant (.int i) _ _ => decide (i = 1)
    | _ => false)
  | _ => false
def isRng : It → Bool
  | .rng1 _ => true
  | .rng2 _ _ => true
  | _ => false
/-- names of defs, of constants; which defs are known -/
structure Nms where
  nm : Nat → Str
  gn : Nat → Str
  fk : Nat → Bool
section
variable (k : Nms)
mutual
def chkE : SCx → E → Expr → Bool
  | c, .var i, x => match x with
    | .Name y _ => decide (c.N[i]? = some y) && (visB c.sc y && okN y)
    | _ => false
  | _, .con k0, x => match x with
    | .Constant q _ _ => match k0, q with
      | .non, .none => true
      | .bl a, .bool b => a == b
      | .int a, .int b => decide (a = b)
      | .str a, .str b => decide (a = b)
      | _, _ => false
    | _ => false
  | c, .gl y id, x => match x with
    | .Name z _ => decide (y = z) && (decide (k.gn id = z) && (glB c.sc z && okN z))
    | _ => false
  | c, .fnr f, x => match x with
    | .Name z _ => k.fk f && (decide (k.nm f = z) && (glB c.sc z && okN z))
    | _ => false
  | c, .bin op a b, x => match x with
    | .BinOp a' op' b' _ => decide (op = op') && (chkE c a a' && chkE c b b')
    | _ => false
  | c, .neg a, x => match x with
    | .UnaryOp .USub a' _ => chkE c a a'
    | _ => false
  | c, .and a b, x => match x with
    | .BoolOp .And (a' :: b' :: []) _ => chkE c a a' && chkE c b b'
    | .BoolOp .And (a' :: b' :: d' :: r) pos => chkE c a a' && chkE c b (.BoolOp .And (b' :: d' :: r) pos)
    | _ => false
  | c, .or a b, x => match x with
    | .BoolOp .Or (a' :: b' :: []) _ => chkE c a a' && chkE c b b'
    | .BoolOp .Or (a' :: b' :: d' :: r) pos => chkE c a a' && chkE c b (.BoolOp .Or (b' :: d' :: r) pos)
    | _ => false
  | c, .not a, x => match x with
    | .UnaryOp .Not a' _ => chkE c a a'
    | _ => false
  | c, .cmp op a b, x => match x with
    | .Compare a' [op'] [b'] _ => decide (op = op') && (!behindInMarks op b' && (chkE c a a' && chkE c b b'))
    | _ => false
  | c, .chain op op2 a b d, x => match x with
    | .Compare a' [o1, o2] [b', d'] _ => decide (op = o1) && (decide (op2 = o2) && (!lastMarks [op, op2] [b', d'] && (chkE c a a' && (chkE c b b' && chkE c d d'))))
    | _ => false
  | c, .call f es, x => match x with
    | .Call (.Name z _) xs [] _ => k.fk f && (decide (k.nm f = z) && (glB c.sc z && (okN z && chkEs c es xs)))
    | _ => false
  | c, .callv i es, x => match x with
    | .Call (.Name z _) xs [] _ => decide (c.N[i]? = some z) && (visB c.sc z && (okN z && chkEs c es xs))
    | _ => false
  | c, .bi b es, x => match x with
    | .Call (.Name z _) (x0 :: xs) [] _ => decide (biN b = z) && (glB c.sc z && chkEs c es (x0 :: xs))
    | _ => false
  | c, .biIt b it, x => match x with
    | .Call (.Name z _) [a'] [] _ => bLT b && (decide (biN b = z) && (glB c.sc z && (rzB b it && (nst a' && chkI c it a'))))
    | _ => false
  | c, .isin a t, x => match x with
    | .Call (.Name z _) [a', .Name t' _] [] _ => decide (z = "isinstance") && (glB c.sc z && (decide (t' = Str.ofString t) && (glB c.sc t' && (tyOk t && (nst a' && chkE c a a')))))
    | _ => false
  | c, .meth m r es, x => match x with
    | .Call (.Attribute r' n apos) xs [] pos => mthA m es.length && (decide (mthN m = n) && (recvB r' && (decide (apos.endLine = pos.line) && (chkE c r r' && chkEs c es xs))))
    | _ => false
  | c, .ix a b, x => match x with
    | .Subscript a' b' _ => nsl b' && (chkE c a a' && chkE c b b')
    | _ => false
  | c, .sl a lo hi, x => match x with
    | .Subscript a' (.Slice l h none _) _ => chkE c a a' && (chkO c lo l && chkO c hi h)
    | _ => false
  | c, .slrev a, x => match x with
    | .Subscript a' (.Slice none none (some s) _) _ => isM1 s && chkE c a a'
    | _ => false
  | c, .ife d a b, x => match x with
    | .IfExp d' a' b' _ => chkE c d d' && (chkE c a a' && chkE c b b')
    | _ => false
  | c, .tup es, x => match x with
    | .Tuple xs _ _ => chkEs c es xs
    | _ => false
  | c, .lst es, x => match x with
    | .List xs _ => chkEs c es xs
    | _ => false
  | c, .new e, x => e.fresh && chkE c e x
  | c, .comp own el t it cs, x => match x with
    | .ListComp el' [⟨t', it', ifs', 0⟩] scope _ => match ownP c.N own with
      | some ow => L2.blkC c.N c.sc scope ow && (plainT t && ((tgts t).all (fun i => own.contains i) && ((!needT it || isTupE t') && (chkI c it it' && (chkT (c.blk scope) t t' && (chkE (c.blk scope) el el' && chkC (c.blk scope) cs ifs'))))))
      | none => false
    | _ => false
  | c, .comp2 own el t it cs own2 t2 it2 cs2, x => match x with
    | .ListComp el' [⟨t', it', ifs', 0⟩, ⟨t2', it2', ifs2', 0⟩] scope _ => match ownP c.N own with
      | some ow => L2.blkC c.N c.sc scope ow && (plainT t && ((tgts t).all (fun i => own.contains i) && (chkI c it it' && (chkT (c.blk scope) t t' && (chkE (c.blk scope) el el' && (chkC (c.blk scope) cs ifs' &&
          (plainT t2 && ((tgts t2).all (fun i => own2.contains i) && (own2.all (fun i => own.contains i) && (chkI (c.blk scope) it2 it2' && (chkT (c.blk scope) t2 t2' && (chkC (c.blk scope) cs2 ifs2' && ((!needT it || isTupE t') && (!needT it2 || isTupE t2'))))))))))))))
      | none => false
    | _ => false
  | _, .dict _ _, _ => false
  | c, .dix kvs e, x => match x with
    | .Subscript (.Dict ks vs _) b' _ => kvsB kvs ks vs && (kvs.isEmpty == false && (decide (kvs.length ≤ 15) && (distK (kvs.map (·.1)) && (nsl b' && chkE c e b'))))
    | _ => false
termination_by structural _ e => e
def chkEs : SCx → List E → List Expr → Bool
  | _, [], xs => match xs with
    | [] => true
    | _ => false
  | c, e :: es, xs => match xs with
    | x :: r => nst x && (chkE c e x && chkEs c es r)
    | _ => false
termination_by structural _ es => es
/-- tests: none or one -/
def chkC : SCx → List E → List Expr → Bool
  | _, [], xs => match xs with
    | [] => true
    | _ => false
  | c, e :: es, xs => match xs with
    | [x] => chkE c e x && (match es with | [] => true | _ => false)
    | _ => false
termination_by structural _ es => es
def chkO : SCx → Option E → Option Expr → Bool
  | _, none, x => match x with
    | none => true
    | _ => false
  | c, some e, x => match x with
    | some x => chkE c e x
    | _ => false
termination_by structural _ e => e
def chkI : SCx → It → Expr → Bool
  | c, .val e, x => nse x && (nst x && chkE c e x)
  | c, .rng1 a, x => match x with
    | .Call (.Name z _) [a'] [] _ => decide (z = "range") && (glB c.sc z && (nst a' && chkE c a a'))
    | _ => false
  | c, .rng2 a b, x => match x with
    | .Call (.Name z _) [a', b'] [] _ => decide (z = "range") && (glB c.sc z && (nst a' && (nst b' && (chkE c a a' && chkE c b b'))))
    | _ => false
  | c, .rng3 a b d, x => match x with
    | .Call (.Name z _) [a', b', d'] [] _ => decide (z = "range") && (glB c.sc z && (nst a' && (nst b' && (nst d' && (chkE c a a' && (chkE c b b' && chkE c d d'))))))
    | _ => false
  | c, .enum e, x => match x with
    | .Call (.Name z _) [a'] [] _ => decide (z = "enumerate") && (glB c.sc z && (nst a' && chkE c e a'))
    | _ => false
  | c, .zip a b, x => match x with
    | .Call (.Name z _) [a', b'] [] _ => decide (z = "zip") && (glB c.sc z && (nst a' && (nst b' && (chkE c a a' && chkE c b b'))))
    | _ => false
termination_by structural _ it => it
def chkT : SCx → T → Expr → Bool
  | c, .nm i, x => match x with
    | .Name y _ => decide (c.N[i]? = some y) && locB c y
    | _ => false
  | c, .tp ts, x => match x with
    | .Tuple xs _ _ => chkTs c ts xs
    | _ => false
  | c, .sub a i, x => match x with
    | .Subscript a' i' _ => nsl i' && (chkE c a a' && chkE c i i')
    | _ => false
termination_by structural _ t => t
def chkTs : SCx → List T → List Expr → Bool
  | _, [], xs => match xs with
    | [] => true
    | _ => false
  | c, t :: ts, xs => match xs with
    | x :: r => nst x && (chkT c t x && chkTs c ts r)
    | _ => false
termination_by structural _ ts => ts
end
end

def bnames : List Str := ["len", "abs", "int", "str", "list", "tuple", "sum", "max", "min", "all", "any", "sorted", "bool", "isinstance", "range", "enumerate", "zip"]

/-! ### a def's promise by the evaluator -/
structure Gx where
  G : Gm
  g : Glo
  gn : Nat → Str
  n : Nat
abbrev Gx.k (x : Gx) : Nms := ⟨x.g.nm, x.gn, fun f => (x.G.fns f).isSome⟩
abbrev Gx.call (x : Gx) : Nat → List PV → Store → Out PV := callFn x.G x.n
def spOf (G : Gm) (g : Glo) (n f : Nat) : Sp := fun vs H Q E => ∃ (S : Store) (m : Mem) (ps : List PV) (fn : Fn), G.fns f = some fn ∧ ps.length = fn.ps ∧ SR g m S H ∧ Reps g m H ps vs ∧ OkE g m H (callFn G n f ps S) Q E

structure XC (x : Gx) (c : SCx) (Wx : WX) (X : Cx) : Prop where
  N : X.N = c.N
  nd : c.N.Nodup
  sc : X.env.scope = c.sc
  fn : X.fn = c.fn
  calm : X.calm = true
  K : X.K = x.g.K
  mg : X.mg = x.g.mg
  room : Room x.n X.A
  tk : Takes X Wx
  fs : ∀ f fd, x.G.fns f = some fd → ∃ (a : Addr) (fd' : FuncData) (ps : List Str), x.g.mg (x.g.nm f) = some (.ref a) ∧ PySem.W.keepIn X.K (.ref a) = true ∧ Binds X.K fd' ps [] ∧
    FnOk X.prog X.w X.K X.mg X.base (L2.CX X.prog X.w) x.n a fd' ps (spOf x.G x.g x.n f)
  gl : ∀ id v, x.G.gls id = some v → ∃ u w, x.g.mg (x.gn id) = some u ∧ RelV w u ∧ ∀ m H, Rep x.g m H v w
  bl : ∀ b ∈ bnames, x.g.mg b = none
  fk : ∀ f, x.g.fk f = (x.G.fns f).isSome

section
variable (x : Gx)
abbrev EV (e : E) (σ : Env) (S : Store) : Out PV := ev x.call x.G.gls e σ S
def SE (e : E) : Prop := ∀ (c : SCx) (y : Expr), chkE x.k c e y = true → ∀ (X : Cx) (Wx : WX), XC x c Wx X → ∀ (σp : Env) (S : Store) (σ : L2.St) (H : Hp) (m : Mem) (Q : VK),
  ER x.g m H σp σ → SR x.g m S H → OkE x.g m H (EV x e σp S) Q (fun cl d H' => Wx cl d σ H') → W X y σ H Q
def SEF (e : E) : Prop := ∀ (fr : Bool) (c : SCx) (y : Expr), chkE x.k c e y = true → ∀ (X : Cx) (Wx : WX), XC x c Wx X → ∀ (σp : Env) (S : Store) (σ : L2.St) (H : Hp) (m : Mem) (Q : VK),
  ER x.g m H σp σ → SR x.g m S H → OkF x.g fr m H (EV x e σp S) Q (fun cl d H' => Wx cl d σ H') → W X y σ H Q
def SEs (es : List E) : Prop := ∀ (c : SCx) (ys : List Expr), chkEs x.k c es ys = true → ∀ (X : Cx) (Wx : WX), XC x c Wx X → ∀ (σp : Env) (S : Store) (σ : L2.St) (H : Hp) (m : Mem) (Q : List V → Hp → Prop),
  ER x.g m H σp σ → SR x.g m S H → OkL x.g m H (evs x.call x.G.gls es σp S) Q (fun cl d H' => Wx cl d σ H') → WA X ys σ H Q
theorem SEF.se {e : E} (h : SEF x e) : SE x e := h false
def TrR : Mem → Hp → PV → Bool → Prop := fun _ _ v b => truth v = some b
/-- as a test -/
def SB (e : E) : Prop := ∀ (c : SCx) (y : Expr), chkE x.k c e y = true → ∀ (X : Cx) (Wx : WX), XC x c Wx X → ∀ (σp : Env) (S : Store) (σ : L2.St) (H : Hp) (m : Mem) (Q : Bool → Hp → Prop),
  ER x.g m H σp σ → SR x.g m S H → OkX x.g TrR m H ((EV x e σp S).bind fun v S1 => match truth v with
    | some _ => .ok v S1
    | none => .stuck) Q (fun cl d H' => Wx cl d σ H') → WT X y σ H Q
def EqR : Mem → Hp → Bool → Bool → Prop := fun _ _ a b => a = b
def SC (cs : List E) : Prop := ∀ (c : SCx) (ys : List Expr), chkC x.k c cs ys = true → ∀ (X : Cx) (Wx : WX), XC x c Wx X → ∀ (σp : Env) (S : Store) (σ : L2.St) (H : Hp) (m : Mem) (Q : Bool → Hp → Prop),
  ER x.g m H σp σ → SR x.g m S H → OkX x.g EqR m H (evc x.call x.G.gls cs σp S) Q (fun cl d H' => Wx cl d σ H') →
    ∀ (pins : List (Addr × Obj)) (s : Shared), Inv X pins σ H s → wpAny (model X.prog X.w) X.A (forIn ys true fun c r => if r = true then do let ok ← isTrue c X.env (eval c X.env); pure (ForInStep.yield ok) else pure (ForInStep.yield r)) (TP X pins σ Q) X.xe s
def OiR : Mem → Hp → Option Int → Option Int → Prop := fun _ _ a b => a = b
def SO_ (o : Option E) : Prop := ∀ (c : SCx) (y : Option Expr), chkO x.k c o y = true → ∀ (X : Cx) (Wx : WX), XC x c Wx X → ∀ (σp : Env) (S : Store) (σ : L2.St) (H : Hp) (m : Mem) (Q : Option Int → Hp → Prop),
  ER x.g m H σp σ → SR x.g m S H → OkX x.g OiR m H (evo x.call x.G.gls o σp S) Q (fun cl d H' => Wx cl d σ H') → WO X y σ H Q
/-- what a walk yields: xs, while the guards stand -/
structure ItOk (g : Glo) (xs : List PV) (gd : Guard) (m0 : Mem) (H0 : Hp) (J : L2.It) : Prop where
  stop : ∀ (m : Mem) (S : Store) (H : Hp), Grow m0 H0 m H → SR g m S H → okG gd S = true → J.stop xs.length H
  go : ∀ (i : Nat) (v : PV) (m : Mem) (S : Store) (H : Hp), xs[i]? = some v → Grow m0 H0 m H → SR g m S H → okG gd S = true →
    J.go i H ∧ ∀ u H', J.yld i H u H' → Fut m H m H' ∧ SR g m S H' ∧ Rep g m H' v u
def ItR (g : Glo) : Mem → Hp → List PV × Guard → L2.It → Prop := fun m H r J => ItOk g r.1 r.2 m H J
def SI (it : It) : Prop := ∀ (c : SCx) (y tg : Expr), chkI x.k c it y = true → (needT it = true → ∃ es k p, tg = .Tuple es k p) → ∀ (X : Cx) (Wx : WX), XC x c Wx X → ∀ (σp : Env) (S : Store) (σ : L2.St) (H : Hp) (m : Mem) (R : L2.It → Hp → Prop),
  ER x.g m H σp σ → SR x.g m S H → OkX x.g (ItR x.g) m H (itv x.call x.G.gls it σp S) R (fun cl d H' => Wx cl d σ H') → WI X tg y σ H R
/-- behind a target's store: only its own slots have changed -/
def StR (g : Glo) (L : List Nat) (σ0 : L2.St) : Mem → Hp → Env → L2.St → Prop := fun m H a b => ER g m H a b ∧ b.length = σ0.length ∧ ∀ i, i ∉ L → b[i]? = σ0[i]?
def ST (t : T) : Prop := ∀ (c : SCx) (y : Expr), chkT x.k c t y = true → ∀ (X : Cx) (Wx : WX), XC x c Wx X → ∀ (σp : Env) (S : Store) (σ : L2.St) (H : Hp) (m : Mem) (v : PV) (u : V) (Q : L2.St → Hp → Prop),
  ER x.g m H σp σ → SR x.g m S H → Rep x.g m H v u → OkX x.g (StR x.g (tgts t) σ) m H (asgT x.call x.G.gls t v σp S) Q (fun cl d H' => Wx cl d σ H') → WG X y u σ H Q
def STs (ts : List T) : Prop := ∀ (c : SCx) (ys : List Expr), chkTs x.k c ts ys = true → ∀ (X : Cx) (Wx : WX), XC x c Wx X → ∀ (σp : Env) (S : Store) (σ : L2.St) (H : Hp) (m : Mem) (vs : List PV) (us : List V) (Q : L2.St → Hp → Prop),
  ER x.g m H σp σ → SR x.g m S H → Reps x.g m H vs us → OkX x.g (StR x.g (tgtss ts) σ) m H (asgTs x.call x.G.gls ts vs σp S) Q (fun cl d H' => Wx cl d σ H') → WGs X ys us σ H Q
end
end Zv

end
section
set_option Elab.async false
set_option linter.all false
set_option maxRecDepth 100000
set_option maxHeartbeats 4000000
/-! Z8: the parts of expressions. -/
namespace Zv
open PySem PySem.Spec PyProof.Rows L2

theorem and_t {a b : Bool} (h : (a && b) = true) : a = true ∧ b = true := Bool.and_eq_true_iff.mp h
section
variable {x : Gx} {c : SCx} {Wx : WX} {X : Cx}
theorem XC.nodup (h : XC x c Wx X) : X.N.Nodup := by rw [h.N]; exact h.nd
theorem XC.units (h : XC x c Wx X) : X.A.units + 65 < cLine := by have := h.room.un; omega
theorem okN_p {y : Str} (h : okN y = true) : (y == ("__debug__" : Str)) = false ∧ (y == ("__classdict__" : Str)) = false ∧ y ≠ "__name__" := by
  obtain ⟨h1, h2⟩ := and_t h
  obtain ⟨h2, h3⟩ := and_t h2
  exact ⟨by simpa using h1, by simpa using h2, of_decide_eq_true h3⟩
theorem vis_of (h : XC x c Wx X) {y : Str} (e : visB c.sc y = true) : Vis X.env.scope y := by
  unfold visB at e
  rw [h.sc]
  unfold Vis
  split at e
  · rename_i q; exact .inl q
  · rename_i q; exact .inr (.inl q)
  · rename_i q; exact .inr (.inr q)
  · cases e
theorem gl_of (h : XC x c Wx X) {y : Str} (e : glB c.sc y = true) : Gl X y := by
  unfold Gl Env.kindOf
  rw [h.sc]
  exact of_decide_eq_true e
theorem loc_of (h : XC x c Wx X) {y : Str} (e : locB c y = true) : L2.Loc X.env.scope y ∧ (X.fn y = true ∨ X.env.scope.names.lookup y = some .local) := by
  unfold locB at e
  rw [h.sc]
  unfold L2.Loc
  split at e
  · rename_i q; exact ⟨.inl q, .inr q⟩
  · rename_i q; rw [h.fn]; exact ⟨.inr q, .inl e⟩
  · cases e
theorem bl_of (h : XC x c Wx X) {y : Str} (e : y ∈ bnames) : X.mg y = none := by rw [h.mg]; exact h.bl y e
theorem nst_star {y : Expr} {ys : List Expr} {env : PySem.Env} (h : nst y = true) : starEach (y :: ys) env = (false, eval y env) :: starEach ys env := by
  cases y <;> first | rfl | cases h
theorem nst_assign {y : Expr} {ys : List Expr} {env : PySem.Env} (h : nst y = true) : assignEach (y :: ys) env = (false, assign y env) :: assignEach ys env := by
  cases y <;> first | rfl | cases h
theorem chkEs_plain {k : Nms} {c : SCx} {pos : Pos} {env : PySem.Env} : ∀ {es : List E} {ys : List Expr}, chkEs k c es ys = true → (backTo pos (starEach ys env)).any (·.1) = false
  | [], [], _ => rfl
  | [], _ :: _, h => by cases h
  | _ :: _, [], h => by cases h
  | e :: es, y :: ys, h => by
    obtain ⟨h1, h2⟩ := and_t h
    obtain ⟨h2, h3⟩ := and_t h2
    rw [nst_star h1]
    show (false || (backTo pos (starEach ys env)).any (·.1)) = false
    rw [chkEs_plain h3]; rfl
theorem chkEs_all {k : Nms} {c : SCx} {pos : Pos} {env : PySem.Env} : ∀ {es : List E} {ys : List Expr}, chkEs k c es ys = true → (backTo pos (starEach ys env)).all (fun z => !z.1) = true
  | [], [], _ => rfl
  | [], _ :: _, h => by cases h
  | _ :: _, [], h => by cases h
  | e :: es, y :: ys, h => by
    obtain ⟨h1, h2⟩ := and_t h
    obtain ⟨h2, h3⟩ := and_t h2
    rw [nst_star h1]
    show (true && (backTo pos (starEach ys env)).all (fun z => !z.1)) = true
    rw [chkEs_all h3]; rfl
end

section
variable {x : Gx}
theorem s_var (i : Nat) : SE x (.var i) := fun c y hc X Wx hX σp S σ H m Q hE hS h => by
  cases y <;> first | cases hc | skip
  rename_i y pos
  obtain ⟨h1, h2⟩ := and_t hc
  obtain ⟨h2, h3⟩ := and_t h2
  obtain ⟨n1, n2, n3⟩ := okN_p h3
  have h0 : look σp i ≠ none := fun e => by
    have h' : OkE x.g m H (ofO S (look σp i)) Q _ := h
    rw [e] at h'
    exact h'
  cases e : look σp i with
  | none => exact absurd e h0
  | some v =>
    obtain ⟨u, e1, r⟩ := hE.at_ i v e
    have h' : OkE x.g m H (ofO S (look σp i)) Q _ := h
    rw [e] at h'
    exact W.of (pe_var (i := i) (by rw [hX.N]; exact of_decide_eq_true h1) (vis_of hX h2) n1 n2) ⟨u, e1, e_val hS r h'⟩
theorem s_con (k : PV) : SE x (.con k) := fun c y hc X Wx hX σp S σ H m Q hE hS h => by
  cases y <;> first | cases hc | skip
  rename_i q j pos
  have h : OkE x.g m H (.ok k S) Q _ := h
  cases k with
  | non =>
    cases q <;> first | cases hc | skip
    exact W.of pe_non (e_non hS h)
  | bl a =>
    cases q <;> first | cases hc | skip
    rename_i b
    have e : a = b := by simpa [chkE] using hc
    subst e
    exact W.of pe_bl (e_bl hS h)
  | int a =>
    cases q <;> first | cases hc | skip
    rename_i b
    have e : a = b := of_decide_eq_true hc
    subst e
    exact W.of pe_int (e_int hS h)
  | str a =>
    cases q <;> first | cases hc | skip
    rename_i b
    have e : a = b := of_decide_eq_true hc
    subst e
    exact W.of pe_str (e_str hS h)
  | _ => cases q <;> cases hc
theorem s_gl (y : Str) (id : Nat) : SE x (.gl y id) := fun c z hc X Wx hX σp S σ H m Q hE hS h => by
  cases z <;> first | cases hc | skip
  rename_i z pos
  obtain ⟨h1, h2⟩ := and_t hc
  obtain ⟨h2, h3⟩ := and_t h2
  obtain ⟨h3, h4⟩ := and_t h3
  obtain ⟨n1, n2, n3⟩ := okN_p h4
  have h : OkE x.g m H (ofO S (x.G.gls id)) Q _ := h
  cases e : x.G.gls id with
  | none => rw [e] at h; exact False.elim h
  | some v =>
    rw [e] at h
    obtain ⟨u, w, k1, k2, k3⟩ := hX.gl id v e
    exact W.of (pe_glob (gl_of hX h3) (by rw [hX.mg, ← of_decide_eq_true h2]; exact k1) k2 n1) (e_val hS (k3 m H) h)
theorem s_fnr (f : Nat) : SE x (.fnr f) := fun c z hc X Wx hX σp S σ H m Q hE hS h => by
  cases z <;> first | cases hc | skip
  rename_i z pos
  obtain ⟨h0, hc⟩ := and_t hc
  obtain ⟨h1, h2⟩ := and_t hc
  obtain ⟨h2, h3⟩ := and_t h2
  obtain ⟨n1, n2, n3⟩ := okN_p h3
  have h : OkE x.g m H (.ok (.fn f) S) Q _ := h
  obtain ⟨fd, e⟩ := Option.isSome_iff_exists.mp h0
  obtain ⟨a, fd', ps, k1, _⟩ := hX.fs f fd e
  have r : Rep x.g m H (.fn f) (.ref a) := ⟨a, rfl, k1, by rw [hX.fk]; exact h0⟩
  exact W.of (pe_glob (v := .ref a) (gl_of hX h2) (by rw [hX.mg, ← of_decide_eq_true h1]; exact k1) rfl n1) (e_val hS r h)
theorem s_bin {op : Operator} {a b : E} (ha : SE x a) (hb : SE x b) : SEF x (.bin op a b) := fun fr c y hc X Wx hX σp S σ H m Q hE hS h => by
  cases y <;> first | cases hc | skip
  obtain ⟨h1, h2⟩ := and_t hc
  obtain ⟨h2, h3⟩ := and_t h2
  cases of_decide_eq_true h1
  refine W.of (pe_op opr_W pe_W pe_W) ?_
  refine ha c _ h2 X Wx hX σp S σ H m _ hE hS (OkF.fst h fun v S1 m1 H1 u e1 f1 s1 r1 h1 => ?_)
  refine hb c _ h3 X Wx hX σp S1 σ H1 m1 _ (hE.fut f1) s1 (OkF.fst h1 fun w S2 m2 H2 u2 e2 f2 s2 r2 h2 => ?_)
  exact bin_ok hX.K s2 (r1.fut f2) r2 h2
theorem s_neg {a : E} (ha : SE x a) : SE x (.neg a) := fun c y hc X Wx hX σp S σ H m Q hE hS h => by
  cases y <;> first | cases hc | skip
  rename_i op a' pos
  cases op <;> first | cases hc | skip
  refine W.of (pe_un un_neg pe_W) ?_
  refine ha c _ hc X Wx hX σp S σ H m _ hE hS (h.fst fun v S1 m1 H1 u e1 f1 s1 r1 h1 => ?_)
  cases v with
  | int i => cases r1; exact ⟨i, rfl, e_int s1 h1⟩
  | _ => exact False.elim h1
theorem truth_ok {g : Glo} {m : Mem} {H : Hp} {v : PV} {u : V} {b : Bool} (r : Rep g m H v u) (e : truth v = some b) (K : PySem.W.Frag) : TruV K u H b := by
  cases v with
  | bl c => cases r; cases e; rfl
  | str z =>
    cases r
    obtain ⟨h1, h2⟩ := guardO_some e
    exact ⟨LIM_line (of_decide_eq_true h1), h2.symm⟩
  | _ => cases e
theorem s_and {a b : E} (ha : SE x a) (hb : SE x b) : SE x (.and a b) := fun c y hc X Wx hX σp S σ H m Q hE hS h => by
  have go : ∀ (a' b' : Expr) (rest : List Expr) (pos : Pos), chkE x.k c a a' = true → (∀ σp S σ H m Q, ER x.g m H σp σ → SR x.g m S H → OkE x.g m H (EV x b σp S) Q (fun cl d H' => Wx cl d σ H') → W X (.BoolOp .And (b' :: rest) pos) σ H Q) →
      W X (.BoolOp .And (a' :: b' :: rest) pos) σ H Q := fun a' b' rest pos h2 kb => by
    refine W.of (pe_andT pe_W pe_W) ?_
    refine ha c _ h2 X Wx hX σp S σ H m _ hE hS (OkX.fst h fun v S1 m1 H1 u e1 f1 s1 r1 h1 => ?_)
    cases e : truth v with
    | none => simp only [e] at h1; exact False.elim h1
    | some k =>
      simp only [e] at h1
      refine ⟨k, truth_ok r1 e _, ?_⟩
      cases k with
      | true => exact kb σp S1 σ H1 m1 _ (hE.fut f1) s1 h1
      | false => exact e_val s1 r1 h1
  cases y <;> first | cases hc | skip
  rename_i op vs pos
  cases op <;> first | cases hc | skip
  match vs, hc with
  | [a', b'], hc =>
    obtain ⟨h2, h3⟩ := and_t hc
    exact go a' b' [] pos h2 fun σp S σ H m Q hE hS h => W.of (pe_one pe_W) (hb c b' h3 X Wx hX σp S σ H m Q hE hS h)
  | a' :: b' :: d' :: r, hc =>
    obtain ⟨h2, h3⟩ := and_t hc
    exact go a' b' (d' :: r) pos h2 fun σp S σ H m Q hE hS h => hb c _ h3 X Wx hX σp S σ H m Q hE hS h
theorem s_or {a b : E} (ha : SE x a) (hb : SE x b) : SE x (.or a b) := fun c y hc X Wx hX σp S σ H m Q hE hS h => by
  have go : ∀ (a' b' : Expr) (rest : List Expr) (pos : Pos), chkE x.k c a a' = true → (∀ σp S σ H m Q, ER x.g m H σp σ → SR x.g m S H → OkE x.g m H (EV x b σp S) Q (fun cl d H' => Wx cl d σ H') → W X (.BoolOp .Or (b' :: rest) pos) σ H Q) →
      W X (.BoolOp .Or (a' :: b' :: rest) pos) σ H Q := fun a' b' rest pos h2 kb => by
    refine W.of (pe_orT pe_W pe_W) ?_
    refine ha c _ h2 X Wx hX σp S σ H m _ hE hS (OkX.fst h fun v S1 m1 H1 u e1 f1 s1 r1 h1 => ?_)
    cases e : truth v with
    | none => simp only [e] at h1; exact False.elim h1
    | some k =>
      simp only [e] at h1
      refine ⟨k, truth_ok r1 e _, ?_⟩
      cases k with
      | true => exact e_val s1 r1 h1
      | false => exact kb σp S1 σ H1 m1 _ (hE.fut f1) s1 h1
  cases y <;> first | cases hc | skip
  rename_i op vs pos
  cases op <;> first | cases hc | skip
  match vs, hc with
  | [a', b'], hc =>
    obtain ⟨h2, h3⟩ := and_t hc
    exact go a' b' [] pos h2 fun σp S σ H m Q hE hS h => W.of (pe_one pe_W) (hb c b' h3 X Wx hX σp S σ H m Q hE hS h)
  | a' :: b' :: d' :: r, hc =>
    obtain ⟨h2, h3⟩ := and_t hc
    exact go a' b' (d' :: r) pos h2 fun σp S σ H m Q hE hS h => hb c _ h3 X Wx hX σp S σ H m Q hE hS h
theorem s_not {a : E} (ha : SE x a) : SE x (.not a) := fun c y hc X Wx hX σp S σ H m Q hE hS h => by
  cases y <;> first | cases hc | skip
  rename_i op a' pos
  cases op <;> first | cases hc | skip
  refine W.of (pe_notT pe_W) ?_
  refine ha c _ hc X Wx hX σp S σ H m _ hE hS (OkX.fst h fun v S1 m1 H1 u e1 f1 s1 r1 h1 => ?_)
  cases e : truth v with
  | none => simp only [e] at h1; exact False.elim h1
  | some k =>
    simp only [e] at h1
    exact ⟨k, truth_ok r1 e _, e_bl s1 h1⟩
theorem cmp_okE {g : Glo} {X : Cx} {m : Mem} {S : Store} {H : Hp} {v w : PV} {u u2 : V} {Q : VK} {E : XK} {op : CmpOp} (hK : X.K = g.K) (hu : X.A.units + 65 < cLine) (hS : SR g m S H) (r1 : Rep g m H v u) (r2 : Rep g m H w u2)
    (h : OkE g m H (ofO S ((cmpop op v w S).map .bl)) Q E) : WR X (compareOp op) u u2 H Q := by
  cases e : cmpop op v w S with
  | none => rw [e] at h; exact False.elim h
  | some b => rw [e] at h; exact cmp_ok hK hu hS r1 r2 e (e_bl hS h)
theorem s_cmp {op : CmpOp} {a b : E} (ha : SE x a) (hb : SE x b) : SE x (.cmp op a b) := fun c y hc X Wx hX σp S σ H m Q hE hS h => by
  cases y <;> first | cases hc | skip
  rename_i a' ops bs pos
  match ops, bs, hc with
  | [op'], [b'], hc =>
    obtain ⟨h1, h2⟩ := and_t hc
    obtain ⟨h2, h3⟩ := and_t h2
    obtain ⟨h3, h4⟩ := and_t h3
    cases of_decide_eq_true h1
    refine W.of (pe_cmpR opr_W pe_W pe_W (by simpa using h2)) ?_
    refine ha c _ h3 X Wx hX σp S σ H m _ hE hS (OkX.fst h fun v S1 m1 H1 u e1 f1 s1 r1 h1 => ?_)
    refine hb c _ h4 X Wx hX σp S1 σ H1 m1 _ (hE.fut f1) s1 (OkX.fst h1 fun w S2 m2 H2 u2 e2 f2 s2 r2 h2 => ?_)
    exact cmp_okE hX.K hX.units s2 (r1.fut f2) r2 h2
theorem s_chain {op op2 : CmpOp} {a b d : E} (ha : SE x a) (hb : SE x b) (hd : SE x d) : SE x (.chain op op2 a b d) := fun c y hc X Wx hX σp S σ H m Q hE hS h => by
  cases y <;> first | cases hc | skip
  rename_i a' ops bs pos
  match ops, bs, hc with
  | [o1, o2], [b', d'], hc =>
    obtain ⟨h1, h2⟩ := and_t hc
    obtain ⟨h2, h3⟩ := and_t h2
    obtain ⟨h3, h4⟩ := and_t h3
    obtain ⟨h4, h5⟩ := and_t h4
    obtain ⟨h5, h6⟩ := and_t h5
    cases of_decide_eq_true h1
    cases of_decide_eq_true h2
    refine W.of (pe_chain opr_W opr_W pe_W pe_W pe_W (by simpa using h3)) ?_
    refine ha c _ h4 X Wx hX σp S σ H m _ hE hS (OkX.fst h fun v S1 m1 H1 u e1 f1 s1 r1 h1 => ?_)
    refine hb c _ h5 X Wx hX σp S1 σ H1 m1 _ (hE.fut f1) s1 (OkX.fst h1 fun w S2 m2 H2 u2 e2 f2 s2 r2 h2 => ?_)
    cases e : cmpop op v w S2 with
    | none => simp only [e] at h2; exact False.elim h2
    | some k =>
      refine cmp_ok hX.K hX.units s2 (r1.fut f2) r2 e ?_
      cases k with
      | true =>
        simp only [e] at h2
        refine ⟨true, rfl, ?_⟩
        rw [if_pos rfl]
        refine hd c _ h6 X Wx hX σp S2 σ H2 m2 _ ((hE.fut f1).fut f2) s2 (OkX.fst h2 fun z S3 m3 H3 u3 e3 f3 s3 r3 h3 => ?_)
        exact cmp_okE hX.K hX.units s3 (r2.fut f3) r3 h3
      | false =>
        simp only [e] at h2
        refine ⟨false, rfl, ?_⟩
        rw [if_neg Bool.false_ne_true]
        exact e_bl s2 h2
theorem s_nil : SEs x [] := fun c ys hc X Wx hX σp S σ H m Q hE hS h => by
  cases ys with
  | nil => exact WA.of pa_nil (h [] H m (Fut.refl _ _) hS rfl)
  | cons _ _ => cases hc
theorem s_cons {e : E} {es : List E} (he : SE x e) (hes : SEs x es) : SEs x (e :: es) := fun c ys hc X Wx hX σp S σ H m Q hE hS h => by
  cases ys with
  | nil => cases hc
  | cons y ys =>
    obtain ⟨h1, h2⟩ := and_t hc
    obtain ⟨h2, h3⟩ := and_t h2
    refine WA.of (pa_cons pe_W pa_W (nst_star h1)) ?_
    refine he c _ h2 X Wx hX σp S σ H m _ hE hS (OkX.fst h fun v S1 m1 H1 u e1 f1 s1 r1 h1 => ?_)
    refine hes c _ h3 X Wx hX σp S1 σ H1 m1 _ (hE.fut f1) s1 (OkX.fst h1 fun w S2 m2 H2 u2 e2 f2 s2 r2 h2 => ?_)
    exact h2 (u :: u2) H2 m2 (Fut.refl _ _) s2 (Reps.cons (r1.fut f2) r2)
/-- a call of the def at a -/
theorem call_ok {c : SCx} {Wx : WX} {X : Cx} {σ : L2.St} {H : Hp} {m : Mem} {Q : VK} {f : Nat} {fd : Fn} {vs : List PV} {us : List V} {S : Store} (hX : XC x c Wx X) (ef : x.G.fns f = some fd) (hl : vs.length = fd.ps) (hS : SR x.g m S H) (r : Reps x.g m H vs us)
    (h : OkE x.g m H (x.call f vs S) Q (fun cl d H' => Wx cl d σ H')) : spOf x.G x.g x.n f us H Q (WE Wx σ) := ⟨S, m, vs, fd, ef, hl, hS, r, h⟩
theorem callFn_len {G : Gm} {n f : Nat} {vs : List PV} {S : Store} {β : Type} {g : Glo} {r : Mem → Hp → PV → β → Prop} {m : Mem} {H : Hp} {Q : β → Hp → Prop} {E : XK} (h : OkX g r m H (callFn G n f vs S) Q E) : ∃ fd, G.fns f = some fd ∧ vs.length = fd.ps := by
  cases n with
  | zero => exact False.elim h
  | succ n =>
    unfold callFn at h
    cases e : G.fns f with
    | none => simp only [e] at h; exact False.elim h
    | some fd =>
      simp only [e] at h
      refine ⟨fd, rfl, ?_⟩
      by_cases hl : vs.length = fd.ps
      · exact hl
      · simp only [decide_eq_false hl] at h; exact False.elim h
theorem s_call {f : Nat} {es : List E} (hes : SEs x es) : SE x (.call f es) := fun c y hc X Wx hX σp S σ H m Q hE hS h => by
  cases y <;> first | cases hc | skip
  rename_i fe ys kws pos
  cases fe <;> first | cases hc | skip
  rename_i z p
  cases kws with
  | cons _ _ => cases hc
  | nil =>
    obtain ⟨h0, hc⟩ := and_t hc
    obtain ⟨h1, k5⟩ := and_t hc
    obtain ⟨h2, k6⟩ := and_t k5
    obtain ⟨h3, h4⟩ := and_t k6
    obtain ⟨n1, n2, n3⟩ := okN_p h3
    have ez := of_decide_eq_true h1
    obtain ⟨fd, ef⟩ := Option.isSome_iff_exists.mp h0
    obtain ⟨a, fd', ps, k1, k2, k3, F⟩ := hX.fs f fd ef
    have hm : X.mg z = some (.ref a) := by rw [hX.mg, ← ez]; exact k1
    intro pins s I
    have args := hes c ys h4 X Wx hX σp S σ H m (fun us H1 => spOf x.G x.g x.n f us H1 Q (WE Wx σ)) hE hS (OkX.fst h fun vs S1 m1 H1 us e1 f1 s1 r1 h1 => by
      obtain ⟨fd, ef, hl⟩ := callFn_len h1
      exact call_ok hX ef hl s1 r1 h1)
    cases ys with
    | nil =>
      refine wpAny_Call_Name_kw (ld_glob I (gl_of hX h2) hm ?_ n1)
      refine PySem.W.callWith_K0 I.kIn k2 ?_
      cases es with
      | cons _ _ => cases h4
      | nil =>
        have h' : OkE x.g m H (x.call f [] S) Q (fun cl d H' => Wx cl d σ H') := h
        obtain ⟨fd2, ef2, hl2⟩ := callFn_len h'
        exact run_fnS (us := []) F hX.room k3 (passAt hX.tk σ) I .nil (call_ok hX ef2 hl2 hS Reps.nil h')
    | cons y0 ys =>
      have hn0 : nst y0 = true := by
        cases es with
        | nil => cases h4
        | cons _ _ => exact (and_t h4).1
      have hpl : (backTo pos (starEach ys X.env)).any (·.1) = false := by
        cases es with
        | nil => cases h4
        | cons _ _ => exact chkEs_plain (and_t (and_t h4).2).2
      exact (pe_callS (sp := spOf x.G x.g x.n f) F hX.room (gl_of hX h2) hm k2 k3 (E := WE Wx) (fun σ => passAt hX.tk σ) pa_W n1 (nst_star hn0) hpl).run pins s σ H Q I args
theorem s_callv {i : Nat} {es : List E} (hes : SEs x es) : SE x (.callv i es) := fun c y hc X Wx hX σp S σ H m Q hE hS h => by
  cases y <;> first | cases hc | skip
  rename_i fe ys kws pos
  cases fe <;> first | cases hc | skip
  rename_i z p
  cases kws with
  | cons _ _ => cases hc
  | nil =>
    obtain ⟨h1, k5⟩ := and_t hc
    obtain ⟨h2, k6⟩ := and_t k5
    obtain ⟨h3, h4⟩ := and_t k6
    obtain ⟨n1, n2, n3⟩ := okN_p h3
    have hN : X.N[i]? = some z := by rw [hX.N]; exact of_decide_eq_true h1
    cases e : look σp i with
    | none =>
      have h' : OkE x.g m H (match look σp i with
        | some (.fn f) => (evs x.call x.G.gls es σp S).bind fun vs S1 => x.call f vs S1
        | _ => .stuck) Q (fun cl d H' => Wx cl d σ H') := h
      rw [e] at h'
      exact False.elim h'
    | some v =>
      have h' : OkE x.g m H (match look σp i with
        | some (.fn f) => (evs x.call x.G.gls es σp S).bind fun vs S1 => x.call f vs S1
        | _ => .stuck) Q (fun cl d H' => Wx cl d σ H') := h
      rw [e] at h'
      cases v <;> first | exact False.elim h' | skip
      rename_i f
      have h : OkE x.g m H ((evs x.call x.G.gls es σp S).bind fun vs S1 => x.call f vs S1) Q (fun cl d H' => Wx cl d σ H') := h'
      obtain ⟨u, hu, a, rfl, ka, kf⟩ := hE.at_ i _ e
      have args := fun fd (ef : x.G.fns f = some fd) => hes c ys h4 X Wx hX σp S σ H m (fun us H1 => spOf x.G x.g x.n f us H1 Q (WE Wx σ)) hE hS (OkX.fst h fun vs S1 m1 H1 us e1 f1 s1 r1 h1 => by
        obtain ⟨fd, ef, hl⟩ := callFn_len h1
        exact call_ok hX ef hl s1 r1 h1)
      cases ef : x.G.fns f with
      | none =>
        rw [hX.fk, ef] at kf
        cases kf
      | some fd =>
        obtain ⟨a', fd', ps, k1, k2, k3, F⟩ := hX.fs f fd ef
        have ea : a' = a := by rw [k1] at ka; cases ka; rfl
        subst ea
        intro pins s I
        have args := args fd ef
        refine wpAny_Call_Name_kw (thn ((pe_var (pos := p) hN (vis_of hX h2) n1 n2).run pins s σ H (fun v H1 => v = .ref a' ∧ H1 = H) I ⟨.ref a', hu, rfl, rfl⟩) fun u s1 ⟨v, H1, I1, r1, q1⟩ => ?_)
        obtain ⟨rfl, rfl⟩ := q1
        cases r1
        cases ys with
        | nil =>
          refine PySem.W.callWith_K0 I1.kIn k2 ?_
          cases es with
          | cons _ _ => cases h4
          | nil =>
            have h' : OkE x.g m H1 (x.call f [] S) Q (fun cl d H' => Wx cl d σ H') := h
            obtain ⟨fd2, ef2, hl2⟩ := callFn_len h'
            exact run_fnS (us := []) F hX.room k3 (passAt hX.tk σ) I1 .nil (call_ok hX ef2 hl2 hS Reps.nil h')
        | cons y0 ys =>
          have hn0 : nst y0 = true := by
            cases es with
            | nil => cases h4
            | cons _ _ => exact (and_t h4).1
          have hpl : (backTo pos (starEach ys X.env)).any (·.1) = false := by
            cases es with
            | nil => cases h4
            | cons _ _ => exact chkEs_plain (and_t (and_t h4).2).2
          refine PySem.W.callWith_K (h₀ := X.base) I1.ok.mod.kin k2 (thn (args pos pins s1 I1) fun us s2 ⟨vs, H2, I2, r, q⟩ => ⟨I2.kIn, ?_⟩) (nst_star hn0) hpl
          exact run_fnS F hX.room k3 (passAt hX.tk σ) I2 r q
end
end Zv

end
section
set_option Elab.async false
set_option linter.all false
set_option maxRecDepth 100000
set_option maxHeartbeats 4000000
/-! Z9: further parts of expressions. -/
namespace Zv
open PySem PySem.Spec PyProof.Rows L2

section
variable {x : Gx}
theorem bi_mem (b : BI) : biN b ∈ bnames := by cases b <;> decide
theorem bi_cases (b : BI) : (∃ id, biV b = .builtin id) ∨ ∃ T, biV b = .type T := by
  cases b <;> first | exact .inl ⟨_, rfl⟩ | exact .inr ⟨_, rfl⟩
theorem s_bi {b : BI} {es : List E} (hes : SEs x es) : SEF x (.bi b es) := fun fr c y hc X Wx hX σp S σ H m Q hE hS h => by
  cases y <;> first | cases hc | skip
  rename_i fe ys kws pos
  cases fe <;> first | cases hc | skip
  rename_i z p
  match ys, kws, hc with
  | y0 :: ys, [], hc =>
    obtain ⟨h1, k2⟩ := and_t hc
    obtain ⟨h2, h3⟩ := and_t k2
    cases es with
    | nil => cases h3
    | cons e0 es =>
      obtain ⟨k3, k4⟩ := and_t h3
      obtain ⟨_, k5⟩ := and_t k4
      have ez := of_decide_eq_true h1
      subst ez
      obtain ⟨nn1, nn2⟩ := bi_name b
      have args := hes c (y0 :: ys) h3 X Wx hX σp S σ H m (fun us H1 => WC X (biV b) us H1 Q) hE hS (OkF.fst h fun vs S1 m1 H1 us e1 f1 s1 r1 h1 => bfun_ok hX.K hX.calm s1 r1 h1)
      have hm := bl_of hX (bi_mem b)
      rcases bi_cases b with ⟨id, e⟩ | ⟨T, e⟩
      · have hb : bootBuiltins (biN b) = some (.builtin id) := by rw [← e]; exact bi_boot b
        rw [e] at args
        exact W.of (pe_callB callr_W (gl_of hX h2) hm hb pa_W nn1 nn2 (nst_star k3) (chkEs_plain k5)) args
      · have hb : bootBuiltins (biN b) = some (.type T) := by rw [← e]; exact bi_boot b
        rw [e] at args
        exact W.of (pe_callTy callr_W (gl_of hX h2) hm hb pa_W nn1 nn2 (nst_star k3) (chkEs_plain k5)) args
theorem tyOk_p {t : String} (h : tyOk t = true) : t = "int" ∨ t = "bool" ∨ t = "str" ∨ t = "tuple" ∨ t = "list" := by
  unfold tyOk at h
  simpa [Bool.or_eq_true] using h
theorem boot_ty {t : String} (h : tyOk t = true) : bootBuiltins (Str.ofString t) = some (.type t) ∧ Str.ofString t ∈ bnames ∧ Str.ofString t ≠ "__name__" ∧ (Str.ofString t == ("__debug__" : Str)) = false := by
  rcases tyOk_p h with rfl | rfl | rfl | rfl | rfl <;> exact ⟨by decide +kernel, by decide, by decide, by decide⟩
theorem s_isin {a : E} {t : String} (ha : SE x a) : SE x (.isin a t) := fun c y hc X Wx hX σp S σ H m Q hE hS h => by
  cases y <;> first | cases hc | skip
  rename_i fe ys kws pos
  cases fe <;> first | cases hc | skip
  rename_i z p
  match ys, kws, hc with
  | [a', .Name t' p'], [], hc =>
    obtain ⟨h1, k2⟩ := and_t hc
    obtain ⟨h2, k3⟩ := and_t k2
    obtain ⟨h3, k4⟩ := and_t k3
    obtain ⟨h4, k5⟩ := and_t k4
    obtain ⟨h5, k6⟩ := and_t k5
    obtain ⟨h6, h7⟩ := and_t k6
    have ez := of_decide_eq_true h1
    have et := of_decide_eq_true h3
    subst ez et
    obtain ⟨b1, b2, b3, b4⟩ := boot_ty h5
    refine W.of (pe_callB (id := "isinstance") callr_W (gl_of hX h2) (bl_of hX (by decide)) (by decide +kernel) (pa_cons pe_W (pa_cons (pe_bltn (v := .ty t) (gl_of hX h4) (bl_of hX b2) b1 rfl b3 b4) pa_nil rfl) (nst_star h6)) (by decide) (by decide) (nst_star h6) rfl) ?_
    refine ha c _ h7 X Wx hX σp S σ H m _ hE hS (OkX.fst h fun v S1 m1 H1 u e1 f1 s1 r1 h1 => ?_)
    cases e : isTy t v with
    | none => rw [e] at h1; exact False.elim h1
    | some b =>
      rw [e] at h1
      exact isin_ok hX.K (tyOk_p h5) r1 s1 e (e_bl s1 h1)
theorem at_ix {n : Nat} {i : Int} : at_ n i = L2.ixN n i := by
  unfold at_ L2.ixN
  by_cases h0 : 0 ≤ i
  · rw [decide_eq_true h0, if_pos h0]
    by_cases h1 : i < n
    · simp [h1]
    · simp [h1]
  · rw [decide_eq_false h0, if_neg h0]
    by_cases h1 : 0 ≤ i + n
    · have h2 : -(n : Int) ≤ i := by omega
      simp [h1, h2]
    · have h2 : ¬ -(n : Int) ≤ i := by omega
      simp [h1, h2]
theorem s_ix {a b : E} (ha : SE x a) (hb : SE x b) : SE x (.ix a b) := fun c y hc X Wx hX σp S σ H m Q hE hS h => by
  cases y <;> first | cases hc | skip
  rename_i a' b' pos
  obtain ⟨h1, k2⟩ := and_t hc
  obtain ⟨h2, h3⟩ := and_t k2
  have hpl : PlainIx b' := by
    intro o i
    cases b' <;> first | rfl | cases h1
  refine W.of (pe_ix (ix_list.or ix_tup) pe_W pe_W hpl) ?_
  refine ha c _ h2 X Wx hX σp S σ H m _ hE hS (OkX.fst h fun v S1 m1 H1 u e1 f1 s1 r1 h1 => ?_)
  refine hb c _ h3 X Wx hX σp S1 σ H1 m1 _ (hE.fut f1) s1 (OkX.fst h1 fun w S2 m2 H2 u2 e2 f2 s2 r2 h2 => ?_)
  cases w <;> first | exact False.elim h2 | skip
  rename_i i
  cases r2
  cases ei : itemsOf S2 v with
  | none => simp only [ei] at h2; exact False.elim h2
  | some xs =>
    simp only [ei] at h2
    cases ej : at_ xs.length i with
    | none => simp only [ej] at h2; exact False.elim h2
    | some j =>
      simp only [ej] at h2
      cases ek : xs[j]? with
      | none => rw [ek] at h2; exact False.elim h2
      | some z =>
        rw [ek] at h2
        obtain ⟨p, vs, rfl, hq, hr⟩ := itemsOf_ok s2 (r1.fut f2) ei
        obtain ⟨w, hw, rw'⟩ := hr.get ek
        have hat : L2.atI vs i = some w := by
          unfold L2.atI
          rw [← at_ix, hr.length, ej]
          exact hw
        rcases hq with hq | hq
        · exact .inl ⟨p, vs, i, w, rfl, rfl, by rw [hX.K]; exact hq, hat, e_val s2 rw' h2⟩
        · exact .inr ⟨p, vs, i, w, rfl, rfl, by rw [hX.K]; exact hq, hat, e_val s2 rw' h2⟩
theorem o_none : SO_ x none := fun c y hc X Wx hX σp S σ H m Q hE hS h => by
  cases y with
  | none => exact WO.of po_none (h none H m (Fut.refl _ _) hS rfl)
  | some _ => cases hc
theorem o_some {e : E} (he : SE x e) : SO_ x (some e) := fun c y hc X Wx hX σp S σ H m Q hE hS h => by
  cases y with
  | none => cases hc
  | some y =>
    refine WO.of (po_some pe_W) ?_
    refine he c _ hc X Wx hX σp S σ H m _ hE hS (OkX.fst h fun v S1 m1 H1 u e1 f1 s1 r1 h1 => ?_)
    cases v <;> first | exact False.elim h1 | skip
    rename_i i
    cases r1
    exact ⟨i, rfl, h1 (some i) H1 m1 (Fut.refl _ _) s1 rfl⟩
theorem bnd_eq {n d : Nat} {o : Option Int} : bnd n d o = HT.sIx n d o := by
  cases o with
  | none => rfl
  | some i =>
    show (if 0 ≤ i then min i.toNat n else (i + n).toNat) = (if i < 0 then (i + (n : Int)).toNat else min i.toNat n)
    by_cases h : 0 ≤ i
    · rw [if_pos h, if_neg (by omega)]
    · rw [if_neg h, if_pos (by omega)]
theorem cut_eq {xs : List V} {lo hi : Option Int} : L2.cutV xs lo hi = cut xs lo hi := by
  unfold L2.cutV cut
  rw [bnd_eq, bnd_eq]
theorem Reps.cut {g : Glo} {m : Mem} {H : Hp} {xs : List PV} {vs : List V} (r : Reps g m H xs vs) (lo hi : Option Int) : Reps g m H (cut xs lo hi) (L2.cutV vs lo hi) := by
  rw [cut_eq]
  unfold Zv.cut
  rw [r.length]
  exact (r.drop _).take _
theorem s_sl {a : E} {lo hi : Option E} (ha : SE x a) (hl : SO_ x lo) (hh : SO_ x hi) : SEF x (.sl a lo hi) := fun fr c y hc X Wx hX σp S σ H m Q hE hS h => by
  cases y <;> first | cases hc | skip
  rename_i a' s' pos
  cases s' <;> first | cases hc | skip
  rename_i l u st p2
  cases st with
  | some _ => cases hc
  | none =>
    obtain ⟨h1, k2⟩ := and_t hc
    obtain ⟨h2, h3⟩ := and_t k2
    refine W.of (pe_slice (SlR.or sl_list sl_tupA) pe_W po_W po_W) ?_
    refine ha c _ h1 X Wx hX σp S σ H m _ hE hS (OkF.fst h fun v S1 m1 H1 u e1 f1 s1 r1 h1 => ?_)
    refine hl c _ h2 X Wx hX σp S1 σ H1 m1 _ (hE.fut f1) s1 (OkF.fst h1 fun w S2 m2 H2 u2 e2 f2 s2 r2 h2 => ?_)
    refine hh c _ h3 X Wx hX σp S2 σ H2 m2 _ ((hE.fut f1).fut f2) s2 (OkF.fst h2 fun w3 S3 m3 H3 u3 e3 f3 s3 r3 h3 => ?_)
    have r2 : w = u2 := r2
    have r3 : w3 = u3 := r3
    subst r2 r3
    have rv := (r1.fut f2).fut f3
    have lists : (match seqOf S3 v with
      | some xs => OkF x.g fr m3 H3 (.ok (.lst (cut xs w w3)) S3) Q (fun cl d H' => Wx cl d σ H')
      | none => False) → rSlL X.K u w w3 H3 Q := fun h => by
      cases es : seqOf S3 v with
      | none => rw [es] at h; exact False.elim h
      | some xs =>
        rw [es] at h
        obtain ⟨p, vs, rfl, hp, hr⟩ := seqOf_ok s3 rv es
        exact ⟨p, vs, rfl, SqL.of hp, ok_new_lst s3 (hr.cut w w3) h⟩
    cases v with
    | tup xs =>
      obtain ⟨p, vs, rfl, ht, hr⟩ := id rv
      refine .inr ⟨p, vs, rfl, by rw [hX.K]; exact ht.sq, fun q => ?_, fun _ => ok_new_tup s3 (hr.cut w w3) h3⟩
      have e : cut xs w w3 = xs := by
        unfold cut
        rw [bnd_eq, bnd_eq, ← hr.length, q.1, q.2, List.drop_zero, hr.length, Nat.sub_zero, List.take_length]
      have h3 : OkF x.g fr m3 H3 (.ok (.tup (cut xs w w3)) S3) Q (fun cl d H' => Wx cl d σ H') := h3
      rw [e] at h3
      exact ok_val s3 rv (.inr fun _ q => by cases q) h3
    | lst xs => exact .inl (lists h3)
    | loc n =>
      refine .inl (lists ?_)
      cases es : seqOf S3 (.loc n) with
      | none => simp only [es] at h3; exact h3.no.elim
      | some xs => simp only [es] at h3; exact h3
    | _ => exact h3.no.elim
theorem isM1_eq {s : Expr} (h : isM1 s = true) : ∃ kk p1 p2, s = .UnaryOp .USub (.Constant (.int 1) kk p1) p2 := by
  cases s <;> first | cases h | skip
  rename_i op e p2
  obtain ⟨h1, h2⟩ := and_t h
  cases op <;> first | cases h1 | skip
  cases e <;> first | cases h2 | skip
  rename_i q kk p1
  cases q <;> first | cases h2 | skip
  cases of_decide_eq_true h2
  exact ⟨kk, p1, p2, rfl⟩
theorem s_slrev {a : E} (ha : SE x a) : SEF x (.slrev a) := fun fr c y hc X Wx hX σp S σ H m Q hE hS h => by
  cases y <;> first | cases hc | skip
  rename_i a' sl pos
  cases sl <;> first | cases hc | skip
  rename_i lo hi st p3
  cases lo with
  | some _ => cases hc
  | none =>
  cases hi with
  | some _ => cases hc
  | none =>
  cases st with
  | none => cases hc
  | some s =>
    obtain ⟨g1, hc⟩ := and_t hc
    obtain ⟨kk, p1, p2, rfl⟩ := isM1_eq g1
    refine W.of (pe_revL pe_W) ?_
    refine ha c _ hc X Wx hX σp S σ H m _ hE hS (OkF.fst h fun v S1 m1 H1 u e1 f1 s1 r1 h1 => ?_)
    cases q : seqOf S1 v with
    | none => simp only [q] at h1; exact (OkF.no h1).elim
    | some xs =>
      simp only [q] at h1
      obtain ⟨a, vs, rfl, h0, hr⟩ := seqOf_ok s1 r1 q
      exact ⟨a, vs, rfl, .inl (.inl h0), ok_new_lst s1 hr.reverse h1⟩
theorem s_tup {es : List E} (hes : SEs x es) : SE x (.tup es) := fun c y hc X Wx hX σp S σ H m Q hE hS h => by
  cases y <;> first | cases hc | skip
  refine W.of (pe_tup pa_W) ?_
  refine hes c _ hc X Wx hX σp S σ H m _ hE hS (OkX.fst h fun vs S1 m1 H1 us e1 f1 s1 r1 h1 => ?_)
  cases hl : decide (vs.length ≤ LIM) with
  | true =>
    simp only [hl] at h1
    exact ⟨by rw [r1.length]; exact LIM_line (of_decide_eq_true hl), e_new_tup s1 r1 h1⟩
  | false => simp only [hl] at h1; exact False.elim h1
theorem s_lst {es : List E} (hes : SEs x es) : SEF x (.lst es) := fun fr c y hc X Wx hX σp S σ H m Q hE hS h => by
  cases y <;> first | cases hc | skip
  refine W.of (pe_lst pa_W) ?_
  refine hes c _ hc X Wx hX σp S σ H m _ hE hS (OkF.fst h fun vs S1 m1 H1 us e1 f1 s1 r1 h1 => ?_)
  cases hl : decide (vs.length ≤ LIM) with
  | true =>
    simp only [hl] at h1
    exact ⟨by rw [r1.length]; exact LIM_line (of_decide_eq_true hl), ok_new_lst s1 r1 h1⟩
  | false => simp only [hl] at h1; exact h1.no.elim
/-! ### stores -/
theorem SR.write {g : Glo} {m : Mem} {S : Store} {H : Hp} (hS : SR g m S H) {n : Nat} {a : Addr} (ha : m.l[n]? = some a) {ys : List PV} {ws : List V} (r : Reps g m H ys ws) (hc : cleans ys = true) :
    Fut m H m (upd H a (.lst ws)) ∧ SR g m (S.set n (.l ys)) (upd H a (.lst ws)) := by
  have hm : a ∈ m := Mem.live ha
  have hml : a ∈ m.l := List.mem_of_getElem? ha
  have f : Fut m H m (upd H a (.lst ws)) := ⟨⟨⟨[], by simp⟩, fun b o e hb => by rw [upd_ne (fun z => hb (by rw [z]; exact hm))]; exact e, fun _ h => .inl h⟩, rfl, fun b hb => upd_ne fun z => hS.ap a hml (by rw [← z]; exact hb)⟩
  refine ⟨f, by rw [List.length_set]; exact hS.len, hS.nd, fun i o b e1 e2 => ?_, hS.ap, fun b hb => ?_⟩
  case refine_2 =>
    obtain ⟨o, e⟩ := hS.hi b hb
    exact ⟨o, by rw [upd_ne (fun z => hS.ap a hml (by rw [← z]; exact hb))]; exact e⟩
  by_cases hi : n = i
  · subst hi
    have hb : b = a := by rw [ha] at e2; exact (Option.some.inj e2).symm
    subst hb
    have hl : n < S.length := by rw [← hS.len]; exact (List.getElem?_eq_some_iff.mp ha).1
    rw [List.getElem?_set_self hl] at e1
    cases e1
    exact ⟨ws, upd_same, r.fut f, hc⟩
  · rw [List.getElem?_set_ne hi] at e1
    have q := hS.at_ i o b e1 e2
    have hb : b ≠ a := fun z => by
      subst z
      exact hi ((List.getElem_inj hS.nd).mp ((List.getElem?_eq_some_iff.mp ha).2.trans (List.getElem?_eq_some_iff.mp e2).2.symm))
    cases o with
    | l xs =>
      obtain ⟨vs, h1, h2, h3⟩ := q
      exact ⟨vs, by rw [upd_ne hb]; exact h1, h2.fut f, h3⟩
    | d kvs => exact False.elim q
theorem live_ok {g : Glo} {m : Mem} {S : Store} {H : Hp} (hS : SR g m S H) {n : Nat} {xs : List PV} {u : V} (r : Rep g m H (.loc n) u) (e : S[n]? = some (.l xs)) : ∃ a vs, u = .ref a ∧ m.l[n]? = some a ∧ H a = some (.lst vs) ∧ Reps g m H xs vs ∧ cleans xs = true := by
  obtain ⟨a, e1, e2⟩ := r
  obtain ⟨vs, h1, h2, h3⟩ := hS.at_ n _ a e e2
  exact ⟨a, vs, e1, e2, h1, h2, h3⟩
theorem cleans_append : ∀ {xs ys : List PV}, cleans xs = true → cleans ys = true → cleans (xs ++ ys) = true
  | [], _, _, h => h
  | x :: xs, ys, h, k => by
    obtain ⟨h1, h2⟩ := and_t h
    show (x.clean && cleans (xs ++ ys)) = true
    rw [h1, cleans_append h2 k]; rfl
theorem cleans_mem {xs : List PV} (h : cleans xs = true) {x : PV} (hx : x ∈ xs) : x.clean = true := by
  induction xs with
  | nil => cases hx
  | cons y ys ih =>
    obtain ⟨h1, h2⟩ := and_t h
    rcases List.mem_cons.mp hx with e | hx
    · rw [e]; exact h1
    · exact ih h2 hx
theorem cleans_of {xs : List PV} (h : ∀ x ∈ xs, x.clean = true) : cleans xs = true := by
  induction xs with
  | nil => rfl
  | cons y ys ih =>
    show (y.clean && cleans ys) = true
    rw [h y List.mem_cons_self, ih fun x hx => h x (List.mem_cons_of_mem _ hx)]; rfl
theorem cleans_sub {xs ys : List PV} (h : cleans xs = true) (k : ∀ y ∈ ys, y ∈ xs) : cleans ys = true := cleans_of fun y hy => cleans_mem h (k y hy)
theorem meth_ok {X : Cx} {g : Glo} {m : Mem} {S : Store} {H : Hp} {mt : Mth} {r : PV} {u : V} {vs : List PV} {us : List V} {Q : VK} {E : XK} (hK : X.K = g.K) (hS : SR g m S H) (rr : Rep g m H r u) (rv : Reps g m H vs us)
    {v : PV} {S' : Store} (e : methf mt r vs S = some (v, S')) (h : OkE g m H (.ok v S') Q E) :
    (mt = .append ∧ rAppend u us H Q) ∨ (mt = .extend ∧ rExtend u us H Q) ∨ (mt = .pop ∧ us = [] ∧ rPop u us H Q) ∨ (mt = .pop ∧ us ≠ [] ∧ rPopAt u us H Q) := by
  cases mt with
  | append =>
    cases r <;> first | cases e | skip
    rename_i n
    match vs, rv, e with
    | [w], rv, e =>
      cases q : S[n]? with
      | none => simp [methf, q] at e
      | some o =>
        cases o with
        | d _ => simp [methf, q] at e
        | l xs =>
          simp only [methf, q] at e
          obtain ⟨g1, g2⟩ := guardO_some e
          obtain ⟨g1, g3⟩ := and_t g1
          cases g2
          obtain ⟨a, vs, rfl, ha, hH, hr, hcl⟩ := live_ok hS rr q
          obtain ⟨u1, rfl, r1⟩ := rv.one
          obtain ⟨f, s⟩ := hS.write ha (hr.append (Reps.cons r1 Reps.nil)) (cleans_append hcl (by show (w.clean && true) = true; rw [g1]; rfl))
          exact .inl ⟨rfl, a, vs, u1, rfl, rfl, hH, by rw [hr.length]; exact LIM_lt (of_decide_eq_true g3), h .non _ m f s rfl⟩
    | [], _, e => cases e
    | _ :: _ :: _, _, e => cases e
  | extend =>
    cases r <;> first | cases e | skip
    rename_i n
    match vs, rv, e with
    | [w], rv, e =>
      cases q : S[n]? with
      | none => simp [methf, q] at e
      | some o =>
        cases o with
        | d _ => simp [methf, q] at e
        | l xs =>
          cases q2 : seqOf S w with
          | none => simp [methf, q, q2] at e
          | some ys =>
            simp only [methf, q, q2] at e
            obtain ⟨g1, g2⟩ := guardO_some e
            obtain ⟨g1, g3⟩ := and_t g1
            cases g2
            obtain ⟨a, vs, rfl, ha, hH, hr, hcl⟩ := live_ok hS rr q
            obtain ⟨u1, rfl, r1⟩ := rv.one
            obtain ⟨b, ws, rfl, hb, hrb⟩ := seqOf_ok hS r1 q2
            obtain ⟨f, s⟩ := hS.write ha (hr.append hrb) (cleans_append hcl g1)
            exact .inr (.inl ⟨rfl, a, b, vs, ws, rfl, rfl, hH, hb, by rw [hr.length, hrb.length]; exact LIM_line (of_decide_eq_true g3), h .non _ m f s rfl⟩)
    | [], _, e => cases e
    | _ :: _ :: _, _, e => cases e
  | pop =>
    cases r <;> first | cases e | skip
    rename_i n
    match vs, rv, e with
    | [], rv, e =>
      cases q : S[n]? with
      | none => simp [methf, q] at e
      | some o =>
        cases o with
        | d _ => simp [methf, q] at e
        | l xs =>
          cases q2 : xs[xs.length - 1]? with
          | none => simp [methf, q, q2] at e
          | some y =>
            simp only [methf, q, q2] at e
            cases e
            obtain ⟨a, vs, rfl, ha, hH, hr, hcl⟩ := live_ok hS rr q
            obtain ⟨w, hw, rw'⟩ := hr.get q2
            have hdl : Reps g m H xs.dropLast vs.dropLast := by
              rw [List.dropLast_eq_take, List.dropLast_eq_take, hr.length]
              exact hr.take _
            obtain ⟨f, s⟩ := hS.write ha hdl (cleans_sub hcl fun y hy => List.dropLast_subset _ hy)
            have hus : us = [] := rv
            subst hus
            exact .inr (.inr (.inl ⟨rfl, rfl, a, vs, w, rfl, rfl, hH, by rw [hr.length]; exact hw, h w _ m f s (rw'.fut f)⟩))
    | [.int i], rv, e =>
      cases q : S[n]? with
      | none => simp [methf, q] at e
      | some o =>
        cases o with
        | d _ => simp [methf, q] at e
        | l xs =>
          cases q2 : at_ xs.length i with
          | none => simp [methf, q, q2] at e
          | some j =>
            cases q3 : xs[j]? with
            | none => simp [methf, q, q2, q3] at e
            | some y =>
              simp only [methf, q, q2, q3] at e
              obtain ⟨g1, g2⟩ := guardO_some e
              obtain ⟨g1, g3⟩ := and_t g1
              have g1 := of_decide_eq_true g1
              have g3 := of_decide_eq_true g3
              cases g2
              obtain ⟨a, vs, rfl, ha, hH, hr, hcl⟩ := live_ok hS rr q
              obtain ⟨w, hw, rw'⟩ := hr.get q3
              obtain ⟨u1, rfl, r1⟩ := rv.one
              cases r1
              rw [at_ix] at q2
              obtain ⟨b1, b2, b3, b4⟩ := ixN_seq q2
              obtain ⟨f, s⟩ := hS.write ha (hr.erase j) (cleans_sub hcl fun y hy => List.mem_of_mem_eraseIdx hy)
              exact .inr (.inr (.inr ⟨rfl, by simp, a, vs, i, j, w, rfl, rfl, hH, by omega, by omega, by rw [hr.length]; exact b1, hw, h w _ m f s (rw'.fut f)⟩))
    | [.non], _, e | [.bl _], _, e | [.str _], _, e | [.tup _], _, e | [.lst _], _, e | [.dic _], _, e | [.loc _], _, e | [.fn _], _, e | [.ty _], _, e | [.cls _], _, e | [.scr _], _, e => cases e
    | a :: _ :: _, _, e => cases a <;> cases e
  | _ => cases r <;> cases e
end
end Zv

end
section
set_option Elab.async false
set_option linter.all false
set_option maxRecDepth 100000
set_option maxHeartbeats 4000000
/-! Z10: methods, tests, targets, walks, comprehensions. -/
namespace Zv
open PySem PySem.Spec PyProof.Rows L2

section
variable {x : Gx}
theorem recv_base {r' : Expr} {n : Str} {env : PySem.Env} (h : recvB r' = true) : attributeBase r' n env (eval r' env) = eval r' env := by
  cases r' <;> first | rfl | cases h
theorem W.mono {X : Cx} {e : Expr} {σ : L2.St} {H : Hp} {Q Q' : VK} (h : W X e σ H Q) (k : ∀ v H', Q v H' → Q' v H') : W X e σ H Q' := fun pins s I =>
  thn (h pins s I) fun u s' ⟨v, H', I', r, q⟩ => ⟨v, H', I', r, k v H' q⟩
theorem WA.mono {X : Cx} {es : List Expr} {σ : L2.St} {H : Hp} {Q Q' : List V → Hp → Prop} (h : WA X es σ H Q) (k : ∀ v H', Q v H' → Q' v H') : WA X es σ H Q' := fun pos pins s I =>
  thn (h pos pins s I) fun u s' ⟨v, H', I', r, q⟩ => ⟨v, H', I', r, k v H' q⟩
theorem chkEs_len {k : Nms} {c : SCx} : ∀ {es : List E} {ys : List Expr}, chkEs k c es ys = true → es.length = ys.length
  | [], [], _ => rfl
  | [], _ :: _, h => by cases h
  | _ :: _, [], h => by cases h
  | e :: es, y :: ys, h => by
    obtain ⟨_, h2⟩ := and_t h
    obtain ⟨_, h3⟩ := and_t h2
    rw [List.length_cons, List.length_cons, chkEs_len h3]
theorem evs_len {call : Nat → List PV → Store → Out PV} {gl : Nat → Option PV} : ∀ {es : List E} {σ : Env} {S S1 : Store} {vs : List PV}, evs call gl es σ S = .ok vs S1 → vs.length = es.length
  | [], σ, S, S1, vs, h => by cases h; rfl
  | e :: es, σ, S, S1, vs, h => by
    unfold evs at h
    cases q1 : ev call gl e σ S with
    | ok z S' =>
      rw [q1] at h
      cases q2 : evs call gl es σ S' with
      | ok zs S'' =>
        simp only [Out.bind, q2] at h
        cases h
        rw [List.length_cons, List.length_cons, evs_len q2]
      | exc _ _ => simp only [Out.bind, q2] at h; cases h
      | stuck => simp only [Out.bind, q2] at h; cases h
    | exc _ _ => rw [q1] at h; cases h
    | stuck => rw [q1] at h; cases h
theorem s_meth {mt : Mth} {r : E} {es : List E} (hr : SE x r) (hes : SEs x es) : SE x (.meth mt r es) := fun c y hc X Wx hX σp S σ H m Q hE hS h => by
  cases y <;> first | cases hc | skip
  rename_i fe ys kws pos
  cases fe <;> first | cases hc | skip
  rename_i r' n apos
  cases kws with
  | cons _ _ => cases hc
  | nil =>
    obtain ⟨h0, k1⟩ := and_t hc
    obtain ⟨h1, k2⟩ := and_t k1
    obtain ⟨h2, k3⟩ := and_t k2
    obtain ⟨h3, k4⟩ := and_t k3
    obtain ⟨h4, h5⟩ := and_t k4
    have en := of_decide_eq_true h1
    have el := of_decide_eq_true h3
    subst en
    have line : (apos.endLine == pos.line) = true := by rw [el]; simp
    have hlen := chkEs_len h5
    have core : ∀ (rd : V → List V → Hp → VK → Prop), (∀ (v : PV) (vs : List PV) (u : V) (us : List V) (S2 : Store) (m2 : Mem) (H2 : Hp) (w : PV) (S3 : Store), SR x.g m2 S2 H2 → Rep x.g m2 H2 v u → Reps x.g m2 H2 vs us → us.length = es.length → methf mt v vs S2 = some (w, S3) →
        OkE x.g m2 H2 (.ok w S3) Q (fun cl d H' => Wx cl d σ H') → rd u us H2 Q) → W X r' σ H (fun xv H1 => tyV X.K "list" xv H1 ∧ WA X ys σ H1 fun us H2 => rd xv us H2 Q) := fun rd hrd => by
      refine hr c _ h4 X Wx hX σp S σ H m _ hE hS (OkX.fst h fun v S1 m1 H1 u e1 f1 s1 r1 h1 => ?_)
      cases hro : recvOk mt v with
      | false => simp only [hro] at h1; exact False.elim h1
      | true =>
        simp only [hro] at h1
        refine ⟨?_, ?_⟩
        · cases mt <;> cases v <;> first | cases hro | skip
          all_goals
            obtain ⟨a, rfl, ha⟩ := r1
            obtain ⟨vs, hv⟩ := s1.mem (List.mem_of_getElem? ha)
            exact .inl ⟨rfl, vs, SqL.of hv⟩
        · refine hes c _ h5 X Wx hX σp S1 σ H1 m1 _ (hE.fut f1) s1 (OkX.fst h1 fun vs S2 m2 H2 us e2 f2 s2 r2 h2 => ?_)
          cases hme : methf mt v vs S2 with
          | none => simp only [hme] at h2; exact False.elim h2
          | some p =>
            obtain ⟨w, S3⟩ := p
            simp only [hme] at h2
            exact hrd v vs u us S2 m2 H2 w S3 s2 (r1.fut f2) r2 (by rw [r2.length]; exact evs_len e2) hme h2
    match ys, es, hlen, h0, h5, core with
    | [], [], _, h0, _, core =>
      cases mt <;> first | cases h0 | skip
      refine W.of (pe_bm0 PySem.F.plainAttrs_list PySem.F.slot_list_pop PySem.F.type_list_pop mt_pop pe_W (recv_base h2) line) ?_
      refine hr c _ h4 X Wx hX σp S σ H m _ hE hS (OkX.fst h fun v S1 m1 H1 u e1 f1 s1 r1 h1 => ?_)
      cases hro : recvOk .pop v with
      | false => simp only [hro] at h1; exact False.elim h1
      | true =>
        simp only [hro] at h1
        cases v <;> first | cases hro | skip
        rename_i n
        refine ⟨?_, ?_⟩
        · obtain ⟨a, rfl, ha⟩ := r1
          obtain ⟨vs, hv⟩ := s1.mem (List.mem_of_getElem? ha)
          exact .inl ⟨rfl, vs, SqL.of hv⟩
        · have h1 : OkE x.g m1 H1 (match methf .pop (.loc n) [] S1 with
            | some (v, S3) => .ok v S3
            | none => .stuck) Q (fun cl d H' => Wx cl d σ H') := h1
          cases hme : methf .pop (.loc n) [] S1 with
          | none => simp only [hme] at h1; exact False.elim h1
          | some p =>
            obtain ⟨w, S3⟩ := p
            simp only [hme] at h1
            rcases meth_ok hX.K s1 r1 Reps.nil hme h1 with ⟨e, _⟩ | ⟨e, _⟩ | ⟨_, _, z⟩ | ⟨_, ne, _⟩
            · cases e
            · cases e
            · exact z
            · exact absurd rfl ne
    | [y0], [e0], _, h0, h5, core =>
      obtain ⟨k1, k2⟩ := and_t h5
      have hst : starEach [y0] X.env = [(false, eval y0 X.env)] := nst_star k1
      have hfew : ((backTo pos (starEach [y0] X.env)).all (fun x => !x.1) && (backToKw pos (keywordEach [] X.env)).all (fun x => x.1.isSome)
        && decide ([y0].length + ([] : List Keyword).length + (if ([] : List Keyword).isEmpty then 0 else 1) < 30)) = true := by
        rw [hst]; rfl
      cases mt <;> first | cases h0 | skip
      · have q := core rAppend fun v vs u us S2 m2 H2 w S3 s2 r1 r2 hl hme h2 => by
          rcases meth_ok hX.K s2 r1 r2 hme h2 with ⟨_, z⟩ | ⟨e, _⟩ | ⟨e, _⟩ | ⟨e, _⟩
          · exact z
          · cases e
          · cases e
          · cases e
        exact W.of (pe_bm PySem.F.plainAttrs_list PySem.F.slot_list_append PySem.F.type_list_append mt_append pe_W pa_W (recv_base h2) hfew line hst rfl) q
      · have q := core rExtend fun v vs u us S2 m2 H2 w S3 s2 r1 r2 hl hme h2 => by
          rcases meth_ok hX.K s2 r1 r2 hme h2 with ⟨e, _⟩ | ⟨_, z⟩ | ⟨e, _⟩ | ⟨e, _⟩
          · cases e
          · exact z
          · cases e
          · cases e
        exact W.of (pe_bm PySem.F.plainAttrs_list PySem.F.slot_list_extend PySem.F.type_list_extend mt_extend pe_W pa_W (recv_base h2) hfew line hst rfl) q
      · have q := core rPopAt fun v vs u us S2 m2 H2 w S3 s2 r1 r2 hl hme h2 => by
          rcases meth_ok hX.K s2 r1 r2 hme h2 with ⟨e, _⟩ | ⟨e, _⟩ | ⟨_, e, _⟩ | ⟨_, ne, z⟩
          · cases e
          · cases e
          · rw [e] at hl; cases hl
          · exact z
        exact W.of (pe_bm PySem.F.plainAttrs_list PySem.F.slot_list_pop PySem.F.type_list_pop mt_popAt pe_W pa_W (recv_base h2) hfew line hst rfl) q
    | [], _ :: _, h, _, _, _ => cases h
    | _ :: _, [], h, _, _, _ => cases h
    | _ :: _ :: _, [_], h, _, _, _ => cases h
    | [_], _ :: _ :: _, h, _, _, _ => cases h
    | _ :: _ :: _, _ :: _ :: _, _, h0, _, _ => cases mt <;> cases h0
theorem s_ife {d a b : E} (hd : SB x d) (ha : SE x a) (hb : SE x b) : SE x (.ife d a b) := fun c y hc X Wx hX σp S σ H m Q hE hS h => by
  cases y <;> first | cases hc | skip
  obtain ⟨h1, k2⟩ := and_t hc
  obtain ⟨h2, h3⟩ := and_t k2
  refine W.of (pe_ifExp pt_W pe_W pe_W) ?_
  refine hd c _ h1 X Wx hX σp S σ H m _ hE hS ?_
  have h : OkE x.g m H ((EV x d σp S).bind fun v S1 => match truth v with
    | some true => EV x a σp S1
    | some false => EV x b σp S1
    | none => .stuck) Q (fun cl d H' => Wx cl d σ H') := h
  cases e : EV x d σp S with
  | ok v S1 =>
    rw [e] at h
    simp only [Out.bind] at h ⊢
    cases et : truth v with
    | none => simp only [et] at h; exact False.elim h
    | some k =>
      simp only [et]
      intro k' H1 m1 f1 s1 r1
      have r1 : truth v = some k' := r1
      rw [et] at r1
      cases r1
      cases k with
      | true =>
        simp only [et] at h
        rw [if_pos rfl]
        exact ha c _ h2 X Wx hX σp S1 σ H1 m1 _ (hE.fut f1) s1 (OkX.step f1 h)
      | false =>
        simp only [et] at h
        rw [if_neg Bool.false_ne_true]
        exact hb c _ h3 X Wx hX σp S1 σ H1 m1 _ (hE.fut f1) s1 (OkX.step f1 h)
  | exc cl S1 => rw [e] at h; exact h
  | stuck => rw [e] at h; exact h

/-! ### tests -/
def isT : Expr → Bool
  | .BoolOp .. => true
  | .UnaryOp .Not _ _ => true
  | .Compare .. => true
  | .IfExp .. => true
  | _ => false
theorem plain_test {y : Expr} (h : isT y = false) (env : PySem.Env) (whole : Sem Value) : isTrue y env whole = (do let v ← whole; standAt y.pos; holding [v] (truthy v)) := by
  cases y <;> first | rfl | cases h | skip
  rename_i op a pos
  cases op <;> first | rfl | cases h
/-- a plain text as a test -/
theorem b_plain {e : E} (he : SE x e) (hp : ∀ (c : SCx) (y : Expr), chkE x.k c e y = true → isT y = false) : SB x e := fun c y hc X Wx hX σp S σ H m Q hE hS h => by
  refine WT.of (pt_truth pe_W (plain_test (hp c y hc) X.env)) ?_
  refine he c _ hc X Wx hX σp S σ H m _ hE hS (OkX.fst h fun v S1 m1 H1 u e1 f1 s1 r1 h1 => ?_)
  cases et : truth v with
  | none => simp only [et] at h1; exact False.elim h1
  | some k =>
    simp only [et] at h1
    exact ⟨k, truth_ok r1 et _, h1 k H1 m1 (Fut.refl _ _) s1 et⟩
theorem b_not {a : E} (ha : SB x a) : SB x (.not a) := fun c y hc X Wx hX σp S σ H m Q hE hS h => by
  cases y <;> first | cases hc | skip
  rename_i op a' pos
  cases op <;> first | cases hc | skip
  refine WT.of (pt_not pt_W) ?_
  refine ha c _ hc X Wx hX σp S σ H m _ hE hS ?_
  have h : OkX x.g TrR m H (((EV x a σp S).bind fun x S1 => match truth x with
    | some b => .ok (.bl (!b)) S1
    | none => .stuck).bind fun v S1 => match truth v with
      | some _ => .ok v S1
      | none => .stuck) Q (fun cl d H' => Wx cl d σ H') := h
  cases e : EV x a σp S with
  | ok v S1 =>
    rw [e] at h
    simp only [Out.bind] at h ⊢
    cases et : truth v with
    | none => simp only [et] at h; exact False.elim h
    | some k =>
      simp only [et] at h ⊢
      intro k' H1 m1 f1 s1 r1
      have r1 : truth v = some k' := r1
      rw [et] at r1
      cases r1
      exact h (!k) H1 m1 f1 s1 rfl
  | exc cl S1 => rw [e] at h; exact h
  | stuck => rw [e] at h; exact h
theorem cmp_tst {g : Glo} {X : Cx} {m : Mem} {S : Store} {H : Hp} {v w : PV} {u u2 : V} {Q : Bool → Hp → Prop} {E : XK} {op : CmpOp} (hK : X.K = g.K) (hu : X.A.units + 65 < cLine) (hS : SR g m S H) (r1 : Rep g m H v u) (r2 : Rep g m H w u2)
    (h : OkX g TrR m H ((ofO S ((cmpop op v w S).map .bl)).bind fun v S1 => match truth v with
      | some _ => .ok v S1
      | none => .stuck) Q E) : WR X (compareOp op) u u2 H (fun z H' => ∃ k, z = .bl k ∧ Q k H') := by
  cases e : cmpop op v w S with
  | none => rw [e] at h; exact False.elim h
  | some b => rw [e] at h; exact cmp_ok hK hu hS r1 r2 e ⟨b, rfl, h b H m (Fut.refl _ _) hS rfl⟩
theorem bind_assoc' {α β γ : Type} (o : Out α) (f : α → Store → Out β) (k : β → Store → Out γ) : (o.bind f).bind k = o.bind fun a S => (f a S).bind k := by cases o <;> rfl
theorem b_cmp {op : CmpOp} {a b : E} (ha : SE x a) (hb : SE x b) : SB x (.cmp op a b) := fun c y hc X Wx hX σp S σ H m Q hE hS h => by
  cases y <;> first | cases hc | skip
  rename_i a' ops bs pos
  match ops, bs, hc with
  | [op'], [b'], hc =>
    obtain ⟨h1, h2⟩ := and_t hc
    obtain ⟨h2, h3⟩ := and_t h2
    obtain ⟨h3, h4⟩ := and_t h3
    cases of_decide_eq_true h1
    have h : OkX x.g TrR m H (((EV x a σp S).bind fun x1 S1 => (EV x b σp S1).bind fun y S2 => ofO S2 ((cmpop op x1 y S2).map .bl)).bind fun v S1 => match truth v with
      | some _ => .ok v S1
      | none => .stuck) Q (fun cl d H' => Wx cl d σ H') := h
    rw [bind_assoc'] at h
    refine WT.of (pt_cmpR opr_W pe_W pe_W (by simpa using h2)) ?_
    refine ha c _ h3 X Wx hX σp S σ H m _ hE hS (OkX.fst h fun v S1 m1 H1 u e1 f1 s1 r1 h1 => ?_)
    rw [bind_assoc'] at h1
    refine hb c _ h4 X Wx hX σp S1 σ H1 m1 _ (hE.fut f1) s1 (OkX.fst h1 fun w S2 m2 H2 u2 e2 f2 s2 r2 h2 => ?_)
    exact cmp_tst hX.K hX.units s2 (r1.fut f2) r2 h2
theorem b_chain {op op2 : CmpOp} {a b d : E} (ha : SE x a) (hb : SE x b) (hd : SE x d) : SB x (.chain op op2 a b d) := fun c y hc X Wx hX σp S σ H m Q hE hS h => by
  cases y <;> first | cases hc | skip
  rename_i a' ops bs pos
  match ops, bs, hc with
  | [o1, o2], [b', d'], hc =>
    obtain ⟨h1, h2⟩ := and_t hc
    obtain ⟨h2, h3⟩ := and_t h2
    obtain ⟨h3, h4⟩ := and_t h3
    obtain ⟨h4, h5⟩ := and_t h4
    obtain ⟨h5, h6⟩ := and_t h5
    cases of_decide_eq_true h1
    cases of_decide_eq_true h2
    have h : OkX x.g TrR m H (((EV x a σp S).bind fun x1 S1 => (EV x b σp S1).bind fun y S2 => match cmpop op x1 y S2 with
      | some true => (EV x d σp S2).bind fun z S3 => ofO S3 ((cmpop op2 y z S3).map .bl)
      | some false => .ok (.bl false) S2
      | none => .stuck).bind fun v S1 => match truth v with
      | some _ => .ok v S1
      | none => .stuck) Q (fun cl d H' => Wx cl d σ H') := h
    rw [bind_assoc'] at h
    refine WT.of (pt_chain opr_W opr_W pe_W pe_W pe_W (by simpa using h3)) ?_
    refine ha c _ h4 X Wx hX σp S σ H m _ hE hS (OkX.fst h fun v S1 m1 H1 u e1 f1 s1 r1 h1 => ?_)
    rw [bind_assoc'] at h1
    refine hb c _ h5 X Wx hX σp S1 σ H1 m1 _ (hE.fut f1) s1 (OkX.fst h1 fun w S2 m2 H2 u2 e2 f2 s2 r2 h2 => ?_)
    cases e : cmpop op v w S2 with
    | none => simp only [e] at h2; exact False.elim h2
    | some k =>
      refine cmp_ok hX.K hX.units s2 (r1.fut f2) r2 e ?_
      cases k with
      | true =>
        simp only [e] at h2
        rw [bind_assoc'] at h2
        refine ⟨true, rfl, ?_⟩
        rw [if_pos rfl]
        refine hd c _ h6 X Wx hX σp S2 σ H2 m2 _ ((hE.fut f1).fut f2) s2 (OkX.fst h2 fun z S3 m3 H3 u3 e3 f3 s3 r3 h3 => ?_)
        exact cmp_tst hX.K hX.units s3 (r2.fut f3) r3 h3
      | false =>
        simp only [e] at h2
        refine ⟨false, rfl, ?_⟩
        rw [if_neg Bool.false_ne_true]
        exact ⟨false, rfl, h2 false H2 m2 (Fut.refl _ _) s2 rfl⟩
end
end Zv

end
section
set_option Elab.async false
set_option linter.all false
set_option maxRecDepth 100000
set_option maxHeartbeats 4000000
/-! Z11: and, or as tests; targets; walks; comprehensions. -/
namespace Zv
open PySem PySem.Spec PyProof.Rows L2

section
variable {x : Gx}
def WW (X : Cx) (e : Expr) : TT := fun σ H Q => ∀ (whole : Sem Value) (pins : List (Addr × Obj)) (s : Shared), Inv X pins σ H s → wpAny (model X.prog X.w) X.A (isTrue e X.env whole) (TP X pins σ Q) X.xe s
theorem pw_W {X : Cx} {e : Expr} : PW X e (WW X e) := ⟨fun wh pins s _ _ _ I h => h wh pins s I⟩
theorem WW.of {X : Cx} {e : Expr} {t : TT} {σ : L2.St} {H : Hp} {Q : Bool → Hp → Prop} (h : PW X e t) (q : t σ H Q) : WW X e σ H Q := fun wh pins s I => h.run wh pins s σ H Q I q
variable (x) in
def SBW (e : E) : Prop := ∀ (c : SCx) (op : BoolOp) (vs : List Expr) (pos : Pos), chkE x.k c e (.BoolOp op vs pos) = true → ∀ (X : Cx) (Wx : WX), XC x c Wx X → ∀ (σp : Env) (S : Store) (σ : L2.St) (H : Hp) (m : Mem) (Q : Bool → Hp → Prop),
  ER x.g m H σp σ → SR x.g m S H → OkX x.g TrR m H ((EV x e σp S).bind fun v S1 => match truth v with
    | some _ => .ok v S1
    | none => .stuck) Q (fun cl d H' => Wx cl d σ H') → WW X (.BoolOp op vs pos) σ H Q
theorem b_of_bw {e : E} (h : SBW x e) (hb : ∀ (c : SCx) (y : Expr), chkE x.k c e y = true → ∃ op vs pos, y = .BoolOp op vs pos) : SB x e := fun c y hc X Wx hX σp S σ H m Q hE hS hk => by
  obtain ⟨op, vs, pos, rfl⟩ := hb c y hc
  exact WT.of (PW.pt pw_W) (h c op vs pos hc X Wx hX σp S σ H m Q hE hS hk)
/-- the truth of a part, then the rest -/
theorem tr_fst {g : Glo} {m : Mem} {H : Hp} {o : Out PV} {f : PV → Store → Out PV} {Q : Bool → Hp → Prop} {Q' : Bool → Hp → Prop} {E : XK}
    (h : OkX g TrR m H ((o.bind f).bind fun v S1 => match truth v with
      | some _ => .ok v S1
      | none => .stuck) Q E) (hf : ∀ v S1, truth v = none → f v S1 = .stuck)
    (k : ∀ (v : PV) (b : Bool) (S1 : Store) (m1 : Mem) (H1 : Hp), truth v = some b → Fut m H m1 H1 → SR g m1 S1 H1 → OkX g TrR m1 H1 ((f v S1).bind fun v S1 => match truth v with
      | some _ => .ok v S1
      | none => .stuck) Q E → Q' b H1) : OkX g TrR m H (o.bind fun v S1 => match truth v with
      | some _ => .ok v S1
      | none => .stuck) Q' E := by
  cases o with
  | ok v S1 =>
    simp only [Out.bind] at h ⊢
    cases et : truth v with
    | none => rw [hf v S1 et] at h; exact False.elim h
    | some b =>
      simp only [et]
      intro b' H1 m1 f1 s1 r1
      have r1 : truth v = some b' := r1
      rw [et] at r1
      cases r1
      exact k v b S1 m1 H1 et f1 s1 (OkX.step f1 h)
  | exc cl S1 => exact h
  | stuck => exact h
theorem bw_and {a b : E} (ha : SB x a) (hb : SB x b) (hw : SBW x b) : SBW x (.and a b) := fun c op vs pos hc X Wx hX σp S σ H m Q hE hS h => by
  cases op <;> first | cases hc | skip
  have h : OkX x.g TrR m H (((EV x a σp S).bind fun x1 S1 => match truth x1 with
    | some true => EV x b σp S1
    | some false => .ok x1 S1
    | none => .stuck).bind fun v S1 => match truth v with
      | some _ => .ok v S1
      | none => .stuck) Q (fun cl d H' => Wx cl d σ H') := h
  have go : ∀ (a' b' : Expr) (rest : List Expr), chkE x.k c a a' = true → (∀ σp S σ H m Q, ER x.g m H σp σ → SR x.g m S H → OkX x.g TrR m H ((EV x b σp S).bind fun v S1 => match truth v with
      | some _ => .ok v S1
      | none => .stuck) Q (fun cl d H' => Wx cl d σ H') → WW X (.BoolOp .And (b' :: rest) pos) σ H Q) →
      WW X (.BoolOp .And (a' :: b' :: rest) pos) σ H Q := fun a' b' rest h2 kb => by
    refine WW.of (pw_and pt_W pw_W) ?_
    refine ha c _ h2 X Wx hX σp S σ H m _ hE hS (tr_fst h (fun v S1 et => by simp only [et]) fun v k S1 m1 H1 et f1 s1 h1 => ?_)
    simp only [et] at h1
    cases k with
    | true =>
      rw [if_pos rfl]
      exact kb σp S1 σ H1 m1 Q (hE.fut f1) s1 h1
    | false =>
      rw [if_neg Bool.false_ne_true]
      simp only [Out.bind, et] at h1
      exact h1 false H1 m1 (Fut.refl _ _) s1 et
  match vs, hc with
  | [a', b'], hc =>
    obtain ⟨h2, h3⟩ := and_t hc
    exact go a' b' [] h2 fun σp S σ H m Q hE hS h => WW.of (pw_and1 pt_W) (hb c b' h3 X Wx hX σp S σ H m Q hE hS h)
  | a' :: b' :: d' :: r, hc =>
    obtain ⟨h2, h3⟩ := and_t hc
    exact go a' b' (d' :: r) h2 fun σp S σ H m Q hE hS h => hw c _ _ _ h3 X Wx hX σp S σ H m Q hE hS h
theorem bw_or {a b : E} (ha : SB x a) (hb : SB x b) (hw : SBW x b) : SBW x (.or a b) := fun c op vs pos hc X Wx hX σp S σ H m Q hE hS h => by
  cases op <;> first | cases hc | skip
  have h : OkX x.g TrR m H (((EV x a σp S).bind fun x1 S1 => match truth x1 with
    | some true => .ok x1 S1
    | some false => EV x b σp S1
    | none => .stuck).bind fun v S1 => match truth v with
      | some _ => .ok v S1
      | none => .stuck) Q (fun cl d H' => Wx cl d σ H') := h
  have go : ∀ (a' b' : Expr) (rest : List Expr), chkE x.k c a a' = true → (∀ σp S σ H m Q, ER x.g m H σp σ → SR x.g m S H → OkX x.g TrR m H ((EV x b σp S).bind fun v S1 => match truth v with
      | some _ => .ok v S1
      | none => .stuck) Q (fun cl d H' => Wx cl d σ H') → WW X (.BoolOp .Or (b' :: rest) pos) σ H Q) →
      WW X (.BoolOp .Or (a' :: b' :: rest) pos) σ H Q := fun a' b' rest h2 kb => by
    refine WW.of (pw_or pt_W pw_W) ?_
    refine ha c _ h2 X Wx hX σp S σ H m _ hE hS (tr_fst h (fun v S1 et => by simp only [et]) fun v k S1 m1 H1 et f1 s1 h1 => ?_)
    simp only [et] at h1
    cases k with
    | true =>
      rw [if_pos rfl]
      simp only [Out.bind, et] at h1
      exact h1 true H1 m1 (Fut.refl _ _) s1 et
    | false =>
      rw [if_neg Bool.false_ne_true]
      exact kb σp S1 σ H1 m1 Q (hE.fut f1) s1 h1
  match vs, hc with
  | [a', b'], hc =>
    obtain ⟨h2, h3⟩ := and_t hc
    exact go a' b' [] h2 fun σp S σ H m Q hE hS h => WW.of (pw_or1 pt_W) (hb c b' h3 X Wx hX σp S σ H m Q hE hS h)
  | a' :: b' :: d' :: r, hc =>
    obtain ⟨h2, h3⟩ := and_t hc
    exact go a' b' (d' :: r) h2 fun σp S σ H m Q hE hS h => hw c _ _ _ h3 X Wx hX σp S σ H m Q hE hS h
theorem b_and {a b : E} (h : SBW x (.and a b)) : SB x (.and a b) := b_of_bw h fun c y hc => by
  cases y <;> first | cases hc | exact ⟨_, _, _, rfl⟩
theorem b_or {a b : E} (h : SBW x (.or a b)) : SB x (.or a b) := b_of_bw h fun c y hc => by
  cases y <;> first | cases hc | exact ⟨_, _, _, rfl⟩

/-! ### targets -/
theorem t_nm (i : Nat) : ST x (.nm i) := fun c y hc X Wx hX σp S σ H m v u Q hE hS r h => by
  cases y <;> first | cases hc | skip
  obtain ⟨h1, h2⟩ := and_t hc
  obtain ⟨l1, l2⟩ := loc_of hX h2
  refine WG.of (pg_name (i := i) hX.nodup (by rw [hX.N]; exact of_decide_eq_true h1) l1 l2) ?_
  exact h (σ.set i (some u)) H m (Fut.refl _ _) hS ⟨hE.set r i, by simp, fun j hj => List.getElem?_set_ne fun e => hj (by rw [e]; exact List.mem_singleton.mpr rfl)⟩
theorem noExc_fst {α β γ δ : Type} {g : Glo} {r : Mem → Hp → α → β → Prop} {r' : Mem → Hp → γ → δ → Prop} {m : Mem} {H : Hp} {o : Out α} {f : α → Store → Out γ} {Q : δ → Hp → Prop} {Q' : β → Hp → Prop} {E E' : XK} (h : OkX g r' m H (noExc (o.bind f)) Q E)
    (k : ∀ (x : α) (S1 : Store) (m1 : Mem) (H1 : Hp) (u : β), o = .ok x S1 → Fut m H m1 H1 → SR g m1 S1 H1 → r m1 H1 x u → OkX g r' m1 H1 (noExc (f x S1)) Q E → Q' u H1) : OkX g r m H o Q' E' := by
  cases o with
  | ok x S1 => exact fun v H' m' f' r' q => k x S1 m' H' v rfl f' r' q (OkX.step f' h)
  | exc x S => exact False.elim h
  | stuck => exact False.elim h
theorem t_sub {a i : E} (ha : SE x a) (hi : SE x i) : ST x (.sub a i) := fun c y hc X Wx hX σp S σ H m v u Q hE hS r h => by
  cases y <;> first | cases hc | skip
  rename_i a' i' pos
  obtain ⟨h1, k2⟩ := and_t hc
  obtain ⟨h2, h3⟩ := and_t k2
  refine WG.of (pg_sub pe_W pe_W set_list (fun v => by cases i' <;> first | rfl | cases h1)) ?_
  refine ha c _ h2 X Wx hX σp S σ H m _ hE hS (noExc_fst h fun v1 S1 m1 H1 u1 e1 f1 s1 r1 h1 => ?_)
  refine hi c _ h3 X Wx hX σp S1 σ H1 m1 _ (hE.fut f1) s1 (noExc_fst h1 fun w S2 m2 H2 u2 e2 f2 s2 r2 h2 => ?_)
  cases v1 <;> first | exact False.elim h2 | skip
  cases w <;> first | exact False.elim h2 | skip
  rename_i n j
  cases q : S2[n]? with
  | none => simp only [q] at h2; exact False.elim h2
  | some o =>
    cases o with
    | d _ => simp only [q] at h2; exact False.elim h2
    | l xs =>
      simp only [q] at h2
      cases ej : at_ xs.length j with
      | none => simp only [ej] at h2; exact False.elim h2
      | some k =>
        simp only [ej] at h2
        cases hv : v.clean with
        | false => simp only [hv] at h2; exact False.elim h2
        | true =>
          simp only [hv] at h2
          obtain ⟨p, vs, rfl, hp, hH, hr, hcl⟩ := live_ok s2 (r1.fut f2) q
          cases r2
          have rv : Rep x.g m2 H2 v u := (r.fut f1).fut f2
          have hcl' : cleans (xs.set k v) = true := cleans_of fun z hz => by
            rcases List.mem_or_eq_of_mem_set hz with e | e
            · exact cleans_mem hcl e
            · rw [e]; exact hv
          obtain ⟨f, s⟩ := s2.write hp (hr.set k rv) hcl'
          refine ⟨p, vs, j, k, rfl, rfl, hH, by rw [← at_ix, hr.length]; exact ej, ?_⟩
          exact h2 σ _ m2 f s ⟨((hE.fut f1).fut f2).fut f, rfl, fun _ _ => rfl⟩
theorem ts_nil : STs x [] := fun c ys hc X Wx hX σp S σ H m vs us Q hE hS r h => by
  cases ys with
  | cons _ _ => cases hc
  | nil =>
    cases vs with
    | cons _ _ => exact False.elim h
    | nil =>
      have r : us = [] := r
      subst r
      exact WGs.of pgs_nil ⟨rfl, h σ H m (Fut.refl _ _) hS ⟨hE, rfl, fun _ _ => rfl⟩⟩
theorem chkTs_len {k : Nms} {c : SCx} : ∀ {ts : List T} {ys : List Expr}, chkTs k c ts ys = true → ts.length = ys.length
  | [], [], _ => rfl
  | [], _ :: _, h => by cases h
  | _ :: _, [], h => by cases h
  | e :: es, y :: ys, h => by
    obtain ⟨_, h2⟩ := and_t h
    obtain ⟨_, h3⟩ := and_t h2
    rw [List.length_cons, List.length_cons, chkTs_len h3]
theorem noExc_ne {α : Type} {o : Out α} {e : Exn} {S : Store} : noExc o ≠ .exc e S := by cases o <;> intro h <;> cases h
mutual
theorem asgT_ne (call : Nat → List PV → Store → Out PV) (gl : Nat → Option PV) : ∀ (t : T) (v : PV) (σ : Env) (S : Store) (e : Exn) (S' : Store), asgT call gl t v σ S ≠ .exc e S'
  | .nm i, v, σ, S, e, S' => fun h => by cases h
  | .tp ts, v, σ, S, e, S' => fun h => by
    cases v <;> first | cases h | skip
    rename_i xs
    have h : (match decide (xs.length = ts.length) with
      | true => asgTs call gl ts xs σ S
      | false => .stuck) = Out.exc e S' := h
    cases q : decide (xs.length = ts.length) with
    | true => rw [q] at h; exact asgTs_ne call gl ts xs σ S e S' h
    | false => rw [q] at h; cases h
  | .sub a i, v, σ, S, e, S' => noExc_ne
theorem asgTs_ne (call : Nat → List PV → Store → Out PV) (gl : Nat → Option PV) : ∀ (ts : List T) (vs : List PV) (σ : Env) (S : Store) (e : Exn) (S' : Store), asgTs call gl ts vs σ S ≠ .exc e S'
  | [], [], σ, S, e, S' => fun h => by cases h
  | [], _ :: _, σ, S, e, S' => fun h => by cases h
  | _ :: _, [], σ, S, e, S' => fun h => by cases h
  | t :: ts, v :: vs, σ, S, e, S' => fun h => by
    have h : ((asgT call gl t v σ S).bind fun σ1 S1 => asgTs call gl ts vs σ1 S1) = Out.exc e S' := h
    cases q : asgT call gl t v σ S with
    | ok σ1 S1 => rw [q] at h; exact asgTs_ne call gl ts vs σ1 S1 e S' h
    | exc e1 S1 => exact asgT_ne call gl t v σ S e1 S1 q
    | stuck => rw [q] at h; cases h
end
theorem ts_cons {t : T} {ts : List T} (ht : ST x t) (hts : STs x ts) : STs x (t :: ts) := fun c ys hc X Wx hX σp S σ H m vs us Q hE hS r h => by
  cases ys with
  | nil => cases hc
  | cons y ys =>
    obtain ⟨h1, k2⟩ := and_t hc
    obtain ⟨h2, h3⟩ := and_t k2
    cases vs with
    | nil => exact False.elim h
    | cons v vs =>
      obtain ⟨u, us', rfl, r1, r2⟩ := r
      refine WGs.of (pgs_cons pg_W pgs_W (by rw [nst_assign h1]; rfl)) ⟨u, us', rfl, ?_⟩
      have h : OkX x.g (StR x.g (tgtss (t :: ts)) σ) m H ((asgT x.call x.G.gls t v σp S).bind fun σ1 S1 => asgTs x.call x.G.gls ts vs σ1 S1) Q (fun cl d H' => Wx cl d σ H') := h
      cases e : asgT x.call x.G.gls t v σp S with
      | stuck => rw [e] at h; exact False.elim h
      | exc cl S1 =>
        rw [e] at h
        refine ht c y h2 X Wx hX σp S σ H m v u _ hE hS r1 ?_
        rw [e]
        exact h
      | ok σ1 S1 =>
        rw [e] at h
        refine ht c y h2 X Wx hX σp S σ H m v u _ hE hS r1 ?_
        rw [e]
        intro σ' H1 m1 f1 s1 q1
        obtain ⟨q1, q2, q3⟩ := q1
        have h : OkX x.g (StR x.g (tgtss (t :: ts)) σ) m H (asgTs x.call x.G.gls ts vs σ1 S1) Q (fun cl d H' => Wx cl d σ H') := h
        refine hts c ys h3 X Wx hX σ1 S1 σ' H1 m1 vs us' Q q1 s1 (r2.fut f1) ?_
        have h' := OkX.step f1 h
        cases e2 : asgTs x.call x.G.gls ts vs σ1 S1 with
        | stuck => rw [e2] at h'; exact h'
        | exc cl S2 => exact absurd e2 (asgTs_ne _ _ _ _ _ _ _ _)
        | ok σ2 S2 =>
          rw [e2] at h'
          intro σ'' H2 m2 f2 s2 p1
          obtain ⟨p1, p2, p3⟩ := p1
          refine h' σ'' H2 m2 f2 s2 ⟨p1, p2.trans q2, fun j hj => ?_⟩
          have hj' : j ∉ tgts t ∧ j ∉ tgtss ts := by
            have : j ∉ tgts t ++ tgtss ts := hj
            simpa using this
          rw [p3 j hj'.2, q3 j hj'.1]
theorem chkTs_each {k : Nms} {c : SCx} {env : PySem.Env} : ∀ {ts : List T} {ys : List Expr}, chkTs k c ts ys = true → (assignEach ys env).length = ys.length ∧ (assignEach ys env).findIdx? (·.1) = none
  | [], [], _ => ⟨rfl, rfl⟩
  | [], _ :: _, h => by cases h
  | _ :: _, [], h => by cases h
  | e :: es, y :: ys, h => by
    obtain ⟨h1, h2⟩ := and_t h
    obtain ⟨_, h3⟩ := and_t h2
    obtain ⟨k1, k2⟩ := chkTs_each (env := env) h3
    rw [nst_assign h1]
    refine ⟨by rw [List.length_cons, List.length_cons, k1], ?_⟩
    rw [List.findIdx?_cons, k2]
    rfl
theorem t_tp {ts : List T} (hts : STs x ts) : ST x (.tp ts) := fun c y hc X Wx hX σp S σ H m v u Q hE hS r h => by
  cases y <;> first | cases hc | skip
  rename_i ys k pos
  have hc : chkTs x.k c ts ys = true := hc
  obtain ⟨k1, k2⟩ := chkTs_each (env := X.env) hc
  cases v <;> first | exact False.elim h | skip
  rename_i xs
  obtain ⟨a, vs, rfl, ht, hr⟩ := r
  have h : OkX x.g (StR x.g (tgtss ts) σ) m H (match decide (xs.length = ts.length) with
      | true => asgTs x.call x.G.gls ts xs σp S
      | false => .stuck) Q (fun cl d H' => Wx cl d σ H') := h
  cases q : decide (xs.length = ts.length) with
  | false => rw [q] at h; exact False.elim h
  | true =>
    rw [q] at h
    refine WG.of (pg_tup (n := ys.length) hX.calm pgs_W k1 k2) ⟨a, vs, rfl, by rw [hX.K]; exact ht.sq, by rw [hr.length, of_decide_eq_true q, chkTs_len hc], ?_⟩
    exact hts c ys hc X Wx hX σp S σ H m xs vs Q hE hS hr h

/-! ### walks -/
theorem guard_ok {g : Glo} {m : Mem} {S : Store} {H : Hp} : ∀ {gd : Guard} {n : Nat} {o : SO}, okG gd S = true → (n, o) ∈ gd → ∃ o', S[n]? = some o' ∧ o.same o' = true
  | [], _, _, _, hm => by cases hm
  | (k, p) :: gd, n, o, h, hm => by
    unfold okG at h
    cases q : S[k]? with
    | none => rw [q] at h; cases h
    | some p' =>
      rw [q] at h
      obtain ⟨h1, h2⟩ := and_t h
      rcases List.mem_cons.mp hm with e | hm
      · cases e; exact ⟨p', q, h1⟩
      · exact guard_ok (m := m) (H := H) (g := g) h2 hm
mutual
theorem same_eq : ∀ {a b : PV}, a.same b = true → a = b
  | .non, b, h => by cases b <;> first | rfl | (simp [PV.same] at h)
  | .bl a, b, h => by cases b <;> first | (simp [PV.same] at h; done) | (simp [PV.same] at h; rw [h])
  | .int a, b, h => by cases b <;> first | (simp [PV.same] at h; done) | (simp [PV.same] at h; rw [h])
  | .str a, b, h => by cases b <;> first | (simp [PV.same] at h; done) | (simp [PV.same] at h; rw [h])
  | .tup a, b, h => by
    cases b <;> first | (simp [PV.same] at h; done) | skip
    exact congrArg _ (sames_eq (by simpa [PV.same] using h))
  | .lst a, b, h => by
    cases b <;> first | (simp [PV.same] at h; done) | skip
    exact congrArg _ (sames_eq (by simpa [PV.same] using h))
  | .dic a, b, h => by
    cases b <;> first | (simp [PV.same] at h; done) | skip
    exact congrArg _ (sameKs_eq (by simpa [PV.same] using h))
  | .loc a, b, h => by cases b <;> first | (simp [PV.same] at h; done) | (simp [PV.same] at h; rw [h])
  | .fn a, b, h => by cases b <;> first | (simp [PV.same] at h; done) | (simp [PV.same] at h; rw [h])
  | .ty a, b, h => by cases b <;> first | (simp [PV.same] at h; done) | (simp [PV.same] at h; rw [h])
  | .cls a, b, h => by cases b <;> first | (simp [PV.same] at h; done) | (simp [PV.same] at h; rw [h])
  | .scr a, b, h => by cases b <;> first | (simp [PV.same] at h; done) | (simp [PV.same] at h; rw [h])
theorem sames_eq : ∀ {a b : List PV}, sames a b = true → a = b
  | [], [], _ => rfl
  | [], _ :: _, h => by simp [sames] at h
  | _ :: _, [], h => by simp [sames] at h
  | x :: xs, y :: ys, h => by
    simp only [sames, Bool.and_eq_true] at h
    rw [same_eq h.1, sames_eq h.2]
theorem sameKs_eq : ∀ {a b : List (PV × PV)}, sameKs a b = true → a = b
  | [], [], _ => rfl
  | [], _ :: _, h => by simp [sameKs] at h
  | _ :: _, [], h => by simp [sameKs] at h
  | (a, c) :: xs, (b, d) :: ys, h => by
    simp only [sameKs, Bool.and_eq_true] at h
    rw [same_eq h.1, same_eq h.2.1, sameKs_eq h.2.2]
end
/-- what a value that is walked is, as long as the guards stand -/
theorem itOf_ok {g : Glo} {m0 : Mem} {H0 : Hp} {S0 : Store} {v : PV} {u : V} {xs : List PV} {gd : Guard} (hS0 : SR g m0 S0 H0) (r : Rep g m0 H0 v u) (e : itOf S0 v = some (xs, gd)) :
    ∃ (l : Bool) (a : Addr), u = .ref a ∧ (match l with | true => ∃ vs, H0 a = some (.lst vs) | false => ∃ vs, SqT g.K H0 a vs) ∧
      ∀ (m : Mem) (S : Store) (H : Hp), Grow m0 H0 m H → SR g m S H → okG gd S = true → ∃ vs, SqS g.K H l a vs ∧ Reps g m H xs vs := by
  cases v with
  | tup ys =>
    cases e
    obtain ⟨a, vs, rfl, ht, hr⟩ := r
    exact ⟨false, a, rfl, ⟨vs, ht.sq⟩, fun m S H f s _ => ⟨vs, (ht.fut f).sq, hr.gro f⟩⟩
  | lst ys =>
    cases e
    obtain ⟨a, vs, rfl, ht, hr⟩ := r
    exact ⟨true, a, rfl, ⟨vs, ht.1⟩, fun m S H f s _ => ⟨vs, (ht.fut f).sq, hr.gro f⟩⟩
  | loc n =>
    cases q : S0[n]? with
    | none => simp [itOf, q] at e
    | some o =>
      cases o with
      | d _ => simp [itOf, q] at e
      | l ys =>
        simp only [itOf, q] at e
        cases e
        obtain ⟨a, rfl, ha⟩ := r
        obtain ⟨vs0, h0, _⟩ := hS0.at_ n _ a q ha
        refine ⟨true, a, rfl, ⟨vs0, h0⟩, fun m S H f s hg => ?_⟩
        obtain ⟨o', e1, e2⟩ := guard_ok (g := g) (m := m) (H := H) hg (List.mem_singleton.mpr rfl)
        cases o' with
        | d _ => simp [SO.same] at e2
        | l zs =>
          have e3 := sames_eq (show sames _ zs = true from e2)
          subst e3
          obtain ⟨vs, h1, h2, _⟩ := s.at_ n _ a e1 (f.live ha)
          exact ⟨vs, SqL.of h1, h2⟩
  | _ => cases e
def ItlS (K : PySem.W.Frag) (l : Bool) (a : Addr) : L2.It := match l with
  | true => Itl K a
  | false => Itt K a
def iAny (K : PySem.W.Frag) (te : TE) : TI := fun σ H R => te σ H fun x H1 => ∃ l a xs, x = .ref a ∧ SqS K H1 l a xs ∧ R (ItlS K l a) H1
theorem pi_any {X : Cx} {tg e : Expr} {te : TE} (he : PE X e te) : PI X tg e (iAny X.K te) := by
  refine ⟨fun pins s σ H R I h => ?_⟩
  refine thn (he.run pins s σ H _ I h) fun v s1 ⟨x, H1, I1, r1, q1⟩ => ?_
  obtain ⟨l, a, xs, e, hq, q⟩ := q1
  subst e
  cases r1
  have fp : ∀ b ∈ [s1.heap.objs.size], FpOk X pins H1 b := fun b hb => by
    have e : b = s1.heap.objs.size := by simpa using hb
    subst e
    exact I1.fpOk (Nat.le_refl _) (I1.hok.fresh (Nat.le_refl _))
  cases l with
  | true =>
    obtain ⟨its, rv, p, hz⟩ := I1.list hq
    refine wpAny_pyIter_list p.isList ?_
    exact ⟨s1.heap.objs.size, [s1.heap.objs.size], _, _, H1, rfl, I1.kept (t' := s1.toks) fun b o e => Heap.get?_push_of_some _ e, turn_list a _, ⟨_, Heap.get?_push_size _ rfl, rfl, rfl⟩, fp, q⟩
  | false =>
    obtain ⟨its, rv, p, hz⟩ := I1.tuple hq
    refine wpAny_pyIter_tuple (show s1.heap.IsTuple a its.toArray from p) ?_
    exact ⟨s1.heap.objs.size, [s1.heap.objs.size], _, _, H1, rfl, I1.kept (t' := s1.toks) fun b o e => Heap.get?_push_of_some _ e, turn_tuple a _, ⟨_, Heap.get?_push_size _ rfl, rfl, rfl⟩, fp, q⟩
theorem itOf_ok' {g : Glo} {m0 : Mem} {H0 : Hp} {S0 : Store} {v : PV} {u : V} {xs : List PV} {gd : Guard} (hS0 : SR g m0 S0 H0) (r : Rep g m0 H0 v u) (e : itOf S0 v = some (xs, gd)) :
    ∃ (l : Bool) (a : Addr) (vs0 : List V), u = .ref a ∧ SqS g.K H0 l a vs0 ∧
      ∀ (m : Mem) (S : Store) (H : Hp), Grow m0 H0 m H → SR g m S H → okG gd S = true → ∃ vs, SqS g.K H l a vs ∧ Reps g m H xs vs := by
  obtain ⟨l, a, e1, h0, hok⟩ := itOf_ok hS0 r e
  cases l with
  | true => obtain ⟨vs, z⟩ := h0; exact ⟨true, a, vs, e1, SqL.of z, hok⟩
  | false => obtain ⟨vs, z⟩ := h0; exact ⟨false, a, vs, e1, z, hok⟩
theorem i_val {e : E} (he : SE x e) : SI x (.val e) := fun c y tg hc _ X Wx hX σp S σ H m R hE hS h => by
  obtain ⟨_, hc⟩ := and_t (and_t hc).2
  refine WI.of (pi_any pe_W) ?_
  refine he c _ hc X Wx hX σp S σ H m _ hE hS (OkX.fst h fun v S1 m1 H1 u e1 f1 s1 r1 h1 => ?_)
  cases q : itOf S1 v with
  | none => rw [q] at h1; exact False.elim h1
  | some p =>
    rw [q] at h1
    obtain ⟨xs, gd⟩ := p
    obtain ⟨l, a, vs0, rfl, h0, hok⟩ := itOf_ok' s1 r1 q
    refine ⟨l, a, vs0, rfl, by rw [hX.K]; exact h0, h1 _ H1 m1 (Fut.refl _ _) s1 ?_⟩
    refine ⟨fun m S H f s hg => ?_, fun i v m S H hv f s hg => ?_⟩
    · obtain ⟨vs, k1, k2⟩ := hok m S H f s hg
      rw [← hX.K] at k1
      cases l with
      | true => exact ⟨vs, k1, by rw [k2.length]; exact Nat.le_refl _⟩
      | false => exact ⟨vs, k1, by rw [k2.length]; exact Nat.le_refl _⟩
    · obtain ⟨vs, k1, k2⟩ := hok m S H f s hg
      obtain ⟨w, hw, rw'⟩ := k2.get hv
      rw [← hX.K] at k1
      cases l with
      | true =>
        refine ⟨⟨vs, w, k1, hw⟩, fun u H' y => ?_⟩
        obtain ⟨e, y⟩ := y
        subst e
        have := y vs k1
        rw [hw] at this
        cases this
        exact ⟨Fut.refl _ _, s, rw'⟩
      | false =>
        refine ⟨⟨vs, w, k1, hw⟩, fun u H' y => ?_⟩
        obtain ⟨e, y⟩ := y
        subst e
        have := y vs k1
        rw [hw] at this
        cases this
        exact ⟨Fut.refl _ _, s, rw'⟩
theorem rangeL_len (n : Nat) : ∀ lo : Int, (rangeL lo n).length = n := by
  induction n with
  | zero => intro lo; rfl
  | succ n ih => intro lo; show (rangeL (lo + 1) n).length + 1 = n + 1; rw [ih]
theorem rangeL_get : ∀ (n : Nat) (lo : Int) (i : Nat) (v : PV), (rangeL lo n)[i]? = some v → i < n ∧ v = .int (lo + i)
  | 0, lo, i, v, h => by simp [rangeL] at h
  | n + 1, lo, 0, v, h => by
    have e : PV.int lo = v := by simpa [rangeL] using h
    refine ⟨Nat.succ_pos _, ?_⟩
    rw [← e]; simp
  | n + 1, lo, i + 1, v, h => by
    obtain ⟨h1, h2⟩ := rangeL_get n (lo + 1) i v (by simpa [rangeL] using h)
    refine ⟨Nat.succ_lt_succ h1, ?_⟩
    rw [h2]
    congr 1
    omega
theorem rangeS_get : ∀ (n : Nat) (lo st : Int) (i : Nat) (v : PV), (rangeS lo st n)[i]? = some v → i < n ∧ v = .int (lo + (i : Nat) * st)
  | 0, lo, st, i, v, h => by simp [rangeS] at h
  | n + 1, lo, st, 0, v, h => by
    have e : PV.int lo = v := by simpa [rangeS] using h
    refine ⟨Nat.succ_pos _, ?_⟩
    rw [← e]; simp
  | n + 1, lo, st, i + 1, v, h => by
    obtain ⟨h1, h2⟩ := rangeS_get n (lo + st) st i v (by simpa [rangeS] using h)
    refine ⟨Nat.succ_lt_succ h1, ?_⟩
    rw [h2]
    congr 1
    rw [Int.natCast_succ, Int.add_mul, Int.one_mul]
    omega
theorem rangeS_len (n : Nat) : ∀ lo st : Int, (rangeS lo st n).length = n := by
  induction n with
  | zero => intro lo st; rfl
  | succ n ih => intro lo st; show (rangeS (lo + st) st n).length + 1 = n + 1; rw [ih]
theorem itr_ok {g : Glo} {m0 : Mem} {H0 : Hp} (lo : Int) (n : Nat) : ItOk g (rangeL lo n) [] m0 H0 (Itr lo n) := by
  refine ⟨fun m S H f s hg => by rw [rangeL_len]; exact Nat.le_refl _, fun i v m S H hv f s hg => ?_⟩
  obtain ⟨h1, h2⟩ := rangeL_get n lo i v hv
  subst h2
  refine ⟨h1, fun u H' y => ?_⟩
  obtain ⟨e1, e2⟩ := y
  subst e1 e2
  exact ⟨Fut.refl _ _, s, rfl⟩
theorem small_b {i : Int} (h : small i = true) : -1000000 ≤ i ∧ i ≤ 1000000 := by
  obtain ⟨h1, h2⟩ := and_t h
  exact ⟨of_decide_eq_true h1, of_decide_eq_true h2⟩
theorem i_rng1 {a : E} (ha : SE x a) : SI x (.rng1 a) := fun c y tg hc _ X Wx hX σp S σ H m R hE hS h => by
  cases y <;> first | cases hc | skip
  rename_i fe ys kws pos
  cases fe <;> first | cases hc | skip
  rename_i z p
  match ys, kws, hc with
  | [a'], [], hc =>
    obtain ⟨h1, k2⟩ := and_t hc
    obtain ⟨h2, k3⟩ := and_t k2
    obtain ⟨h3, h4⟩ := and_t k3
    have ez := of_decide_eq_true h1
    subst ez
    refine WI.of (pi_range1 (gl_of hX h2) (bl_of hX (by decide)) (pa_cons pe_W pa_nil (nst_star h3)) (nst_star h3)) ?_
    refine ha c _ h4 X Wx hX σp S σ H m _ hE hS (OkX.fst h fun v S1 m1 H1 u e1 f1 s1 r1 h1 => ?_)
    cases v <;> first | exact False.elim h1 | skip
    rename_i i
    cases r1
    cases q : small i with
    | false => simp only [q] at h1; exact False.elim h1
    | true =>
      simp only [q] at h1
      obtain ⟨b1, b2⟩ := small_b q
      exact ⟨i, rfl, by omega, by omega, h1 _ H1 m1 (Fut.refl _ _) s1 (itr_ok 0 i.toNat)⟩
theorem i_rng2 {a b : E} (ha : SE x a) (hb : SE x b) : SI x (.rng2 a b) := fun c y tg hc _ X Wx hX σp S σ H m R hE hS h => by
  cases y <;> first | cases hc | skip
  rename_i fe ys kws pos
  cases fe <;> first | cases hc | skip
  rename_i z p
  match ys, kws, hc with
  | [a', b'], [], hc =>
    obtain ⟨h1, k2⟩ := and_t hc
    obtain ⟨h2, k3⟩ := and_t k2
    obtain ⟨h3, k4⟩ := and_t k3
    obtain ⟨h4, k5⟩ := and_t k4
    obtain ⟨h5, h6⟩ := and_t k5
    have ez := of_decide_eq_true h1
    subst ez
    have st2 : starEach [b'] X.env = [(false, eval b' X.env)] := nst_star h4
    have st1 : starEach [a', b'] X.env = [(false, eval a' X.env), (false, eval b' X.env)] := by rw [nst_star h3, st2]
    refine WI.of (pi_range2 (gl_of hX h2) (bl_of hX (by decide)) (pa_cons pe_W (pa_cons pe_W pa_nil st2) (nst_star h3)) st1 st2) ?_
    refine ha c _ h5 X Wx hX σp S σ H m _ hE hS (OkX.fst h fun v S1 m1 H1 u e1 f1 s1 r1 h1 => ?_)
    refine hb c _ h6 X Wx hX σp S1 σ H1 m1 _ (hE.fut f1) s1 (OkX.fst h1 fun w S2 m2 H2 u2 e2 f2 s2 r2 h2 => ?_)
    cases v <;> first | exact False.elim h2 | skip
    cases w <;> first | exact False.elim h2 | skip
    rename_i i j
    cases r1
    cases r2
    cases q : small i && small j with
    | false => simp only [q] at h2; exact False.elim h2
    | true =>
      simp only [q] at h2
      obtain ⟨q1, q2⟩ := and_t q
      obtain ⟨b1, b2⟩ := small_b q1
      obtain ⟨b3, b4⟩ := small_b q2
      exact ⟨i, j, rfl, ⟨by omega, by omega, by omega, by omega⟩, h2 _ H2 m2 (Fut.refl _ _) s2 (itr_ok i _)⟩
theorem i_rng3 {a b d : E} (ha : SE x a) (hb : SE x b) (hd : SE x d) : SI x (.rng3 a b d) := fun c y tg hc _ X Wx hX σp S σ H m R hE hS h => by
  cases y <;> first | cases hc | skip
  rename_i fe ys kws pos
  cases fe <;> first | cases hc | skip
  rename_i z p
  match ys, kws, hc with
  | [a', b', d'], [], hc =>
    obtain ⟨h1, k2⟩ := and_t hc
    obtain ⟨h2, k3⟩ := and_t k2
    obtain ⟨h3, k4⟩ := and_t k3
    obtain ⟨h4, k5⟩ := and_t k4
    obtain ⟨h5, k6⟩ := and_t k5
    obtain ⟨h6, k7⟩ := and_t k6
    obtain ⟨h7, h8⟩ := and_t k7
    have ez := of_decide_eq_true h1
    subst ez
    have st3 : starEach [d'] X.env = [(false, eval d' X.env)] := nst_star h5
    have st2 : starEach [b', d'] X.env = (false, eval b' X.env) :: starEach [d'] X.env := nst_star h4
    refine WI.of (pi_range3 (gl_of hX h2) (bl_of hX (by decide)) (pa_cons pe_W (pa_cons pe_W (pa_cons pe_W pa_nil st3) st2) (nst_star h3)) (nst_star h3) (by rw [st2, st3]; rfl)) ?_
    refine ha c _ h6 X Wx hX σp S σ H m _ hE hS (OkX.fst h fun v S1 m1 H1 u e1 f1 s1 r1 h1 => ?_)
    refine hb c _ h7 X Wx hX σp S1 σ H1 m1 _ (hE.fut f1) s1 (OkX.fst h1 fun w S2 m2 H2 u2 e2 f2 s2 r2 h2 => ?_)
    refine hd c _ h8 X Wx hX σp S2 σ H2 m2 _ ((hE.fut f1).fut f2) s2 (OkX.fst h2 fun w3 S3 m3 H3 u3 e3 f3 s3 r3 h3 => ?_)
    cases v <;> first | exact False.elim h3 | skip
    cases w <;> first | exact False.elim h3 | skip
    cases w3 <;> first | exact False.elim h3 | skip
    rename_i i j k
    cases r1
    cases r2
    cases r3
    cases q : small i && small j && decide (k = -1) with
    | false => simp only [q] at h3; exact False.elim h3
    | true =>
      simp only [q] at h3
      obtain ⟨q1, q3⟩ := and_t q
      obtain ⟨q1, q2⟩ := and_t q1
      obtain ⟨b1, b2⟩ := small_b q1
      obtain ⟨b3, b4⟩ := small_b q2
      have ek := of_decide_eq_true q3
      subst ek
      refine ⟨i, j, -1, (i - j).toNat, rfl, RgC.neg (by omega) (by omega) (by omega) (by omega), h3 _ H3 m3 (Fut.refl _ _) s3 ?_⟩
      refine ⟨fun m S H f s hg => by rw [rangeS_len]; exact Nat.le_refl _, fun a v m S H hv f s hg => ?_⟩
      obtain ⟨h1, h2⟩ := rangeS_get _ _ _ a v hv
      subst h2
      refine ⟨h1, fun u H' y => ?_⟩
      obtain ⟨e1, e2⟩ := y
      subst e1 e2
      exact ⟨Fut.refl _ _, s, rfl⟩
theorem enumL_len : ∀ (xs : List PV) (k : Nat), (enumL k xs).length = xs.length
  | [], _ => rfl
  | _ :: xs, k => by show (enumL (k + 1) xs).length + 1 = xs.length + 1; rw [enumL_len xs]
theorem enumL_get : ∀ (xs : List PV) (k i : Nat) (v : PV), (enumL k xs)[i]? = some v → ∃ w, xs[i]? = some w ∧ v = .tup [.int ((k + i : Nat) : Int), w]
  | [], _, _, _, h => by simp [enumL] at h
  | x :: xs, k, 0, v, h => by
    have e : PV.tup [.int (k : Int), x] = v := by simpa [enumL] using h
    exact ⟨x, rfl, e.symm⟩
  | x :: xs, k, i + 1, v, h => by
    obtain ⟨w, h1, h2⟩ := enumL_get xs (k + 1) i v (by simpa [enumL] using h)
    refine ⟨w, by simpa using h1, ?_⟩
    rw [h2]
    congr 3
    omega
theorem zipL_len : ∀ (xs ys : List PV), (zipL xs ys).length = min xs.length ys.length
  | [], ys => by simp [zipL]
  | x :: xs, [] => by simp [zipL]
  | x :: xs, y :: ys => by
    show (zipL xs ys).length + 1 = _
    rw [zipL_len xs ys, List.length_cons, List.length_cons]
    omega
theorem zipL_get : ∀ (xs ys : List PV) (i : Nat) (v : PV), (zipL xs ys)[i]? = some v → ∃ a b, xs[i]? = some a ∧ ys[i]? = some b ∧ v = .tup [a, b]
  | [], ys, _, _, h => by simp [zipL] at h
  | x :: xs, [], _, _, h => by simp [zipL] at h
  | x :: xs, y :: ys, 0, v, h => by
    have e : PV.tup [x, y] = v := by simpa [zipL] using h
    exact ⟨x, y, rfl, rfl, e.symm⟩
  | x :: xs, y :: ys, i + 1, v, h => by
    obtain ⟨a, b, h1, h2, h3⟩ := zipL_get xs ys i v (by simpa [zipL] using h)
    exact ⟨a, b, by simpa using h1, by simpa using h2, h3⟩
theorem i_enum {e : E} (he : SE x e) : SI x (.enum e) := fun c y tg hc ht X Wx hX σp S σ H m R hE hS h => by
  obtain ⟨elts, kk, tpos, rfl⟩ := ht rfl
  cases y <;> first | cases hc | skip
  rename_i fe ys kws pos
  cases fe <;> first | cases hc | skip
  rename_i z p
  match ys, kws, hc with
  | [a'], [], hc =>
    obtain ⟨h1, k2⟩ := and_t hc
    obtain ⟨h2, k3⟩ := and_t k2
    obtain ⟨h3, h4⟩ := and_t k3
    have ez := of_decide_eq_true h1
    subst ez
    refine WI.of (pi_enumS (gl_of hX h2) (bl_of hX (by decide)) (pa_cons pe_W pa_nil (nst_star h3)) (nst_star h3)) ?_
    refine he c _ h4 X Wx hX σp S σ H m _ hE hS (OkX.fst h fun v S1 m1 H1 u e1 f1 s1 r1 h1 => ?_)
    cases q : itOf S1 v with
    | none => simp only [q] at h1; exact False.elim h1
    | some p =>
      simp only [q] at h1
      obtain ⟨xs, gd⟩ := p
      obtain ⟨l, a, vs0, rfl, h0, hok⟩ := itOf_ok' s1 r1 q
      refine ⟨l, a, vs0, rfl, by rw [hX.K]; exact h0, h1 _ H1 m1 (Fut.refl _ _) s1 ?_⟩
      refine ⟨fun m S H f s hg => ?_, fun i v m S H hv f s hg => ?_⟩
      · obtain ⟨vs, k1, k2⟩ := hok m S H f s hg
        rw [← hX.K] at k1
        exact ⟨vs, k1, by rw [k2.length, enumL_len]⟩
      · obtain ⟨w0, hw0, ev⟩ := enumL_get _ _ _ _ hv
        obtain ⟨vs, k1, k2⟩ := hok m S H f s hg
        obtain ⟨w, hw, rw'⟩ := k2.get hw0
        rw [← hX.K] at k1
        refine ⟨⟨vs, w, k1, hw⟩, fun u H' y => ?_⟩
        obtain ⟨T, w', rfl, hT, rfl, y⟩ := y
        have e2 := y vs k1
        rw [hw] at e2
        cases e2
        subst ev
        rw [Nat.zero_add]
        exact ⟨fut_new s hT, s.new hT, rep_new_tup s hT (Reps.cons rfl (Reps.cons rw' Reps.nil))⟩
theorem okG_app {S : Store} : ∀ {a b : Guard}, okG (a ++ b) S = true → okG a S = true ∧ okG b S = true
  | [], b, h => ⟨rfl, h⟩
  | (n, o) :: a, b, h => by
    have h : (match S[n]? with
      | some o' => o.same o' && okG (a ++ b) S
      | none => false) = true := h
    cases q : S[n]? with
    | none => rw [q] at h; cases h
    | some o' =>
      rw [q] at h
      obtain ⟨h1, h2⟩ := and_t h
      obtain ⟨h3, h4⟩ := okG_app h2
      refine ⟨?_, h4⟩
      show (match S[n]? with
        | some o' => o.same o' && okG a S
        | none => false) = true
      rw [q]
      show (o.same o' && okG a S) = true
      rw [h1, h3]; rfl
theorem i_zip {a b : E} (ha : SE x a) (hb : SE x b) : SI x (.zip a b) := fun c y tg hc ht X Wx hX σp S σ H m R hE hS h => by
  obtain ⟨elts, kk, tpos, rfl⟩ := ht rfl
  cases y <;> first | cases hc | skip
  rename_i fe ys kws pos
  cases fe <;> first | cases hc | skip
  rename_i z p
  match ys, kws, hc with
  | [a', b'], [], hc =>
    obtain ⟨h1, k2⟩ := and_t hc
    obtain ⟨h2, k3⟩ := and_t k2
    obtain ⟨h3, k4⟩ := and_t k3
    obtain ⟨h4, k5⟩ := and_t k4
    obtain ⟨h5, h6⟩ := and_t k5
    have ez := of_decide_eq_true h1
    subst ez
    have st2 : starEach [b'] X.env = [(false, eval b' X.env)] := nst_star h4
    refine WI.of (pi_zipS (gl_of hX h2) (bl_of hX (by decide)) (pa_cons pe_W (pa_cons pe_W pa_nil st2) (nst_star h3)) (nst_star h3) (by rw [st2]; rfl)) ?_
    refine ha c _ h5 X Wx hX σp S σ H m _ hE hS (OkX.fst h fun v S1 m1 H1 u e1 f1 s1 r1 h1 => ?_)
    refine hb c _ h6 X Wx hX σp S1 σ H1 m1 _ (hE.fut f1) s1 (OkX.fst h1 fun w S2 m2 H2 u2 e2 f2 s2 r2 h2 => ?_)
    cases q : itOf S2 v with
    | none => simp only [q] at h2; exact False.elim h2
    | some p =>
      cases q' : itOf S2 w with
      | none => simp only [q, q'] at h2; exact False.elim h2
      | some p' =>
        simp only [q, q'] at h2
        obtain ⟨xs, gd⟩ := p
        obtain ⟨xs', gd'⟩ := p'
        obtain ⟨l, a, vs0, rfl, h0, hok⟩ := itOf_ok' s2 (r1.fut f2) q
        obtain ⟨l', a2, vs0', rfl, h0', hok'⟩ := itOf_ok' s2 r2 q'
        refine ⟨l, l', a, a2, vs0, vs0', rfl, by rw [hX.K]; exact h0, by rw [hX.K]; exact h0', h2 _ H2 m2 (Fut.refl _ _) s2 ?_⟩
        refine ⟨fun m S H f s hg => ?_, fun i v m S H hv f s hg => ?_⟩
        · obtain ⟨g1, g2⟩ := okG_app hg
          obtain ⟨vs, k1, k2⟩ := hok m S H f s g1
          obtain ⟨vs', k1', k2'⟩ := hok' m S H f s g2
          rw [← hX.K] at k1 k1'
          exact ⟨vs, vs', k1, k1', by rw [k2.length, k2'.length, zipL_len]⟩
        · obtain ⟨g1, g2⟩ := okG_app hg
          obtain ⟨w1, w2, hw1, hw2, ev⟩ := zipL_get _ _ _ _ hv
          obtain ⟨vs, k1, k2⟩ := hok m S H f s g1
          obtain ⟨vs', k1', k2'⟩ := hok' m S H f s g2
          obtain ⟨z1, hz1, rz1⟩ := k2.get hw1
          obtain ⟨z2, hz2, rz2⟩ := k2'.get hw2
          rw [← hX.K] at k1 k1'
          refine ⟨⟨vs, vs', z1, z2, k1, k1', hz1, hz2⟩, fun u H' y => ?_⟩
          obtain ⟨T, y1, y2, rfl, hT, rfl, b1, b2⟩ := y
          have e3 := b1 vs k1
          have e4 := b2 vs' k1'
          rw [hz1] at e3
          rw [hz2] at e4
          cases e3
          cases e4
          subst ev
          exact ⟨fut_new s hT, s.new hT, rep_new_tup s hT (Reps.cons rz1 (Reps.cons rz2 Reps.nil))⟩
end
end Zv

end
section
set_option Elab.async false
set_option linter.all false
set_option maxRecDepth 100000
set_option maxHeartbeats 4000000
/-! Z12: comprehensions. -/
namespace Zv
open PySem PySem.Spec PyProof.Rows L2

section
variable {x : Gx}
def WTs (X : Cx) (ys : List Expr) : TT := fun σ H Q => ∀ (pins : List (Addr × Obj)) (s : Shared), Inv X pins σ H s → wpAny (model X.prog X.w) X.A (forIn ys true fun c r => if r = true then do let ok ← isTrue c X.env (eval c X.env); pure (ForInStep.yield ok) else pure (ForInStep.yield r)) (TP X pins σ Q) X.xe s
theorem WTs.of {X : Cx} {ys : List Expr} {t : TT} {σ : L2.St} {H : Hp} {Q : Bool → Hp → Prop} (h : PTs X ys t) (q : t σ H Q) : WTs X ys σ H Q := fun pins s I => h.run pins s σ H Q I q
theorem c_nil : SC x [] := fun c ys hc X Wx hX σp S σ H m Q hE hS h => by
  cases ys with
  | cons _ _ => cases hc
  | nil => exact WTs.of pts_nil (h true H m (Fut.refl _ _) hS rfl)
theorem c_one {e : E} {es : List E} (he : SB x e) : SC x (e :: es) := fun c ys hc X Wx hX σp S σ H m Q hE hS h => by
  match ys, hc with
  | [y], hc =>
    obtain ⟨h1, h2⟩ := and_t hc
    cases es with
    | cons _ _ => cases h2
    | nil =>
      refine WTs.of (pts_one pt_W) ?_
      refine he c y h1 X Wx hX σp S σ H m Q hE hS ?_
      have h : OkX x.g EqR m H ((EV x e σp S).bind fun x1 S1 => match truth x1 with
        | some true => .ok true S1
        | some false => .ok false S1
        | none => .stuck) Q (fun cl d H' => Wx cl d σ H') := h
      cases q : EV x e σp S with
      | ok v S1 =>
        rw [q] at h
        simp only [Out.bind] at h ⊢
        cases et : truth v with
        | none => simp only [et] at h; exact False.elim h
        | some b =>
          simp only [et] at h ⊢
          intro b' H1 m1 f1 s1 r1
          have r1 : truth v = some b' := r1
          rw [et] at r1
          cases r1
          cases b with
          | true => exact h true H1 m1 f1 s1 rfl
          | false => exact h false H1 m1 f1 s1 rfl
      | exc cl S1 => rw [q] at h; exact h
      | stuck => rw [q] at h; exact h
theorem ownP_snd {N : List Str} : ∀ {own : List Nat} {ow : List (Str × Nat)}, ownP N own = some ow → ow.map (·.2) = own
  | [], ow, h => by cases h; rfl
  | i :: r, ow, h => by
    unfold ownP at h
    cases q1 : N[i]? with
    | none => simp [q1] at h
    | some y =>
      cases q2 : ownP N r with
      | none => simp [q1, q2] at h
      | some l =>
        simp only [q1, q2] at h
        cases h
        rw [List.map_cons, ownP_snd q2]
theorem chkI_set {k : Nms} {c : SCx} {it : It} {y : Expr} (h : chkI k c it y = true) (env : PySem.Env) (v : Value) : foldedSetIterable y env v = pure v := by
  cases y <;> first | rfl | skip
  cases it with
  | val e =>
    simp [chkI, nse] at h
  | _ => cases h
theorem XC.blk {c : SCx} {Wx : WX} {X : Cx} (hX : XC x c Wx X) (scope : Scope) (s : Shared) (H : Hp) (C : Addr) (cl : List (Str × Addr)) (fp : List Addr) :
    XC x (c.blk scope) (fun _ _ _ _ => False) (X.blk s H scope (compEnvC scope cl C X.env) fp) where
  N := hX.N
  nd := hX.nd
  sc := by
    show relabel scope X.env = L2.relS scope c.sc
    rw [← hX.sc]
    rfl
  fn := rfl
  calm := hX.calm
  K := hX.K
  mg := hX.mg
  room := hX.room
  tk := fun _ _ z => by
    obtain ⟨_, _, _, _, _, _, _, _, _, _, _, _, _, _, _, _, w⟩ := z
    exact False.elim w
  fs := hX.fs
  gl := hX.gl
  bl := hX.bl
  fk := hX.fk
theorem wipe_get {σ : L2.St} {i : Nat} : ∀ {vs : List Nat}, (L2.wipe σ vs)[i]? = if i ∈ vs then (if i < σ.length then some none else none) else σ[i]?
  | [] => by simp [L2.wipe]
  | v :: vs => by
    unfold L2.wipe
    rw [List.getElem?_set]
    by_cases h : v = i
    · subst h
      simp [L2.wipe_length]
    · rw [if_neg h, wipe_get]
      have : (i ∈ v :: vs) = (i ∈ vs) := by simp [show ¬ i = v from fun e => h e.symm]
      simp only [this]
theorem wipe_wipe {σ σ2 : L2.St} {L vs : List Nat} (hl : σ2.length = σ.length) (h : ∀ i, i ∉ L → σ2[i]? = (L2.wipe σ vs)[i]?) (hs : ∀ i ∈ L, i ∈ vs) : L2.wipe σ2 vs = L2.wipe σ vs := by
  apply List.ext_getElem?
  intro i
  rw [wipe_get]
  by_cases hi : i ∈ vs
  · rw [if_pos hi, wipe_get, if_pos hi, hl]
  · rw [if_neg hi]
    exact h i fun e => hi (hs i e)
theorem allC {p q : List Nat} (h : p.all (fun i => q.contains i) = true) : ∀ i ∈ p, i ∈ q := fun i hi => by
  have := List.all_eq_true.mp h i hi
  simpa using this

/-- the list D is being made: hidden -/
structure InvC (g : Glo) (m1 : Mem) (H1 : Hp) (D : Addr) (m : Mem) (S : Store) (H : Hp) (done : List PV) (acc : List V) : Prop where
  gr : Grow m1 H1 m H
  hd : m.h = D :: m1.h
  kp : ∀ a, a ∈ m1.h → H a = H1 a
  sr : SR g m S H
  at_ : H D = some (.lst acc)
  rp : Reps g m H done acc
theorem InvC.start {g : Glo} {m1 : Mem} {H1 : Hp} {S : Store} {D : Addr} (s : SR g m1 S H1) (hD : H1 D = none) : InvC g m1 H1 D ⟨m1.l, D :: m1.h⟩ S (upd H1 D (.lst [])) [] [] := by
  have nl : ∀ a, a ∈ m1.l → a ≠ D := fun a ha e => by
    obtain ⟨vs, q⟩ := s.mem ha
    rw [e, hD] at q; cases q
  have nh : ∀ a, a ∈ m1.h → a ≠ D := fun a ha e => by
    obtain ⟨vs, q⟩ := s.hi a ha
    rw [e, hD] at q; cases q
  have gr : Grow m1 H1 ⟨m1.l, D :: m1.h⟩ (upd H1 D (.lst [])) := by
    refine ⟨⟨[], by simp⟩, fun a o e _ => by rw [upd_ne (ne_of_none e hD)]; exact e, fun a ha => ?_⟩
    rcases ha with ha | ha
    · exact .inl (.inl ha)
    · rcases List.mem_cons.mp ha with e | ha
      · exact .inr (by rw [e]; exact hD)
      · exact .inl (.inr ha)
  refine ⟨gr, rfl, fun a ha => upd_ne (nh a ha), ⟨s.len, s.nd, fun i o a e1 e2 => ?_, fun a ha hb => ?_, fun a ha => ?_⟩, upd_same, rfl⟩
  · have q := s.at_ i o a e1 e2
    cases o with
    | l xs =>
      obtain ⟨vs, k1, k2, k3⟩ := q
      exact ⟨vs, by rw [upd_ne (nl a (List.mem_of_getElem? e2))]; exact k1, k2.gro gr, k3⟩
    | d _ => exact False.elim q
  · rcases List.mem_cons.mp hb with e | hb
    · exact nl a ha e
    · exact s.ap a ha hb
  · rcases List.mem_cons.mp ha with e | ha
    · exact ⟨_, by rw [e]; exact upd_same⟩
    · obtain ⟨o, q⟩ := s.hi a ha
      exact ⟨o, by rw [upd_ne (nh a ha)]; exact q⟩
/-- a part of a turn -/
theorem InvC.fut {g : Glo} {m1 m m' : Mem} {H1 H H' : Hp} {D : Addr} {S S' : Store} {done : List PV} {acc : List V} (i : InvC g m1 H1 D m S H done acc) (f : Fut m H m' H') (s : SR g m' S' H') : InvC g m1 H1 D m' S' H' done acc :=
  ⟨i.gr.trans f.toGrow, by rw [f.hid, i.hd], fun a ha => (f.kept a (by rw [i.hd]; exact List.mem_cons_of_mem _ ha)).trans (i.kp a ha), s, (f.kept D (by rw [i.hd]; exact List.mem_cons_self)).trans i.at_, i.rp.fut f⟩
theorem Reps.out {g : Glo} {m : Mem} {H : Hp} {D : Addr} {o : HO} (hD : D ∈ m) (hl : D ∉ m.l) :
    (∀ {y : PV} {v : V}, Rep g m H y v → Rep g m (upd H D o) y v) ∧ ∀ {ys : List PV} {vs : List V}, Reps g m H ys vs → Reps g m (upd H D o) ys vs := by
  have gr : Grow m H m (upd H D o) := ⟨⟨[], by simp⟩, fun a u e n => by rw [upd_ne (fun z => n (by rw [z]; exact hD))]; exact e, fun _ h => .inl h⟩
  exact ⟨fun r => r.gro gr, fun r => r.gro gr⟩
theorem InvC.app {g : Glo} {m1 m : Mem} {H1 H : Hp} {D : Addr} {S : Store} {done : List PV} {acc : List V} {y : PV} {w : V} (i : InvC g m1 H1 D m S H done acc) (hD : H1 D = none) (s1 : ∀ a, a ∈ m1.h → ∃ o, H1 a = some o) (r : Rep g m H y w) :
    InvC g m1 H1 D m S (upd H D (.lst (acc ++ [w]))) (done ++ [y]) (acc ++ [w]) := by
  have hDh : D ∈ m.h := by rw [i.hd]; exact List.mem_cons_self
  have hDm : D ∈ m := .inr hDh
  have hDl : D ∉ m.l := fun h => i.sr.ap D h hDh
  obtain ⟨k1, k2⟩ := Reps.out (g := g) (H := H) (o := .lst (acc ++ [w])) hDm hDl
  refine ⟨⟨i.gr.pre, fun a o e n => ?_, i.gr.new⟩, i.hd, fun a ha => ?_, ⟨i.sr.len, i.sr.nd, fun j o a e1 e2 => ?_, i.sr.ap, fun a ha => ?_⟩, upd_same, (k2 i.rp).append (Reps.cons (k1 r) Reps.nil)⟩
  · rw [upd_ne (ne_of_none e hD)]; exact i.gr.stay a o e n
  · rw [upd_ne ?_]
    · exact i.kp a ha
    · intro e
      obtain ⟨o, q⟩ := s1 a ha
      rw [e, hD] at q; cases q
  · have q := i.sr.at_ j o a e1 e2
    cases o with
    | l xs =>
      obtain ⟨vs, q1, q2, q3⟩ := q
      exact ⟨vs, by rw [upd_ne (fun e => hDl (by rw [← e]; exact List.mem_of_getElem? e2))]; exact q1, k2 q2, q3⟩
    | d _ => exact False.elim q
  · by_cases e : a = D
    · exact ⟨_, by rw [e]; exact upd_same⟩
    · obtain ⟨o, q⟩ := i.sr.hi a ha
      exact ⟨o, by rw [upd_ne e]; exact q⟩
/-- the list is made -/
theorem InvC.fin {g : Glo} {m1 m : Mem} {H1 H : Hp} {D : Addr} {S : Store} {done : List PV} {acc : List V} (i : InvC g m1 H1 D m S H done acc) (hD : H1 D = none) (s1 : ∀ a, a ∈ m1.h → ∃ o, H1 a = some o) :
    Fut m1 H1 ⟨m.l, m1.h⟩ H ∧ SR g ⟨m.l, m1.h⟩ S H ∧ Rep g ⟨m.l, m1.h⟩ H (.lst done) (.ref D) := by
  have sub : ∀ a, a ∈ (⟨m.l, m1.h⟩ : Mem) → a ∈ m := fun a ha => by
    rcases ha with ha | ha
    · exact .inl ha
    · exact .inr (by rw [i.hd]; exact List.mem_cons_of_mem _ ha)
  have hDh : D ∈ m.h := by rw [i.hd]; exact List.mem_cons_self
  have nD : D ∉ (⟨m.l, m1.h⟩ : Mem) := fun ha => by
    rcases ha with ha | ha
    · exact i.sr.ap D ha hDh
    · obtain ⟨o, q⟩ := s1 D ha
      rw [hD] at q; cases q
  refine ⟨⟨⟨i.gr.pre, i.gr.stay, fun a ha => i.gr.new a (sub a ha)⟩, rfl, i.kp⟩, ⟨i.sr.len, i.sr.nd, fun j o a e1 e2 => ?_, fun a ha hb => i.sr.ap a ha (by rw [i.hd]; exact List.mem_cons_of_mem _ hb), fun a ha => ?_⟩, D, acc, rfl, ⟨i.at_, nD⟩, Reps.show (m := m) (m' := ⟨m.l, m1.h⟩) rfl sub i.rp⟩
  · have q := i.sr.at_ j o a e1 e2
    cases o with
    | l xs =>
      obtain ⟨vs, q1, q2, q3⟩ := q
      exact ⟨vs, q1, Reps.show (m := m) (m' := ⟨m.l, m1.h⟩) rfl sub q2, q3⟩
    | d _ => exact False.elim q
  · obtain ⟨o, q⟩ := s1 a ha
    exact ⟨o, by rw [i.kp a ha]; exact q⟩
/-- the list is made: as a value, or as the new thing itself -/
theorem InvC.done {g : Glo} {m1 m : Mem} {H1 H : Hp} {D : Addr} {S : Store} {done : List PV} {acc : List V} {fr : Bool} {Q : VK} {E : XK} (i : InvC g m1 H1 D m S H done acc) (hD : H1 D = none) (s1 : ∀ a, a ∈ m1.h → ∃ o, H1 a = some o)
    (h : OkF g fr m1 H1 (.ok (.lst done) S) Q E) : Q (.ref D) H := by
  obtain ⟨k1, k2, k3⟩ := i.fin hD s1
  cases fr with
  | false => exact h (.ref D) H _ k1 k2 k3
  | true =>
    have hDh : D ∈ m.h := by rw [i.hd]; exact List.mem_cons_self
    have hDm : D ∈ m := .inr hDh
    have nh : ∀ a, a ∈ m1.h → a ≠ D := fun a ha e => by
      obtain ⟨o, q⟩ := s1 a ha
      rw [e, hD] at q; cases q
    have nl : ∀ a, a ∈ m.l → a ≠ D := fun a ha e => i.sr.ap a ha (e ▸ hDh)
    have sub : ∀ a, a ∈ (⟨m.l, m1.h⟩ : Mem) → a ∈ m := fun a ha => by
      rcases ha with ha | ha
      · exact .inl ha
      · exact .inr (by rw [i.hd]; exact List.mem_cons_of_mem _ ha)
    let H0 : Hp := fun a => if a = D then none else H a
    have e0 : ∀ a, a ≠ D → H0 a = H a := fun a n => if_neg n
    have gr : Grow m H m H0 := ⟨⟨[], by simp⟩, fun a u e n => by rw [e0 a fun z => n (z ▸ hDm)]; exact e, fun _ q => .inl q⟩
    have f : Fut m1 H1 ⟨m.l, m1.h⟩ H0 := ⟨⟨k1.pre, fun a u e n => by rw [e0 a (ne_of_none e hD)]; exact k1.stay a u e n, k1.new⟩, rfl, fun a ha => by rw [e0 a (nh a ha)]; exact k1.kept a ha⟩
    have sr : SR g ⟨m.l, m1.h⟩ S H0 := by
      refine ⟨k2.len, k2.nd, fun j o a q1 q2 => ?_, k2.ap, fun a ha => ?_⟩
      · have q := i.sr.at_ j o a q1 q2
        cases o with
        | l xs =>
          obtain ⟨vs, z1, z2, z3⟩ := q
          exact ⟨vs, by rw [e0 a (nl a (List.mem_of_getElem? q2))]; exact z1, Reps.show (m := m) (m' := ⟨m.l, m1.h⟩) rfl sub (z2.gro gr), z3⟩
        | d _ => exact False.elim q
      · obtain ⟨o, q⟩ := s1 a ha
        exact ⟨o, by rw [e0 a (nh a ha), i.kp a ha]; exact q⟩
    have e : upd H0 D (.lst acc) = H := by
      funext a
      by_cases n : a = D
      · rw [n, upd_same, i.at_]
      · rw [upd_ne n, e0 a n]
    have := h D acc H0 _ f sr (if_pos rfl) (Reps.show (m := m) (m' := ⟨m.l, m1.h⟩) rfl sub (i.rp.gro gr))
    rwa [e] at this
theorem noExcF_fst {α β : Type} {g : Glo} {fr : Bool} {r : Mem → Hp → α → β → Prop} {m : Mem} {H : Hp} {o : Out α} {f : α → Store → Out PV} {Q : VK} {Q' : β → Hp → Prop} {E E' : XK} (h : OkF g fr m H (noExc (o.bind f)) Q E)
    (k : ∀ (x : α) (S1 : Store) (m1 : Mem) (H1 : Hp) (u : β), o = .ok x S1 → Fut m H m1 H1 → SR g m1 S1 H1 → r m1 H1 x u → OkF g fr m1 H1 (noExc (f x S1)) Q E → Q' u H1) : OkX g r m H o Q' E' := by
  cases o with
  | ok x S1 => exact fun v H' m' f' r' q => k x S1 m' H' v rfl f' r' q (OkF.step f' h)
  | exc x S => exact (OkF.no h).elim
  | stuck => exact (OkF.no h).elim
def gB (X : Cx) (scope : Scope) (y : Expr) : TG := fun v σ H Q => ∀ (s : Shared) (H0 : Hp) (C : Addr) (cl : List (Str × Addr)) (fp : List Addr), WG (X.blk s H0 scope (compEnvC scope cl C X.env) fp) y v σ H Q
def ttB (X : Cx) (scope : Scope) (ys : List Expr) : TT := fun σ H Q => ∀ (s : Shared) (H0 : Hp) (C : Addr) (cl : List (Str × Addr)) (fp : List Addr), WTs (X.blk s H0 scope (compEnvC scope cl C X.env) fp) ys σ H Q
def teB (X : Cx) (scope : Scope) (y : Expr) : TE := fun σ H Q => ∀ (s : Shared) (H0 : Hp) (C : Addr) (cl : List (Str × Addr)) (fp : List Addr), W (X.blk s H0 scope (compEnvC scope cl C X.env) fp) y σ H Q
def wiB (X : Cx) (scope : Scope) (tg y : Expr) : TI := fun σ H Q => ∀ (s : Shared) (H0 : Hp) (C : Addr) (cl : List (Str × Addr)) (fp : List Addr), WI (X.blk s H0 scope (compEnvC scope cl C X.env) fp) tg y σ H Q
theorem pgB {X : Cx} {scope : Scope} {y : Expr} (s : Shared) (H : Hp) (C : Addr) (cl : List (Str × Addr)) (fp : List Addr) : PG (X.blk s H scope (compEnvC scope cl C X.env) fp) y (gB X scope y) := ⟨fun pins s' σ H' v u Q I r h => h s H C cl fp pins s' u I r⟩
theorem ptB {X : Cx} {scope : Scope} {y : List Expr} (s : Shared) (H : Hp) (C : Addr) (cl : List (Str × Addr)) (fp : List Addr) : PTs (X.blk s H scope (compEnvC scope cl C X.env) fp) y (ttB X scope y) := ⟨fun pins s' σ H' Q I h => h s H C cl fp pins s' I⟩
theorem peB {X : Cx} {scope : Scope} {y : Expr} (s : Shared) (H : Hp) (C : Addr) (cl : List (Str × Addr)) (fp : List Addr) : PE (X.blk s H scope (compEnvC scope cl C X.env) fp) y (teB X scope y) := ⟨fun pins s' σ H' Q I h => h s H C cl fp pins s' I⟩
theorem piB {X : Cx} {scope : Scope} {tg y : Expr} (s : Shared) (H : Hp) (C : Addr) (cl : List (Str × Addr)) (fp : List Addr) : PI (X.blk s H scope (compEnvC scope cl C X.env) fp) tg y (wiB X scope tg y) := ⟨fun pins s' σ H' Q I h => (pi_W (X := X.blk s H scope (compEnvC scope cl C X.env) fp)).run pins s' σ H' Q I (h s H C cl fp)⟩
theorem loopC_inv {step : PV → Store → Out (Option PV)} {gd : Guard} {v : PV} {xs : List PV} {S S6 : Store} {ys : List PV} (h : loopC step gd (v :: xs) S = .ok ys S6) :
    okG gd S = true ∧ ∃ o S' ys', step v S = .ok o S' ∧ loopC step gd xs S' = .ok ys' S6 ∧ ys = (match o with | some y => y :: ys' | none => ys') := by
  unfold loopC at h
  cases q : okG gd S with
  | false => rw [q] at h; cases h
  | true =>
    rw [q] at h
    refine ⟨rfl, ?_⟩
    cases e : step v S with
    | ok o S' =>
      rw [e] at h
      cases e2 : loopC step gd xs S' with
      | ok ys' S'' =>
        simp only [Out.bind, e2] at h
        cases h
        exact ⟨o, S', ys', rfl, e2, rfl⟩
      | exc _ _ => simp only [Out.bind, e2] at h; cases h
      | stuck => simp only [Out.bind, e2] at h; cases h
    | exc _ _ => rw [e] at h; cases h
    | stuck => rw [e] at h; cases h
theorem loopC_end {step : PV → Store → Out (Option PV)} {gd : Guard} {S S6 : Store} {ys : List PV} (h : loopC step gd [] S = .ok ys S6) : okG gd S = true ∧ ys = [] ∧ S6 = S := by
  unfold loopC at h
  cases q : okG gd S with
  | false => rw [q] at h; cases h
  | true => rw [q] at h; cases h; exact ⟨rfl, rfl, rfl⟩
theorem tup_tgt {it : It} {y : Expr} (h : (!needT it || isTupE y) = true) (k : needT it = true) : ∃ es n p, y = .Tuple es n p := by
  rw [k] at h
  cases y <;> first | exact ⟨_, _, _, rfl⟩ | cases h
theorem comp_t {own : List Nat} {el : E} {t : T} {it : It} {cs : List E} (he : SE x el) (ht : ST x t) (hi : SI x it) (hcs : SC x cs) (fr : Bool) (c : SCx) (el' t' it' : Expr) (ifs' : List Expr) (scope : Scope) (pos : Pos)
    (hc : chkE x.k c (.comp own el t it cs) (.ListComp el' [⟨t', it', ifs', 0⟩] scope pos) = true) (X : Cx) (Wx : WX) (hX : XC x c Wx X) (σp : Env) (S : Store) (σ : L2.St) (H : Hp) (m : Mem) (Q : VK) (hE : ER x.g m H σp σ) (hS : SR x.g m S H)
    (h : OkF x.g fr m H (EV x (.comp own el t it cs) σp S) Q (fun cl d H' => Wx cl d σ H')) :
    ∃ ow : List (Str × Nat), L2.BlkOk X.N X.env.scope scope ow ∧ (∀ v, foldedSetIterable it' X.env v = pure v) ∧ tLc (WI X t' it') (gB X scope t') (ttB X scope ifs') (teB X scope el') (ow.map (·.2)) σ H Q := by
    have hc : (match ownP c.N own with
      | some ow => L2.blkC c.N c.sc scope ow && (plainT t && ((tgts t).all (fun i => own.contains i) && ((!needT it || isTupE t') && (chkI x.k c it it' && (chkT x.k (c.blk scope) t t' && (chkE x.k (c.blk scope) el el' && chkC x.k (c.blk scope) cs ifs'))))))
      | none => false) = true := hc
    cases qo : ownP c.N own with
    | none => rw [qo] at hc; cases hc
    | some ow =>
      rw [qo] at hc
      obtain ⟨h1, k2⟩ := and_t hc
      obtain ⟨h2, k3⟩ := and_t k2
      obtain ⟨h3, k4⟩ := and_t k3
      obtain ⟨h4, k5⟩ := and_t k4
      obtain ⟨h5, k6⟩ := and_t k5
      obtain ⟨h6, k7⟩ := and_t k6
      obtain ⟨h7, h8⟩ := and_t k7
      have hblk : L2.BlkOk X.N X.env.scope scope ow := by rw [hX.N, hX.sc]; exact blkOk_by h1
      have htg := allC h3
      refine ⟨ow, hblk, fun v => chkI_set h5 X.env v, ?_⟩
      have h : OkF x.g fr m H (noExc ((itv x.call x.G.gls it σp S).bind fun xs S1 =>
        (loopC (fun z S2 => (asgT x.call x.G.gls t z (wipeE σp own) S2).bind fun σ2 S3 => (evc x.call x.G.gls cs σ2 S3).bind fun b S4 => match b with
          | true => (EV x el σ2 S4).bind fun y S5 => .ok (some y) S5
          | false => .ok none S4) xs.2 xs.1 S1).bind fun ys S6 => match decide (ys.length ≤ LIM) with
          | true => .ok (.lst ys) S6
          | false => .stuck)) Q (fun cl d H' => Wx cl d σ H') := h
      refine hi c it' t' h5 (tup_tgt h4) X Wx hX σp S σ H m _ hE hS (noExcF_fst h fun xs S1 m1 H1 J e1 f1 s1 hJ h1 => ?_)
      obtain ⟨xs, gd⟩ := xs
      intro D hD
      rw [ownP_snd qo]
      generalize hstep : (fun z S2 => (asgT x.call x.G.gls t z (wipeE σp own) S2).bind fun σ2 S3 => (evc x.call x.G.gls cs σ2 S3).bind fun b S4 => match b with
          | true => (EV x el σ2 S4).bind fun y S5 => Out.ok (some y) S5
          | false => Out.ok none S4) = step at h1
      cases el1 : loopC step gd xs S1 with
      | exc _ _ => simp only [el1] at h1; exact (OkF.no h1).elim
      | stuck => simp only [el1] at h1; exact (OkF.no h1).elim
      | ok ys S6 =>
        simp only [el1, Out.bind] at h1
        cases hl : decide (ys.length ≤ LIM) with
        | false => simp only [hl] at h1; exact (OkF.no h1).elim
        | true =>
          simp only [hl] at h1
          have hlen := of_decide_eq_true hl
          refine ⟨fun i k H => k = xs.length - i ∧ i ≤ xs.length ∧ ∃ (mm : Mem) (S : Store) (done : List PV) (acc : List V) (rest : List PV), InvC x.g m1 H1 D mm S H done acc ∧ loopC step gd (xs.drop i) S = .ok rest S6 ∧ ys = done ++ rest,
            ⟨xs.length, rfl, Nat.zero_le _, _, S1, [], [], ys, InvC.start s1 hD, by simpa using el1, rfl⟩, ?_⟩
          rintro i k H2 ⟨rfl, hi, mm, S2, done, acc, rest, hin, hlp, hys⟩
          by_cases hlt : i < xs.length
          · right
            have hdrop : xs.drop i = xs[i] :: xs.drop (i + 1) := List.drop_eq_getElem_cons hlt
            rw [hdrop] at hlp
            obtain ⟨hg, o, S3, ys', hst, hlp', hrest⟩ := loopC_inv hlp
            obtain ⟨jgo, jy⟩ := hJ.go i xs[i] mm S2 H2 (List.getElem?_eq_getElem hlt) hin.gr hin.sr hg
            refine ⟨jgo, fun H' => i + 1 ≤ xs.length ∧ ∃ (mm : Mem) (S : Store) (done : List PV) (acc : List V) (rest : List PV), InvC x.g m1 H1 D mm S H' done acc ∧ loopC step gd (xs.drop (i + 1)) S = .ok rest S6 ∧ ys = done ++ rest,
              fun H' hn => ⟨xs.length - (i + 1), by omega, rfl, hn⟩, fun u H3 yl => ?_⟩
            obtain ⟨f3, s3, r3⟩ := jy u H3 yl
            have hin3 := hin.fut f3 s3
            have hE3 : ER x.g mm H3 (wipeE σp own) (L2.wipe σ own) := ((hE.fut f1).gro hin3.gr).wipe own
            rw [← hstep] at hst
            cases ea : asgT x.call x.G.gls t xs[i] (wipeE σp own) S2 with
            | exc _ _ => simp only [ea] at hst; cases hst
            | stuck => simp only [ea] at hst; cases hst
            | ok σ2 S4 =>
              simp only [ea, Out.bind] at hst
              intro s0 H0 C cl fp
              refine ht (c.blk scope) t' h6 _ _ (hX.blk scope s0 H0 C cl fp) (wipeE σp own) S2 (L2.wipe σ own) H3 mm xs[i] u _ hE3 s3 r3 ?_
              rw [ea]
              intro σ2' H4 m4 f4 s4 q4
              obtain ⟨q41, q42, q43⟩ := q4
              have hin4 := hin3.fut f4 s4
              refine ⟨wipe_wipe (L := tgts t) (by rw [q42, L2.wipe_length]) q43 htg, fun s0 H0 C cl fp => ?_⟩
              cases ec : evc x.call x.G.gls cs σ2 S4 with
              | exc _ _ => simp only [ec] at hst; cases hst
              | stuck => simp only [ec] at hst; cases hst
              | ok b S5 =>
                simp only [ec] at hst
                refine hcs (c.blk scope) ifs' h8 _ _ (hX.blk scope s0 H0 C cl fp) σ2 S4 σ2' H4 m4 _ q41 s4 ?_
                rw [ec]
                intro b' H5 m5 f5 s5 eb
                have eb : b = b' := eb
                subst eb
                have hin5 := hin4.fut f5 s5
                cases b with
                | false =>
                  simp only at hst
                  cases hst
                  rw [if_neg Bool.false_ne_true]
                  exact ⟨hlt, m5, S3, done, acc, ys', hin5, hlp', by rw [hys, hrest]⟩
                | true =>
                  simp only at hst
                  rw [if_pos rfl]
                  intro s0 H0 C cl fp
                  cases ee : EV x el σ2 S5 with
                  | exc _ _ => simp only [ee] at hst; cases hst
                  | stuck => simp only [ee] at hst; cases hst
                  | ok w S7 =>
                    simp only [ee] at hst
                    cases hst
                    refine he (c.blk scope) el' h7 _ _ (hX.blk scope s0 H0 C cl fp) σ2 S5 σ2' H5 m5 _ (q41.fut f5) s5 ?_
                    rw [ee]
                    intro wv H6 m6 f6 s6 r6
                    have hin6 := hin5.fut f6 s6
                    have hlen2 : acc.length < LIM := by
                      have e1 := hin6.rp.length
                      have e2 : ys.length = done.length + (ys'.length + 1) := by rw [hys, hrest, List.length_append]; rfl
                      omega
                    exact ⟨acc, hin6.at_, LIM_lt hlen2, hlt, m6, S3, done ++ [w], acc ++ [wv], ys', hin6.app hD s1.hi r6, hlp', by rw [hys, hrest]; simp⟩
          · left
            have ei : i = xs.length := by omega
            subst ei
            rw [List.drop_length] at hlp
            obtain ⟨hg, er, es⟩ := loopC_end hlp
            subst er es
            rw [List.append_nil] at hys
            subst hys
            refine ⟨hJ.stop mm S6 H2 hin.gr hin.sr hg, ?_⟩
            exact hin.done hD s1.hi h1
theorem s_comp {own : List Nat} {el : E} {t : T} {it : It} {cs : List E} (he : SE x el) (ht : ST x t) (hi : SI x it) (hcs : SC x cs) : SEF x (.comp own el t it cs) := fun fr c y hc X Wx hX σp S σ H m Q hE hS h => by
  cases y <;> first | cases hc | skip
  rename_i el' gens scope pos
  match gens, hc with
  | [⟨t', it', ifs', 0⟩], hc =>
    obtain ⟨ow, hblk, hs, k⟩ := comp_t he ht hi hcs fr c el' t' it' ifs' scope pos hc X Wx hX σp S σ H m Q hE hS h
    exact W.of (pe_lc hX.calm hX.nodup pi_W hblk pgB ptB peB hs) k
theorem loopC2_inv {step : PV → Store → Out (List PV)} {gd : Guard} {v : PV} {xs : List PV} {S S6 : Store} {ys : List PV} (h : loopC2 step gd (v :: xs) S = .ok ys S6) :
    okG gd S = true ∧ ∃ zs S' ys', step v S = .ok zs S' ∧ loopC2 step gd xs S' = .ok ys' S6 ∧ ys = zs ++ ys' := by
  unfold loopC2 at h
  cases q : okG gd S with
  | false => rw [q] at h; cases h
  | true =>
    rw [q] at h
    refine ⟨rfl, ?_⟩
    cases e : step v S with
    | ok o S' =>
      rw [e] at h
      cases e2 : loopC2 step gd xs S' with
      | ok ys' S'' =>
        simp only [Out.bind, e2] at h
        cases h
        exact ⟨o, S', ys', rfl, e2, rfl⟩
      | exc _ _ => simp only [Out.bind, e2] at h; cases h
      | stuck => simp only [Out.bind, e2] at h; cases h
    | exc _ _ => rw [e] at h; cases h
    | stuck => rw [e] at h; cases h
theorem loopC2_end {step : PV → Store → Out (List PV)} {gd : Guard} {S S6 : Store} {ys : List PV} (h : loopC2 step gd [] S = .ok ys S6) : okG gd S = true ∧ ys = [] ∧ S6 = S := by
  unfold loopC2 at h
  cases q : okG gd S with
  | false => rw [q] at h; cases h
  | true => rw [q] at h; cases h; exact ⟨rfl, rfl, rfl⟩
theorem grow_app {m : Mem} {H : Hp} {D : Addr} {o : HO} (hD : D ∈ m) : Grow m H m (upd H D o) :=
  ⟨⟨[], by simp⟩, fun a u e n => by rw [upd_ne (fun z => n (by rw [z]; exact hD))]; exact e, fun _ h => .inl h⟩
/-- the second clause's walk -/
structure InvD (g : Glo) (m1 : Mem) (H1 : Hp) (D : Addr) (m4 : Mem) (H4 : Hp) (m : Mem) (S : Store) (H : Hp) (done : List PV) (acc : List V) : Prop where
  c : InvC g m1 H1 D m S H done acc
  gr4 : Grow m4 H4 m H
theorem obind_ok {α β : Type} {a : α} {S : Store} {f : α → Store → Out β} : (Out.ok a S).bind f = f a S := rfl
theorem comp2_t {own : List Nat} {el : E} {t : T} {it : It} {cs : List E} {own2 : List Nat} {t2 : T} {it2 : It} {cs2 : List E} (he : SE x el) (ht : ST x t) (hi : SI x it) (hcs : SC x cs) (ht2 : ST x t2) (hi2 : SI x it2) (hcs2 : SC x cs2) (fr : Bool)
    (c : SCx) (el' t' it' : Expr) (ifs' : List Expr) (t2' it2' : Expr) (ifs2' : List Expr) (scope : Scope) (pos : Pos) (hc : chkE x.k c (.comp2 own el t it cs own2 t2 it2 cs2) (.ListComp el' [⟨t', it', ifs', 0⟩, ⟨t2', it2', ifs2', 0⟩] scope pos) = true)
    (X : Cx) (Wx : WX) (hX : XC x c Wx X) (σp : Env) (S : Store) (σ : L2.St) (H : Hp) (m : Mem) (Q : VK) (hE : ER x.g m H σp σ) (hS : SR x.g m S H) (h : OkF x.g fr m H (EV x (.comp2 own el t it cs own2 t2 it2 cs2) σp S) Q (fun cl d H' => Wx cl d σ H')) :
    ∃ ow : List (Str × Nat), L2.BlkOk X.N X.env.scope scope ow ∧ (∀ i ∈ own2, i ∈ ow.map (·.2)) ∧ (∀ v, foldedSetIterable it' X.env v = pure v) ∧ (∀ env v, foldedSetIterable it2' env v = pure v) ∧
      tLc2 (WI X t' it') (gB X scope t') (ttB X scope ifs') (wiB X scope t2' it2') (gB X scope t2') (ttB X scope ifs2') (teB X scope el') (ow.map (·.2)) own2 σ H Q := by
    have hc : (match ownP c.N own with
      | some ow => L2.blkC c.N c.sc scope ow && (plainT t && ((tgts t).all (fun i => own.contains i) && (chkI x.k c it it' && (chkT x.k (c.blk scope) t t' && (chkE x.k (c.blk scope) el el' && (chkC x.k (c.blk scope) cs ifs' &&
          (plainT t2 && ((tgts t2).all (fun i => own2.contains i) && (own2.all (fun i => own.contains i) && (chkI x.k (c.blk scope) it2 it2' && (chkT x.k (c.blk scope) t2 t2' && (chkC x.k (c.blk scope) cs2 ifs2' && ((!needT it || isTupE t') && (!needT it2 || isTupE t2'))))))))))))))
      | none => false) = true := hc
    cases qo : ownP c.N own with
    | none => rw [qo] at hc; cases hc
    | some ow =>
      rw [qo] at hc
      obtain ⟨h1, k2⟩ := and_t hc
      obtain ⟨h2, k3⟩ := and_t k2
      obtain ⟨h3, k4⟩ := and_t k3
      obtain ⟨h5, k6⟩ := and_t k4
      obtain ⟨h6, k7⟩ := and_t k6
      obtain ⟨h7, k8⟩ := and_t k7
      obtain ⟨h8, k9⟩ := and_t k8
      obtain ⟨b2, l3⟩ := and_t k9
      obtain ⟨b3, l4⟩ := and_t l3
      obtain ⟨b4, l5⟩ := and_t l4
      obtain ⟨b5, l6⟩ := and_t l5
      obtain ⟨b6, l7⟩ := and_t l6
      obtain ⟨b8, l9⟩ := and_t l7
      obtain ⟨h4, b9⟩ := and_t l9
      have hblk : L2.BlkOk X.N X.env.scope scope ow := by rw [hX.N, hX.sc]; exact blkOk_by h1
      have htg := allC h3
      have htg2 := allC b3
      have hown2 := allC b4
      have eow := ownP_snd qo
      refine ⟨ow, hblk, by rw [eow]; exact hown2, fun v => chkI_set h5 X.env v, fun env v => chkI_set b5 env v, ?_⟩
      have h : OkF x.g fr m H (noExc ((itv x.call x.G.gls it σp S).bind fun xs S1 =>
        (loopC2 (fun z S2 => (asgT x.call x.G.gls t z (wipeE σp own) S2).bind fun σ2 S3 => (evc x.call x.G.gls cs σ2 S3).bind fun b S4 => match b with
          | true => (itv x.call x.G.gls it2 σ2 S4).bind fun zs S5 => loopC (fun z S6 => (asgT x.call x.G.gls t2 z (wipeE σ2 own2) S6).bind fun σ3 S7 => (evc x.call x.G.gls cs2 σ3 S7).bind fun b S8 => match b with
            | true => (EV x el σ3 S8).bind fun y S9 => .ok (some y) S9
            | false => .ok none S8) zs.2 zs.1 S5
          | false => .ok [] S4) xs.2 xs.1 S1).bind fun ys S6 => match decide (ys.length ≤ LIM) with
          | true => .ok (.lst ys) S6
          | false => .stuck)) Q (fun cl d H' => Wx cl d σ H') := h
      refine hi c it' t' h5 (tup_tgt h4) X Wx hX σp S σ H m _ hE hS (noExcF_fst h fun xs S1 m1 H1 J e1 f1 s1 hJ h1 => ?_)
      obtain ⟨xs, gd⟩ := xs
      intro D hD
      rw [eow]
      generalize hstep : (fun z S2 => (asgT x.call x.G.gls t z (wipeE σp own) S2).bind fun σ2 S3 => (evc x.call x.G.gls cs σ2 S3).bind fun b S4 => match b with
          | true => (itv x.call x.G.gls it2 σ2 S4).bind fun zs S5 => loopC (fun z S6 => (asgT x.call x.G.gls t2 z (wipeE σ2 own2) S6).bind fun σ3 S7 => (evc x.call x.G.gls cs2 σ3 S7).bind fun b S8 => match b with
            | true => (EV x el σ3 S8).bind fun y S9 => Out.ok (some y) S9
            | false => Out.ok none S8) zs.2 zs.1 S5
          | false => Out.ok [] S4) = step at h1
      cases el1 : loopC2 step gd xs S1 with
      | exc _ _ => simp only [el1] at h1; exact (OkF.no h1).elim
      | stuck => simp only [el1] at h1; exact (OkF.no h1).elim
      | ok ys S6 =>
        simp only [el1, Out.bind] at h1
        cases hl : decide (ys.length ≤ LIM) with
        | false => simp only [hl] at h1; exact (OkF.no h1).elim
        | true =>
          simp only [hl] at h1
          have hlen := of_decide_eq_true hl
          refine ⟨fun i k H => k = xs.length - i ∧ i ≤ xs.length ∧ ∃ (mm : Mem) (S : Store) (done : List PV) (acc : List V) (rest : List PV), InvC x.g m1 H1 D mm S H done acc ∧ loopC2 step gd (xs.drop i) S = .ok rest S6 ∧ ys = done ++ rest,
            ⟨xs.length, rfl, Nat.zero_le _, _, S1, [], [], ys, InvC.start s1 hD, by simpa using el1, rfl⟩, ?_⟩
          rintro i k H2 ⟨rfl, hi, mm, S2, done, acc, rest, hin, hlp, hys⟩
          by_cases hlt : i < xs.length
          · right
            have hdrop : xs.drop i = xs[i] :: xs.drop (i + 1) := List.drop_eq_getElem_cons hlt
            rw [hdrop] at hlp
            obtain ⟨hg, zs0, S3, ys', hst, hlp', hrest⟩ := loopC2_inv hlp
            obtain ⟨jgo, jy⟩ := hJ.go i xs[i] mm S2 H2 (List.getElem?_eq_getElem hlt) hin.gr hin.sr hg
            refine ⟨jgo, fun H' => i + 1 ≤ xs.length ∧ ∃ (mm : Mem) (S : Store) (done : List PV) (acc : List V) (rest : List PV), InvC x.g m1 H1 D mm S H' done acc ∧ loopC2 step gd (xs.drop (i + 1)) S = .ok rest S6 ∧ ys = done ++ rest,
              fun H' hn => ⟨xs.length - (i + 1), by omega, rfl, hn⟩, fun u H3 yl => ?_⟩
            obtain ⟨f3, s3, r3⟩ := jy u H3 yl
            have hin3 := hin.fut f3 s3
            have hE3 : ER x.g mm H3 (wipeE σp own) (L2.wipe σ own) := ((hE.fut f1).gro hin3.gr).wipe own
            rw [← hstep] at hst
            cases ea : asgT x.call x.G.gls t xs[i] (wipeE σp own) S2 with
            | exc _ _ => simp only [ea] at hst; cases hst
            | stuck => simp only [ea] at hst; cases hst
            | ok σ2 S4 =>
              simp only [ea, obind_ok] at hst
              intro s0 H0 C cl fp
              refine ht (c.blk scope) t' h6 _ _ (hX.blk scope s0 H0 C cl fp) (wipeE σp own) S2 (L2.wipe σ own) H3 mm xs[i] u _ hE3 s3 r3 ?_
              rw [ea]
              intro σ2' H4 m4 f4 s4 q4
              obtain ⟨q41, q42, q43⟩ := q4
              have hin4 := hin3.fut f4 s4
              refine ⟨wipe_wipe (L := tgts t) (by rw [q42, L2.wipe_length]) q43 htg, fun s0 H0 C cl fp => ?_⟩
              cases ec : evc x.call x.G.gls cs σ2 S4 with
              | exc _ _ => simp only [ec] at hst; cases hst
              | stuck => simp only [ec] at hst; cases hst
              | ok b S5 =>
                simp only [ec, obind_ok] at hst
                refine hcs (c.blk scope) ifs' h8 _ _ (hX.blk scope s0 H0 C cl fp) σ2 S4 σ2' H4 m4 _ q41 s4 ?_
                rw [ec]
                intro b' H5 m5 f5 s5 eb
                have eb : b = b' := eb
                subst eb
                have hin5 := hin4.fut f5 s5
                cases b with
                | false =>
                  simp only at hst
                  cases hst
                  rw [if_neg Bool.false_ne_true]
                  exact ⟨hlt, m5, S3, done, acc, ys', hin5, hlp', by rw [hys, hrest]; rfl⟩
                | true =>
                  simp only at hst
                  rw [if_pos rfl]
                  cases ei2 : itv x.call x.G.gls it2 σ2 S5 with
                  | exc _ _ => simp only [ei2] at hst; cases hst
                  | stuck => simp only [ei2] at hst; cases hst
                  | ok zg S7 =>
                  simp only [ei2, obind_ok] at hst
                  intro s0 H0 C cl fp
                  refine hi2 (c.blk scope) it2' t2' b5 (tup_tgt b9) _ _ (hX.blk scope s0 H0 C cl fp) σ2 S5 σ2' H5 m5 _ (q41.fut f5) s5 ?_
                  rw [ei2]
                  intro J1 H6 m6 f6 s6 hJ1
                  obtain ⟨zs, gd1⟩ := zg
                  have hin6 := hin5.fut f6 s6
                  have hE6 : ER x.g m6 H6 (wipeE σ2 own2) (L2.wipe σ2' own2) := ((q41.fut f5).fut f6).wipe own2
                  simp only at hst
                  generalize hstep1 : (fun z S6 => (asgT x.call x.G.gls t2 z (wipeE σ2 own2) S6).bind fun σ3 S7 => (evc x.call x.G.gls cs2 σ3 S7).bind fun b S8 => match b with
                    | true => (EV x el σ3 S8).bind fun y S9 => Out.ok (some y) S9
                    | false => Out.ok none S8) = step1 at hst
                  refine ⟨fun j k H => k = zs.length - j ∧ j ≤ zs.length ∧ ∃ (mm : Mem) (S : Store) (done : List PV) (acc : List V) (rest1 : List PV), InvD x.g m1 H1 D m6 H6 mm S H done acc ∧ loopC step1 gd1 (zs.drop j) S = .ok rest1 S3 ∧ ys = done ++ (rest1 ++ ys'),
                    ⟨zs.length, rfl, Nat.zero_le _, _, S7, done, acc, zs0, ⟨hin6, (Fut.refl _ _).toGrow⟩, by simpa using hst, by rw [hys, hrest]⟩, ?_⟩
                  rintro j k H7 ⟨rfl, hj, m7, S8, done7, acc7, rest7, hin7, hlp7, hys7⟩
                  by_cases hlt1 : j < zs.length
                  · right
                    have hdrop1 : zs.drop j = zs[j] :: zs.drop (j + 1) := List.drop_eq_getElem_cons hlt1
                    rw [hdrop1] at hlp7
                    obtain ⟨hg1, o1, S9, ys8, hst1, hlp8, hrest1⟩ := loopC_inv hlp7
                    obtain ⟨jgo1, jy1⟩ := hJ1.go j zs[j] m7 S8 H7 (List.getElem?_eq_getElem hlt1) hin7.gr4 hin7.c.sr hg1
                    refine ⟨jgo1, fun H' => j + 1 ≤ zs.length ∧ ∃ (mm : Mem) (S : Store) (done : List PV) (acc : List V) (rest1 : List PV), InvD x.g m1 H1 D m6 H6 mm S H' done acc ∧ loopC step1 gd1 (zs.drop (j + 1)) S = .ok rest1 S3 ∧ ys = done ++ (rest1 ++ ys'),
                      fun H' hn => ⟨zs.length - (j + 1), by omega, rfl, hn⟩, fun u1 H8 yl1 => ?_⟩
                    obtain ⟨f8, s8, r8⟩ := jy1 u1 H8 yl1
                    have hin8 : InvD x.g m1 H1 D m6 H6 m7 S8 H8 done7 acc7 := ⟨hin7.c.fut f8 s8, hin7.gr4.trans f8.toGrow⟩
                    rw [← hstep1] at hst1
                    cases ea1 : asgT x.call x.G.gls t2 zs[j] (wipeE σ2 own2) S8 with
                    | exc _ _ => simp only [ea1] at hst1; cases hst1
                    | stuck => simp only [ea1] at hst1; cases hst1
                    | ok σ3 S10 =>
                      simp only [ea1, obind_ok] at hst1
                      intro s0 H0 C cl fp
                      refine ht2 (c.blk scope) t2' b6 _ _ (hX.blk scope s0 H0 C cl fp) (wipeE σ2 own2) S8 (L2.wipe σ2' own2) H8 m7 zs[j] u1 _ (hE6.gro hin8.gr4) s8 r8 ?_
                      rw [ea1]
                      intro σ3' H9 m9 f9 s9 q9
                      obtain ⟨q91, q92, q93⟩ := q9
                      have hin9 : InvD x.g m1 H1 D m6 H6 m9 S10 H9 done7 acc7 := ⟨hin8.c.fut f9 s9, hin8.gr4.trans f9.toGrow⟩
                      refine ⟨wipe_wipe (L := tgts t2) (by rw [q92, L2.wipe_length]) q93 htg2, fun s0 H0 C cl fp => ?_⟩
                      cases ec1 : evc x.call x.G.gls cs2 σ3 S10 with
                      | exc _ _ => simp only [ec1] at hst1; cases hst1
                      | stuck => simp only [ec1] at hst1; cases hst1
                      | ok b1 S11 =>
                        simp only [ec1, obind_ok] at hst1
                        refine hcs2 (c.blk scope) ifs2' b8 _ _ (hX.blk scope s0 H0 C cl fp) σ3 S10 σ3' H9 m9 _ q91 s9 ?_
                        rw [ec1]
                        intro b1' H10 m10 f10 s10 eb1
                        have eb1 : b1 = b1' := eb1
                        subst eb1
                        have hin10 : InvD x.g m1 H1 D m6 H6 m10 S11 H10 done7 acc7 := ⟨hin9.c.fut f10 s10, hin9.gr4.trans f10.toGrow⟩
                        cases b1 with
                        | false =>
                          simp only at hst1
                          cases hst1
                          rw [if_neg Bool.false_ne_true]
                          exact ⟨hlt1, m10, _, done7, acc7, ys8, hin10, hlp8, by rw [hys7, hrest1]⟩
                        | true =>
                          simp only at hst1
                          rw [if_pos rfl]
                          intro s0 H0 C cl fp
                          cases ee : EV x el σ3 S11 with
                          | exc _ _ => simp only [ee] at hst1; cases hst1
                          | stuck => simp only [ee] at hst1; cases hst1
                          | ok w S12 =>
                            simp only [ee, obind_ok] at hst1
                            cases hst1
                            refine he (c.blk scope) el' h7 _ _ (hX.blk scope s0 H0 C cl fp) σ3 S11 σ3' H10 m10 _ (q91.fut f10) s10 ?_
                            rw [ee]
                            intro wv H11 m11 f11 s11 r11
                            have hin11 : InvD x.g m1 H1 D m6 H6 m11 _ H11 done7 acc7 := ⟨hin10.c.fut f11 s11, hin10.gr4.trans f11.toGrow⟩
                            have hlen2 : acc7.length < LIM := by
                              have e1 := hin11.c.rp.length
                              have e2 : ys.length = done7.length + (ys8.length + 1 + ys'.length) := by rw [hys7, hrest1, List.length_append, List.length_append]; rfl
                              omega
                            have hDm : D ∈ m11 := .inr (by rw [hin11.c.hd]; exact List.mem_cons_self)
                            exact ⟨acc7, hin11.c.at_, LIM_lt hlen2, hlt1, m11, _, done7 ++ [w], acc7 ++ [wv], ys8, ⟨hin11.c.app hD s1.hi r11, hin11.gr4.trans (grow_app hDm)⟩, hlp8, by rw [hys7, hrest1]; simp⟩
                  · left
                    have ej : j = zs.length := by omega
                    subst ej
                    rw [List.drop_length] at hlp7
                    obtain ⟨hg1, er1, es1⟩ := loopC_end hlp7
                    subst er1 es1
                    exact ⟨hJ1.stop m7 _ H7 hin7.gr4 hin7.c.sr hg1, hlt, m7, _, done7, acc7, ys', hin7.c, hlp', by rw [hys7]; rfl⟩
          · left
            have ei : i = xs.length := by omega
            subst ei
            rw [List.drop_length] at hlp
            obtain ⟨hg, er, es⟩ := loopC2_end hlp
            subst er es
            rw [List.append_nil] at hys
            subst hys
            refine ⟨hJ.stop mm S6 H2 hin.gr hin.sr hg, ?_⟩
            exact hin.done hD s1.hi h1
theorem s_comp2 {own : List Nat} {el : E} {t : T} {it : It} {cs : List E} {own2 : List Nat} {t2 : T} {it2 : It} {cs2 : List E} (he : SE x el) (ht : ST x t) (hi : SI x it) (hcs : SC x cs) (ht2 : ST x t2) (hi2 : SI x it2) (hcs2 : SC x cs2) :
    SEF x (.comp2 own el t it cs own2 t2 it2 cs2) := fun fr c y hc X Wx hX σp S σ H m Q hE hS h => by
  cases y <;> first | cases hc | skip
  rename_i el' gens scope pos
  match gens, hc with
  | [⟨t', it', ifs', 0⟩, ⟨t2', it2', ifs2', 0⟩], hc =>
    obtain ⟨ow, hblk, hv, hs, hs2, k⟩ := comp2_t he ht hi hcs ht2 hi2 hcs2 fr c el' t' it' ifs' t2' it2' ifs2' scope pos hc X Wx hX σp S σ H m Q hE hS h
    exact W.of (pe_lc2 hX.calm hX.nodup pi_W hblk hv pgB ptB piB pgB ptB peB hs hs2) k
end
end Zv

end
section
set_option Elab.async false
set_option linter.all false
set_option maxRecDepth 100000
set_option maxHeartbeats 4000000
/-! Z19: list(zip(v, w)) over walks of any kind. -/
namespace Zv
open PySem PySem.Spec PyProof.Rows L2
section
variable {prog : Program} {w : World} {A : Around} {E : Value → Shared → Prop} {s : Shared} {z TI TO T i1 i2 : Addr} {f : Bool} {oT : Obj} {fp1 fp2 : List Addr}
variable {n1 n2 i : Nat} {P1 P2 : Nat → Value → Prop} {St1 St2 : Nat → Heap → Prop}
/-- the next pair, the one ahead of it still kept -/
theorem zipK_item {Q : Value → Shared → Prop} (S : ZipSep2 z TI TO i1 i2 fp1 fp2) (D1 : Draws prog w A i1 fp1 n1 P1 St1) (D2 : Draws prog w A i2 fp2 n2 P2 St2)
    (kz : IsZipHeld s.heap z TI TO T f) (kT : s.heap.get? T = some oT) (kI : IsTupOf2 s.heap TI (.ref i1) (.ref i2)) (q1 : St1 i s.heap) (q2 : St2 i s.heap) (l1 : i < n1) (l2 : i < n2)
    (hQ : ∀ x1 x2 h' tk, P1 i x1 → P2 i x2 → IsZipHeld h' z TI TO T true → St1 (i + 1) h' → St2 (i + 1) h' → IsTupOf2 h' s.heap.objs.size x1 x2 → h'.objs.size = s.heap.objs.size + 1 →
      (∀ c o, c ≠ z → c ≠ i1 → c ≠ i2 → s.heap.get? c = some o → h'.get? c = some o) → Q (.ref s.heap.objs.size) { s with heap := h', toks := tk }) :
    wpAny (model prog w) A (Builtin.«zip.__next__» ⟨[.ref z], []⟩) (fun r s2 => ∃ v, r = .done (.ret v) ∧ Q v s2) E s := by
  obtain ⟨hp, g, d, tk0, os⟩ := s
  show wpAny _ _ (field (.ref z) 2 >>= _) _ E _
  refine wpAny_bind (wpAny_field kz rfl (x := .bool false) rfl ?_)
  show wpAny _ _ (field (.ref z) 3 >>= _) _ E _
  refine wpAny_bind (wpAny_field kz rfl (x := .ref TI) rfl ?_)
  refine wpAny_bind (wpAny_seqItems kI rfl ?_)
  show wpAny _ _ (Builtin.SmallTypes.ownedTupleIsFree (.ref z) >>= _) _ E _
  refine wpAny_bind (wpAny_tupleHeld_zip kz kT fun g0 kz0 b0 => ?_)
  replace b0 : Heap.SameBut z hp g0 := b0
  simp only [Bool.false_eq_true, if_false]
  refine wpAny_bind ?_
  rw [← Array.forIn_toList]
  simp only [List.forIn_cons, List.forIn_nil]
  refine wpAny_bind (wpAny_bind (wpAny_holding ?_))
  show wpAny _ _ (Builtin.SmallTypes.nextOf (.ref i1) >>= _) _ E ⟨g0, g, d, tk0, os⟩
  refine wpAny_bind (D1.item i _ _ _ l1 (D1.over q1 b0 S.zf1) fun x1 p1 tk1 hx1 sn1 c1 => wpAny_pure ?_)
  replace c1 : Heap.SameBut i1 g0 p1 := c1
  refine wpAny_pure ?_
  refine wpAny_bind (wpAny_bind (wpAny_holding ?_))
  show wpAny _ _ (Builtin.SmallTypes.nextOf (.ref i2) >>= _) _ E ⟨p1, g, d, tk1, os⟩
  refine wpAny_bind (D2.item i _ _ _ l2 (D2.over (D2.over q2 b0 S.zf2) c1 S.sep1_2) fun x2 p2 tk2 hx2 sn2 c2 => wpAny_pure ?_)
  replace c2 : Heap.SameBut i2 p1 p2 := c2
  refine wpAny_pure (wpAny_pure ?_)
  show wpAny _ _ (newTuple [x1, x2] >>= _) _ E _
  refine wpAny_bind (wpAny_newTuple ?_)
  have sz : p2.objs.size = hp.objs.size := by rw [c2.1, c1.1, b0.1]
  have kz2 : IsZipHeld p2 z TI TO T true := c2.extBut _ _ S.zi2 (c1.extBut _ _ S.zi1 kz0)
  have kk : ∀ c o, c ≠ z → c ≠ i1 → c ≠ i2 → hp.get? c = some o → p2.get? c = some o := fun c o n0 n1 n2 e => c2.extBut _ _ n2 (c1.extBut _ _ n1 (b0.extBut _ _ n0 e))
  have j1 : St1 (i + 1) p2 := D1.over sn1 c2 S.sep2_1
  refine wpAny_pure ⟨_, rfl, ?_⟩
  show Q (.ref p2.objs.size) ⟨p2.push { cls := .type "tuple", data := .seq #[x1, x2] }, g, d, tk2, os⟩
  have t1 : IsTupOf2 (p2.push { cls := .type "tuple", data := .seq #[x1, x2] }) p2.objs.size x1 x2 := Heap.get?_push_size _ rfl
  have t2 : (p2.push { cls := .type "tuple", data := .seq #[x1, x2] }).objs.size = p2.objs.size + 1 := Heap.size_push ..
  rw [sz] at t1 t2 ⊢
  exact hQ x1 x2 _ tk2 hx1 hx2 (Heap.get?_push_of_some _ kz2) (D1.frame _ _ _ j1 fun b _ o e => Heap.get?_push_of_some _ e) (D2.frame _ _ _ sn2 fun b _ o e => Heap.get?_push_of_some _ e) t1 t2
    fun c o n0 n1 n2 e => Heap.get?_push_of_some _ (kk c o n0 n1 n2 e)
theorem zipK_end {Q : Fin → Shared → Prop} (S : ZipSep2 z TI TO i1 i2 fp1 fp2) (D1 : Draws prog w A i1 fp1 n1 P1 St1) (D2 : Draws prog w A i2 fp2 n2 P2 St2)
    (kz : IsZipHeld s.heap z TI TO T f) (kT : s.heap.get? T = some oT) (kI : IsTupOf2 s.heap TI (.ref i1) (.ref i2)) (q1 : St1 i s.heap) (q2 : St2 i s.heap) (l1 : i ≤ n1) (l2 : i ≤ n2) (le : i = n1 ∨ i = n2)
    (hE : ∀ h' tk e, (∀ c o, c ≠ z → c ≠ i1 → c ≠ i2 → s.heap.get? c = some o → h'.get? c = some o) → (∃ o, h'.get? e = some o ∧ o.cls = .type "StopIteration") → E (.ref e) { s with heap := h', toks := tk }) :
    wpAny (model prog w) A (Builtin.«zip.__next__» ⟨[.ref z], []⟩) Q E s := by
  obtain ⟨hp, g, d, tk0, os⟩ := s
  show wpAny _ _ (field (.ref z) 2 >>= _) Q _ _
  refine wpAny_bind (wpAny_field kz rfl (x := .bool false) rfl ?_)
  show wpAny _ _ (field (.ref z) 3 >>= _) Q _ _
  refine wpAny_bind (wpAny_field kz rfl (x := .ref TI) rfl ?_)
  refine wpAny_bind (wpAny_seqItems kI rfl ?_)
  show wpAny _ _ (Builtin.SmallTypes.ownedTupleIsFree (.ref z) >>= _) Q _ _
  refine wpAny_bind (wpAny_tupleHeld_zip kz kT fun g0 kz0 b0 => ?_)
  replace b0 : Heap.SameBut z hp g0 := b0
  simp only [Bool.false_eq_true, if_false]
  refine wpAny_bind ?_
  rw [← Array.forIn_toList]
  simp only [List.forIn_cons, List.forIn_nil]
  refine wpAny_bind (wpAny_bind (wpAny_holding ?_))
  show wpAny _ _ (Builtin.SmallTypes.nextOf (.ref i1) >>= _) _ _ ⟨g0, g, d, tk0, os⟩
  by_cases lt : i < n1
  · refine wpAny_bind (D1.item i _ _ _ lt (D1.over q1 b0 S.zf1) fun x1 p1 tk1 hx1 sn1 c1 => wpAny_pure ?_)
    replace c1 : Heap.SameBut i1 g0 p1 := c1
    have e2 : i = n2 := by omega
    refine wpAny_pure ?_
    refine wpAny_bind (wpAny_bind (wpAny_holding ?_))
    show wpAny _ _ (Builtin.SmallTypes.nextOf (.ref i2) >>= _) _ _ ⟨p1, g, d, tk1, os⟩
    refine wpAny_bind (D2.done ⟨p1, g, d, tk1, os⟩ _ _ (by rw [← e2]; exact D2.over (D2.over q2 b0 S.zf2) c1 S.sep1_2) fun q e hq he => ?_)
    replace hq : Heap.ExtBut i2 p1 q := hq
    exact hE q tk1 e (fun c o n0 n1 n2 y => hq _ _ n2 (c1.extBut _ _ n1 (b0.extBut _ _ n0 y))) he
  · have e1 : i = n1 := by omega
    refine wpAny_bind (D1.done ⟨g0, g, d, tk0, os⟩ _ _ (by rw [← e1]; exact D1.over q1 b0 S.zf1) fun q e hq he => ?_)
    replace hq : Heap.ExtBut i1 g0 q := hq
    exact hE q tk0 e (fun c o n0 n1 n2 y => hq _ _ n1 (b0.extBut _ _ n0 y)) he
end
section
variable {prog : Program} {w : World} {A : Around} {E : Value → Shared → Prop} {s : Shared} {z TI TO T i1 i2 : Addr} {f : Bool} {oT : Obj} {fp1 fp2 : List Addr}
variable {n1 n2 i : Nat} {P1 P2 : Nat → Value → Prop} {St1 St2 : Nat → Heap → Prop}
theorem zipK_next {Q : Option Value → Shared → Prop} (S : ZipSep2 z TI TO i1 i2 fp1 fp2) (D1 : Draws prog w A.in1 i1 fp1 n1 P1 St1) (D2 : Draws prog w A.in1 i2 fp2 n2 P2 St2)
    (kz : IsZipHeld s.heap z TI TO T f) (kT : s.heap.get? T = some oT) (kI : IsTupOf2 s.heap TI (.ref i1) (.ref i2)) (q1 : St1 i s.heap) (q2 : St2 i s.heap) (l1 : i < n1) (l2 : i < n2)
    (hQ : ∀ x1 x2 h' tk, P1 i x1 → P2 i x2 → IsZipHeld h' z TI TO T true → St1 (i + 1) h' → St2 (i + 1) h' → IsTupOf2 h' s.heap.objs.size x1 x2 → h'.objs.size = s.heap.objs.size + 1 →
      (∀ c o, c ≠ z → c ≠ i1 → c ≠ i2 → s.heap.get? c = some o → h'.get? c = some o) → Q (some (.ref s.heap.objs.size)) { s with heap := h', toks := tk }) :
    wpAny (model prog w) A (pyNext (.ref z)) Q E s := by
  have ty : s.TypeIs (.ref z) "zip" := ⟨_, kz, rfl⟩
  unfold pyNext
  refine wpAny_bind (wpAny_attempt (wpAny_callSpecial?_slot (name := Str.ofString "__next__") ty PySem.F.slot_zip_next (wpAny_call_entry PySem.F.slot_zip_next ty PySem.F.entry_zip_next ?_ (PySem.F.args_zip_next_1 _))))
  exact zipK_item S D1 D2 kz kT kI q1 q2 l1 l2 fun x1 x2 h' tk a b c d e k m n => wpAny_pure (hQ x1 x2 h' tk a b c d e k m n)
theorem zipK_stop {Q : Option Value → Shared → Prop} (S : ZipSep2 z TI TO i1 i2 fp1 fp2) (D1 : Draws prog w A.in1 i1 fp1 n1 P1 St1) (D2 : Draws prog w A.in1 i2 fp2 n2 P2 St2)
    (kz : IsZipHeld s.heap z TI TO T f) (kT : s.heap.get? T = some oT) (kI : IsTupOf2 s.heap TI (.ref i1) (.ref i2)) (q1 : St1 i s.heap) (q2 : St2 i s.heap) (l1 : i ≤ n1) (l2 : i ≤ n2) (le : i = n1 ∨ i = n2)
    (hQ : ∀ h' tk, (∀ c o, c ≠ z → c ≠ i1 → c ≠ i2 → s.heap.get? c = some o → h'.get? c = some o) → Q none { s with heap := h', toks := tk }) :
    wpAny (model prog w) A (pyNext (.ref z)) Q E s := by
  have ty : s.TypeIs (.ref z) "zip" := ⟨_, kz, rfl⟩
  unfold pyNext
  refine wpAny_bind (wpAny_attempt (wpAny_callSpecial?_slot (name := Str.ofString "__next__") ty PySem.F.slot_zip_next (wpAny_call_entry PySem.F.slot_zip_next ty PySem.F.entry_zip_next ?_ (PySem.F.args_zip_next_1 _))))
  refine zipK_end S D1 D2 kz kT kI q1 q2 l1 l2 le fun h' tk e hk he => ?_
  obtain ⟨o, ho, hc⟩ := he
  refine wpAny_bind (wpAny_isInstance (T := "StopIteration") (b := true) ⟨o, ho, hc⟩ isSubtype_stop ?_)
  exact wpAny_pure (hQ _ _ hk)
end

theorem sqS_upd {K : PySem.W.Frag} {H : Hp} {l : Bool} {a c : Addr} {o : HO} {xs : List V} (n : a ≠ c) (h : SqS K H l a xs) : SqS K (upd H c o) l a xs := by
  cases l with
  | true =>
    rcases h with (h | ⟨q, h⟩) | h
    · exact .inl (.inl (by rw [upd_ne n]; exact h))
    · exact .inl (.inr ⟨q, by rw [upd_ne n]; exact h⟩)
    · exact .inr h
  | false =>
    rcases h with (h | ⟨q, h⟩) | h
    · exact .inl (.inl (by rw [upd_ne n]; exact h))
    · exact .inl (.inr ⟨q, by rw [upd_ne n]; exact h⟩)
    · exact .inr h
section
variable {X : Cx} {pins : List (Addr × Obj)} {σ : L2.St} {l l' : Bool} {a b z TI TO i1 i2 S : Addr} {xs ys : List V} {H0 : Hp}
/-- the list S holds i pairs -/
structure ZL (X : Cx) (pins : List (Addr × Obj)) (σ : L2.St) (l l' : Bool) (a b z TI TO i1 i2 S : Addr) (xs ys : List V) (H0 : Hp) (i : Nat) (s : Shared) (H : Hp) : Prop where
  inv : Inv X pins σ H s
  ti : IsTupOf2 s.heap TI (.ref i1) (.ref i2)
  t1 : ItS s.heap l i1 a i
  t2 : ItS s.heap l' i2 b i
  own : (IsZip s.heap z TI TO .none ∧ ∃ p q, IsTupOf2 s.heap TO p q) ∨ ∃ T f x y, IsZipHeld s.heap z TI TO T f ∧ H T = some (.tup [x, y])
  hx : SqS X.K H l a xs
  hy : SqS X.K H l' b ys
  fp : ∀ c ∈ [z, TI, TO, i1, i2], FpOk X pins H c
  lst : ∃ vs : List V, H S = some (.lst vs) ∧ vs.length = i ∧ ∀ (j : Nat) (v : V), vs[j]? = some v → ∃ T x y, v = V.ref T ∧ H0 T = none ∧ H T = some (.tup [x, y]) ∧ xs[j]? = some x ∧ ys[j]? = some y
  gr : ∀ c o, H0 c = some o → H c = some o
theorem ZL.step {i : Nat} {s : Shared} {H : Hp} {h' : Heap} {tk : Nat} {x y : V} {u u2 : Value} (Z : ZL X pins σ l l' a b z TI TO i1 i2 S xs ys H0 i s H) (hS : S ∉ [z, TI, TO, i1, i2, a, b]) (h0 : H0 S = none)
    (clt : ∀ c ∈ [z, TI, TO, i1, i2], c < s.heap.objs.size) (al : a < s.heap.objs.size) (bl : b < s.heap.objs.size) (hSlt : S < s.heap.objs.size) (ex : xs[i]? = some x) (ey : ys[i]? = some y) (rx : RelV x u) (ry : RelV y u2)
    (own : ∃ T f, IsZipHeld h' z TI TO T f ∧ (T = s.heap.objs.size ∨ ∃ x y, H T = some (.tup [x, y]))) (t1 : ItS h' l i1 a (i + 1)) (t2 : ItS h' l' i2 b (i + 1)) (nt : IsTupOf2 h' s.heap.objs.size u u2)
    (kk : ∀ c o, c ∉ [z, TO, i1, i2] → s.heap.get? c = some o → h'.get? c = some o) (TIn : TI ∉ [z, TO, i1, i2]) (hfit : i < sizeLine) :
    ∃ (its : List Value) (n : Nat), h'.get? S = some { cls := .type "list", data := .seq its.toArray n } ∧ its.length = i ∧
      ∃ H', ZL X pins σ l l' a b z TI TO i1 i2 S xs ys H0 (i + 1) { s with heap := h'.update S (Obj.mapSeq (·.push (Value.ref s.heap.objs.size))), toks := tk } H' := by
  obtain ⟨vs, e1, e2, e3⟩ := Z.lst
  obtain ⟨hz', its, n, ri, eS⟩ := Z.inv.hok S _ e1
  have nS : ∀ c ∈ [z, TI, TO, i1, i2, a, b], c ≠ S := fun c hc e => hS (e ▸ hc)
  have eS' : h'.get? S = some { cls := .type "list", data := .seq its.toArray n } := kk S _ (fun q => hS (by
    have : S = z ∨ S = TO ∨ S = i1 ∨ S = i2 := by simpa using q
    rcases this with q | q | q | q <;> simp [q])) eS
  have li : its.length = i := by rw [← e2]; exact ri.length.symm
  refine ⟨its, n, eS', li, ?_⟩
  have hTn : H s.heap.objs.size = none := Z.inv.hok.fresh (Nat.le_refl _)
  have new : ObjOk X.prog X.w (upd H s.heap.objs.size (.tup [x, y])) h' s.heap.objs.size (.tup [x, y]) := ⟨by show 2 ≤ sizeLine; decide, [u, u2], .cons rx (.cons ry .nil), ⟨_, nt, rfl, _, rfl⟩⟩
  have I1 : Inv X pins σ (upd H s.heap.objs.size (.tup [x, y])) { s with heap := h', toks := tk } :=
    Z.inv.turnedNew (ch := [z, TI, TO, i1, i2]) (fun c ob hb q => kk c ob (fun q' => hb (by
      have e' : c = z ∨ c = TO ∨ c = i1 ∨ c = i2 := by simpa using q'
      rcases e' with q | q | q | q <;> simp [q])) q) Z.fp (Nat.le_refl _) new
  have nST : S ≠ s.heap.objs.size := Nat.ne_of_lt hSlt
  have I2 := I1.lset (l := S) (xs := vs) (ys := vs ++ [V.ref s.heap.objs.size]) (its := its) (its' := its ++ [Value.ref s.heap.objs.size]) (f := (·.push (Value.ref s.heap.objs.size))) (t' := tk) (by rw [upd_ne nST]; exact e1) eS' (by simp) (ri.append (.cons rfl .nil)) (by rw [List.length_append, e2]; exact hfit)
  have up : ∀ c o, c ≠ S → h'.get? c = some o → (h'.update S (Obj.mapSeq (·.push (Value.ref s.heap.objs.size)))).get? c = some o := fun c o nc e => (Heap.get?_update_other _ _ (Ne.symm nc)).trans e
  have HT : ∀ T o, H T = some o → T ≠ S → upd (upd H s.heap.objs.size (.tup [x, y])) S (.lst (vs ++ [V.ref s.heap.objs.size])) T = some o := fun T o e n => by
    rw [upd_ne n, upd_ne (ne_of_none e hTn)]; exact e
  have nT : upd (upd H s.heap.objs.size (.tup [x, y])) S (.lst (vs ++ [V.ref s.heap.objs.size])) s.heap.objs.size = some (.tup [x, y]) := by rw [upd_ne (Ne.symm nST), upd_same]
  have tS : ∀ T x y, H T = some (.tup [x, y]) → T ≠ S := fun T x y e q => by rw [q, e1] at e; cases e
  refine ⟨_, I2, ?_, ?_, ?_, ?_, ?_, ?_, ?_, ?_, ?_⟩
  · exact up TI _ (nS TI (by simp)) (kk TI _ TIn Z.ti)
  · exact t1.at' fun o q => up i1 o (nS i1 (by simp)) q
  · exact t2.at' fun o q => up i2 o (nS i2 (by simp)) q
  · obtain ⟨T, f, k1, k2⟩ := own
    rcases k2 with k2 | ⟨p, q, k2⟩
    · subst k2
      exact .inr ⟨_, f, x, y, up z _ (nS z (by simp)) k1, nT⟩
    · exact .inr ⟨T, f, p, q, up z _ (nS z (by simp)) k1, HT T _ k2 (tS T p q k2)⟩
  · exact sqS_upd (nS a (by simp)) (sqS_upd (Nat.ne_of_lt al) Z.hx)
  · exact sqS_upd (nS b (by simp)) (sqS_upd (Nat.ne_of_lt bl) Z.hy)
  · intro c hc
    have q := Z.fp c hc
    refine ⟨?_, q.2⟩
    have c1 : c ≠ S := nS c (by
      have e' : c = z ∨ c = TI ∨ c = TO ∨ c = i1 ∨ c = i2 := by simpa using hc
      rcases e' with q | q | q | q | q <;> simp [q])
    have c2 : c ≠ s.heap.objs.size := by
      exact Nat.ne_of_lt (clt c hc)
    rw [upd_ne c1, upd_ne c2]
    exact q.1
  · refine ⟨_, upd_same, by rw [List.length_append, e2]; rfl, fun j v ej => ?_⟩
    by_cases hj : j < vs.length
    · rw [List.getElem?_append_left hj] at ej
      obtain ⟨T, p, q, k1, k0, k2, k3, k4⟩ := e3 j v ej
      exact ⟨T, p, q, k1, k0, HT T _ k2 (tS T p q k2), k3, k4⟩
    · have ej2 : j = vs.length := by
        have := (List.getElem?_eq_some_iff.mp ej).1
        simp at this; omega
      subst ej2
      rw [List.getElem?_concat_length] at ej
      cases ej
      refine ⟨_, x, y, rfl, ?_, nT, by rw [e2]; exact ex, by rw [e2]; exact ey⟩
      cases qq : H0 s.heap.objs.size with
      | none => rfl
      | some o => have := Z.gr _ _ qq; rw [hTn] at this; cases this
  · intro c o e
    exact HT c o (Z.gr c o e) fun q => by rw [q, h0] at e; cases e
theorem ZL.lts {i : Nat} {s : Shared} {H : Hp} (Z : ZL X pins σ l l' a b z TI TO i1 i2 S xs ys H0 i s H) (hTO : ∃ o, s.heap.get? TO = some o) : ∀ c ∈ [z, TI, TO, i1, i2], c < s.heap.objs.size := fun c hc => by
  have e' : c = z ∨ c = TI ∨ c = TO ∨ c = i1 ∨ c = i2 := by simpa using hc
  rcases e' with q | q | q | q | q
  · rw [q]
    rcases Z.own with ⟨h, _⟩ | ⟨_, _, _, _, h, _⟩
    · exact Heap.lt_size h
    · exact Heap.lt_size h
  · rw [q]; exact Heap.lt_size Z.ti
  · rw [q]; obtain ⟨o, h⟩ := hTO; exact Heap.lt_size h
  · rw [q]; obtain ⟨o, h, _⟩ := Z.t1.obj; exact Heap.lt_size h
  · rw [q]; obtain ⟨o, h, _⟩ := Z.t2.obj; exact Heap.lt_size h
theorem zl_loop {A : Around} (hh : A.handled = none) {R : Result → Shared → Prop} {res : Value} (sep : ZipSep2 z TI TO i1 i2 [i1, a] [i2, b]) (na : a ≠ i1) (nb : b ≠ i2) (hS : S ∉ [z, TI, TO, i1, i2, a, b]) (h0 : H0 S = none)
    (hl : min xs.length ys.length ≤ sizeLine) (hR : ∀ (s : Shared) (H : Hp), Inv X pins σ H s → (∃ vs : List V, H S = some (.lst vs) ∧ vs.length = min xs.length ys.length ∧ ∀ (j : Nat) (v : V), vs[j]? = some v → ∃ T x y, v = V.ref T ∧ H0 T = none ∧ H T = some (.tup [x, y]) ∧ xs[j]? = some x ∧ ys[j]? = some y) →
      (∀ c o, H0 c = some o → H c = some o) → R (.ok (.ret res)) s) :
    ∀ (k i : Nat) (s : Shared) (H : Hp), min xs.length ys.length - i = k → i ≤ min xs.length ys.length → (∃ o, s.heap.get? TO = some o) → ZL X pins σ l l' a b z TI TO i1 i2 S xs ys H0 i s H →
      codeAny (model X.prog X.w) A (.builtin "list.extend.loop" ⟨[.ref S, .ref z, res], []⟩) R s := by
  intro k
  induction k with
  | zero =>
    intro i s H hk hi hTO Z
    obtain ⟨its, rv, p, _⟩ := Inv.seqS Z.inv Z.hx
    obtain ⟨its2, rv2, p2, _⟩ := Inv.seqS Z.inv Z.hy
    have L1 := rv.length
    have L2 := rv2.length
    have D1 := drawsS (prog := X.prog) (w := X.w) (A := A.in1.in1) hh l i1 a na its.toArray
    have D2 := drawsS (prog := X.prog) (w := X.w) (A := A.in1.in1) hh l' i2 b nb its2.toArray
    have g1 : i ≤ its.toArray.size := by simp only [List.size_toArray]; omega
    have g2 : i ≤ its2.toArray.size := by simp only [List.size_toArray]; omega
    have g3 : i = its.toArray.size ∨ i = its2.toArray.size := by simp only [List.size_toArray]; omega
    have ei : i = min xs.length ys.length := by omega
    have nin : ∀ c, c ∉ [z, TI, TO, i1, i2] → c ≠ z ∧ c ≠ TO ∧ c ≠ i1 ∧ c ≠ i2 := fun c hc => by
      simp only [List.mem_cons, List.not_mem_nil, or_false, not_or] at hc
      exact ⟨hc.1, hc.2.2.1, hc.2.2.2.1, hc.2.2.2.2⟩
    have done : ∀ (h' : Heap) (tk : Nat), (∀ c o, c ∉ [z, TI, TO, i1, i2] → s.heap.get? c = some o → h'.get? c = some o) → R (.ok (.ret res)) { s with heap := h', toks := tk } := fun h' tk kk =>
      hR _ H (Z.inv.turnedL (ch := [z, TI, TO, i1, i2]) kk Z.fp) (by rw [← ei]; exact Z.lst) Z.gr
    refine codeAny_builtin PySem.F.entry_extend_loop ?_
    rw [Around.under_plainId PySem.F.plain_extend_loop _]
    show wpAny _ A.in1 (pyNext (.ref z) >>= _) _ _ _
    refine wpAny_bind ?_
    rcases Z.own with ⟨hz, p0, q0, hto⟩ | ⟨T, f, x, y, hz, hT⟩
    · refine wpAny_pyNext_zipD2_end (A := A.in1) sep D1 D2 hz Z.ti hto ⟨Z.t1, p⟩ ⟨Z.t2, p2⟩ g1 g2 g3 fun h' tk kk => ?_
      exact wpAny_pure (done h' tk fun c o hc e => kk c o (nin c hc).1 (nin c hc).2.1 (nin c hc).2.2.1 (nin c hc).2.2.2 e)
    · obtain ⟨_, its0, _, o, ho, _⟩ := Z.inv.hok T _ hT
      refine zipK_stop (A := A.in1) sep D1 D2 hz ho Z.ti ⟨Z.t1, p⟩ ⟨Z.t2, p2⟩ g1 g2 g3 fun h' tk kk => ?_
      exact wpAny_pure (done h' tk fun c o hc e => kk c o (nin c hc).1 (nin c hc).2.2.1 (nin c hc).2.2.2 e)
  | succ k ih =>
    intro i s H hk hi hTO Z
    obtain ⟨its, rv, p, _⟩ := Inv.seqS Z.inv Z.hx
    obtain ⟨its2, rv2, p2, _⟩ := Inv.seqS Z.inv Z.hy
    have L1 := rv.length
    have L2 := rv2.length
    have D1 := drawsS (prog := X.prog) (w := X.w) (A := A.in1.in1) hh l i1 a na its.toArray
    have D2 := drawsS (prog := X.prog) (w := X.w) (A := A.in1.in1) hh l' i2 b nb its2.toArray
    have g1 : i < its.toArray.size := by simp only [List.size_toArray]; omega
    have g2 : i < its2.toArray.size := by simp only [List.size_toArray]; omega
    have hx1 : i < xs.length := by omega
    have hy1 : i < ys.length := by omega
    have clt := Z.lts hTO
    refine codeAny_builtin PySem.F.entry_extend_loop ?_
    rw [Around.under_plainId PySem.F.plain_extend_loop _]
    show wpAny _ A.in1 (pyNext (.ref z) >>= _) _ _ _
    have go : ∀ (u u2 : Value) (h' : Heap) (tk : Nat), its.toArray[i]? = some u → its2.toArray[i]? = some u2 → (∃ T f, IsZipHeld h' z TI TO T f ∧ (T = s.heap.objs.size ∨ ∃ x y, H T = some (.tup [x, y]))) → ItS h' l i1 a (i + 1) → ItS h' l' i2 b (i + 1) → IsTupOf2 h' s.heap.objs.size u u2 →
        (∀ c o, c ∉ [z, TO, i1, i2] → s.heap.get? c = some o → h'.get? c = some o) → (∃ o, h'.get? TO = some o) →
        wpAny (model X.prog X.w) A.in1 (updateSeq S (·.push (Value.ref s.heap.objs.size)) >>= fun _ => again (.builtin "list.extend.loop" ⟨[.ref S, .ref z, res], []⟩))
          (fun fin s' => match fin with | .done f => R (.ok f) s' | .again c' => c'.quiet = true ∧ codeAny (model X.prog X.w) A c' R s') (fun e s' => R (.error e) s') { s with heap := h', toks := tk } := fun u u2 h' tk e1 e2 own t1 t2 nt kk hTO' => by
      have r1 : RelV xs[i] u := by
        obtain ⟨v, q1, q2⟩ := rv.get (List.getElem?_eq_getElem hx1)
        have e1 : its[i]? = some u := by simpa using e1
        rw [e1] at q1; cases q1; exact q2
      have r2 : RelV ys[i] u2 := by
        obtain ⟨v, q1, q2⟩ := rv2.get (List.getElem?_eq_getElem hy1)
        have e2 : its2[i]? = some u2 := by simpa using e2
        rw [e2] at q1; cases q1; exact q2
      have hSlt : S < s.heap.objs.size := by
        obtain ⟨vs, e, _⟩ := Z.lst
        obtain ⟨_, _, _, _, q⟩ := Z.inv.hok S _ e
        exact Heap.lt_size q
      have TIn : TI ∉ [z, TO, i1, i2] := by
        simp only [List.mem_cons, List.not_mem_nil, or_false, not_or]
        exact ⟨sep.TIz, sep.TITO, sep.TIi1, sep.TIi2⟩
      obtain ⟨ls, n, q1, q2, H', q3⟩ := Z.step (tk := tk) hS h0 clt p.lt p2.lt hSlt (List.getElem?_eq_getElem hx1) (List.getElem?_eq_getElem hy1) r1 r2 own t1 t2 nt kk TIn (by omega)
      refine wpAny_bind ?_
      have hz1 : ls.toArray.size < sizeLine := by rw [List.size_toArray, q2]; omega
      refine wpAny_updateSeq (s := { s with heap := h', toks := tk }) q1 rfl (wpAny_pure ⟨plainId_quiet PySem.F.plain_extend_loop _, ih (i + 1) _ H' (by omega) (by omega) ?_ q3⟩) (Nat.le_of_lt hz1) (by show (ls.toArray.push _).size ≤ sizeLine + 1; rw [Array.size_push]; omega)
      obtain ⟨o, e⟩ := hTO'
      exact ⟨o, (Heap.get?_update_other _ _ (fun q => hS (by rw [q]; simp))).trans e⟩
    refine wpAny_bind ?_
    have nin : ∀ c, c ∉ [z, TO, i1, i2] → c ≠ z ∧ c ≠ TO ∧ c ≠ i1 ∧ c ≠ i2 := fun c hc => by
      simp only [List.mem_cons, List.not_mem_nil, or_false, not_or] at hc
      exact ⟨hc.1, hc.2.1, hc.2.2.1, hc.2.2.2⟩
    rcases Z.own with ⟨hz, p0, q0, hto⟩ | ⟨T, f, x, y, hz, hT⟩
    · refine wpAny_pyNext_zipD2_item (A := A.in1) sep D1 D2 hz Z.ti hto ⟨Z.t1, p⟩ ⟨Z.t2, p2⟩ g1 g2 fun x1 x2 h' tk e1 e2 z' to' s1 s2 nt sz kk => ?_
      exact go x1 x2 h' tk e1 e2 ⟨_, false, z', .inl rfl⟩ s1.1 s2.1 nt (fun c o hc e => kk c o (nin c hc).1 (nin c hc).2.1 (nin c hc).2.2.1 (nin c hc).2.2.2 e) ⟨_, to'⟩
    · obtain ⟨_, its0, _, o, ho, _⟩ := Z.inv.hok T _ hT
      refine zipK_next (A := A.in1) sep D1 D2 hz ho Z.ti ⟨Z.t1, p⟩ ⟨Z.t2, p2⟩ g1 g2 fun x1 x2 h' tk e1 e2 z' s1 s2 nt sz kk => ?_
      obtain ⟨oo, eo⟩ := hTO
      exact go x1 x2 h' tk e1 e2 ⟨T, true, z', .inr ⟨x, y, hT⟩⟩ s1.1 s2.1 nt (fun c o hc e => kk c o (nin c hc).1 (nin c hc).2.2.1 (nin c hc).2.2.2 e) ⟨oo, kk TO oo sep.TOz sep.Ti1 sep.Ti2 eo⟩
theorem zip_no_len : typeLookup (.type "zip") "__len__" = pure none := am_miss_of_fast (by decide +kernel)
theorem zip_no_hint : typeLookup (.type "zip") "__length_hint__" = pure none := am_miss_of_fast (by decide +kernel)
theorem zl_call {s : Shared} {H : Hp} {A : Around} {Q E : Value → Shared → Prop} (hh : A.handled = none) (I : Inv X pins σ H s) (sep : ZipSep2 z TI TO i1 i2 [i1, a] [i2, b]) (na : a ≠ i1) (nb : b ≠ i2) (hl : min xs.length ys.length ≤ sizeLine)
    (hz : IsZip s.heap z TI TO .none) (ti : IsTupOf2 s.heap TI (.ref i1) (.ref i2)) (to : ∃ p q, IsTupOf2 s.heap TO p q) (t1 : ItS s.heap l i1 a 0) (t2 : ItS s.heap l' i2 b 0) (hx : SqS X.K H l a xs) (hy : SqS X.K H l' b ys) (fp : ∀ c ∈ [z, TI, TO, i1, i2], FpOk X pins H c)
    (hQ : ∀ (s' : Shared) (H' : Hp) (vs : List V), Inv X pins σ H' s' → H' s.heap.objs.size = some (.lst vs) → vs.length = min xs.length ys.length → (∀ (j : Nat) (v : V), vs[j]? = some v → ∃ T x y, v = V.ref T ∧ H T = none ∧ H' T = some (.tup [x, y]) ∧ xs[j]? = some x ∧ ys[j]? = some y) →
      (∀ c o, H c = some o → H' c = some o) → Q (.ref s.heap.objs.size) s') :
    wpAny (model X.prog X.w) A (call (.type "list") [.ref z]) Q E s := by
  refine callType_codes (Q₁ := fun obj s₁ => obj = .ref s.heap.objs.size ∧ s₁ = { s with heap := s.heap.push { cls := .type "list", data := .seq #[] } }) PySem.F.called_list (PySem.F.typeCall_list_1 _) PySem.F.entry_list_init
    (code_list_new _ ⟨rfl, rfl⟩) fun obj s1 h1 => ?_
  obtain ⟨rfl, rfl⟩ := h1
  have b1 : (s.heap.push { cls := .type "list", data := .seq #[] }).get? s.heap.objs.size = some { cls := .type "list", data := .seq #[] } := Heap.get?_push_size _ rfl
  refine ⟨⟨_, b1, rfl⟩, PySem.F.args_list_init_2 _ _, ?_⟩
  have lz : z < s.heap.objs.size := Heap.lt_size hz
  show wpAny _ A.in1.in1 (do let old ← Builtin.List.listItems (.ref s.heap.objs.size); Builtin.List.listUpdate (.ref s.heap.objs.size) (fun _ => #[]); letGo old.toList.reverse; Builtin.List.listExtendWith (.ref s.heap.objs.size) (.ref z) .none) _ _ _
  refine wpAny_bind ?_
  unfold Builtin.List.listItems
  refine wpAny_bind (wpAny_seqItems b1 rfl (wpAny_pure ?_))
  show wpAny _ A.in1.in1 (updateSeq s.heap.objs.size (fun _ => #[]) >>= fun _ => letGo (#[] : Array Value).toList.reverse >>= fun _ => Builtin.List.listExtendWith (.ref s.heap.objs.size) (.ref z) .none) _ _ _
  refine wpAny_bind (wpAny_updateSeq b1 rfl ?_)
  have b2 := Heap.get?_update_self (Obj.mapSeq (fun _ => (#[] : Array Value))) b1 rfl
  refine wpAny_bind (wpAny_letGo ?_)
  have up : ∀ (h : Heap) (f : Obj → Obj), (∀ c o, s.heap.get? c = some o → h.get? c = some o) → ∀ c o, s.heap.get? c = some o → (h.update s.heap.objs.size f).get? c = some o := fun h f q c o e =>
    (Heap.get?_update_other _ _ (Ne.symm (Nat.ne_of_lt (Heap.lt_size e)))).trans (q c o e)
  have k1 : ∀ c o, s.heap.get? c = some o → (s.heap.push { cls := .type "list", data := .seq #[] }).get? c = some o := fun c o e => Heap.get?_push_of_some _ e
  have k2 := up _ (Obj.mapSeq (fun _ => (#[] : Array Value))) k1
  unfold Builtin.List.listExtendWith
  have tz : ∀ {h : Heap}, (∀ c o, s.heap.get? c = some o → h.get? c = some o) → ({ s with heap := h } : Shared).TypeIs (.ref z) "zip" := fun q => ⟨_, q z _ hz, rfl⟩
  refine wpAny_bind (wpAny_typeOf (tz k2) ?_)
  have e1 : Builtin.List.listSameRef (.ref s.heap.objs.size) (.ref z) = false := by simp [Builtin.List.listSameRef, Nat.ne_of_gt lz]
  have e2 : (Value.type "zip" == Value.type "list") = false := by decide
  have e3 : (Value.type "zip" == Value.type "tuple") = false := by decide
  simp only [e1, e2, e3, Bool.or_false, Bool.false_eq_true, if_false]
  refine wpAny_bind (wpAny_pyIter_zip (k2 z _ hz) ?_)
  refine wpAny_bind (wpAny_holding ?_)
  unfold Builtin.List.listLengthHint
  refine wpAny_bind (wpAny_specialOf (tz k2) zip_no_len ?_)
  show wpAny _ A.in1.in1 (specialOf (Value.ref z) (Str.ofString "__length_hint__") >>= _) _ _ _
  refine wpAny_bind (wpAny_specialOf (tz k2) zip_no_hint ?_)
  refine wpAny_pure ?_
  show wpAny _ A.in1.in1 (rule "list.extend.makes-room" >>= fun _ => Builtin.List.listTouch (.ref s.heap.objs.size) >>= fun _ => again (.builtin "list.extend.loop" ⟨[.ref s.heap.objs.size, .ref z, .none], []⟩)) _ _ _
  refine wpAny_bind (wpAny_rule ?_)
  refine wpAny_bind ?_
  show wpAny _ A.in1.in1 (updateSeq s.heap.objs.size (·.push .none) >>= fun _ => updateSeq s.heap.objs.size (·.pop)) _ _ _
  refine wpAny_bind (wpAny_updateSeq b2 rfl ?_)
  have b3 := Heap.get?_update_self (Obj.mapSeq (·.push Value.none)) b2 rfl
  refine wpAny_updateSeq (hz := by seq_fits) b3 rfl ?_
  have b4 := Heap.get?_update_self (Obj.mapSeq (·.pop)) b3 rfl
  have k4 := up _ (Obj.mapSeq (·.pop)) (up _ (Obj.mapSeq (·.push Value.none)) k2)
  have hSn : H s.heap.objs.size = none := I.hok.fresh (Nat.le_refl _)
  have I4 := I.laid (a := s.heap.objs.size) (o := .lst []) (t' := s.toks) k4 (Nat.le_refl _) ⟨by show 0 ≤ sizeLine; omega, [], _, .nil, b4⟩
  have la : a < s.heap.objs.size := by obtain ⟨_, _, p, _⟩ := Inv.seqS I hx; exact p.lt
  have lb : b < s.heap.objs.size := by obtain ⟨_, _, p, _⟩ := Inv.seqS I hy; exact p.lt
  have clt : ∀ c ∈ [z, TI, TO, i1, i2], c < s.heap.objs.size := fun c hc => by
    have e' : c = z ∨ c = TI ∨ c = TO ∨ c = i1 ∨ c = i2 := by simpa using hc
    rcases e' with q | q | q | q | q
    · rw [q]; exact lz
    · rw [q]; exact Heap.lt_size ti
    · rw [q]; obtain ⟨p, q, h⟩ := to; exact Heap.lt_size h
    · rw [q]; obtain ⟨o, h, _⟩ := t1.obj; exact Heap.lt_size h
    · rw [q]; obtain ⟨o, h, _⟩ := t2.obj; exact Heap.lt_size h
  refine wpAny_pure ⟨plainId_quiet PySem.F.plain_extend_loop _, zl_loop (A := A.in1) (H0 := H) hh sep na nb ?_ hSn hl (fun s' H' J q1 q2 => ?_) (min xs.length ys.length) 0 _ _ (Nat.sub_zero _) (Nat.zero_le _) ?_ ⟨I4, k4 _ _ ti, t1.at' fun o e => k4 _ _ e, t2.at' fun o e => k4 _ _ e, .inl ⟨k4 _ _ hz, ?_⟩, sqS_upd (Nat.ne_of_lt la) hx, sqS_upd (Nat.ne_of_lt lb) hy, fun c hc => ?_, ⟨[], upd_same, rfl, fun j v e => by simp at e⟩, fun c o e => by rw [upd_ne (ne_of_none e hSn)]; exact e⟩⟩
  · intro hm
    have e' : s.heap.objs.size ∈ [z, TI, TO, i1, i2] ∨ s.heap.objs.size = a ∨ s.heap.objs.size = b := by
      simp only [List.mem_cons, List.not_mem_nil, or_false] at hm ⊢
      rcases hm with q | q | q | q | q | q | q <;> simp [q]
    rcases e' with q | q | q
    · exact Nat.lt_irrefl _ (clt _ q)
    · exact Nat.ne_of_lt la q.symm
    · exact Nat.ne_of_lt lb q.symm
  · obtain ⟨vs, e, e', e''⟩ := q1
    exact ⟨rfl, hQ s' H' vs J e e' e'' q2⟩
  · obtain ⟨p, q, e⟩ := to
    exact ⟨_, k4 _ _ e⟩
  · obtain ⟨p, q, e⟩ := to
    exact ⟨p, q, k4 _ _ e⟩
  · have q := fp c hc
    exact ⟨by rw [upd_ne (Nat.ne_of_lt (clt c hc))]; exact q.1, q.2⟩
/-- list(zip(e, e2)) -/
def tLZip (K : PySem.W.Frag) (ta : TA) : TE := fun σ H Q => ta σ H fun vs H1 => ∃ l l' a b xs ys, vs = [.ref a, .ref b] ∧ SqS K H1 l a xs ∧ SqS K H1 l' b ys ∧
  ∀ (D : Addr) (H2 : Hp) (ps : List V), H1 D = none → H2 D = some (.lst ps) → ps.length = min xs.length ys.length → (∀ (j : Nat) (v : V), ps[j]? = some v → ∃ T x y, v = V.ref T ∧ H1 T = none ∧ H2 T = some (.tup [x, y]) ∧ xs[j]? = some x ∧ ys[j]? = some y) → (∀ c o, H1 c = some o → H2 c = some o) → Q (.ref D) H2
theorem pe_lzip {X : Cx} {e e2 : Expr} {ta : TA} {p p2 pos pos2 : Pos} (hc : X.calm = true) (hgl : Gl X "list") (hml : X.mg "list" = none) (hg : Gl X "zip") (hm : X.mg "zip" = none) (ha : PA X [e, e2] ta)
    (hs : starEach [e, e2] X.env = (false, eval e X.env) :: starEach [e2] X.env) (hpl : (backTo pos2 (starEach [e2] X.env)).any (·.1) = false) :
    PE X (.Call (.Name "list" p) [.Call (.Name "zip" p2) [e, e2] [] pos2] [] pos) (tLZip X.K ta) := by
  refine ⟨fun pins s σ H Q I h => ?_⟩
  have na : starEach [Expr.Call (.Name "zip" p2) [e, e2] [] pos2] X.env = (false, eval (.Call (.Name "zip" p2) [e, e2] [] pos2) X.env) :: starEach [] X.env := rfl
  refine Call_ (ld_blt I hgl hml boot_list (PyProof.Rows.callWith_type1 (args_cons ?_ na) na))
  refine Call_ (ld_blt I hg hm PyProof.Rows.boot_zip (PyProof.Rows.callWith_type1 (thn (ha.run pos2 pins s σ H _ I h) fun us s1 ⟨vs, H1, I1, r1, q1⟩ => ?_) hs hpl))
  obtain ⟨l, l', a, b, xs, ys, ex, hqx, hqy, q⟩ := q1
  subst ex
  cases r1 with
  | cons r rr =>
    cases rr with
    | cons r' rr =>
      cases rr
      cases r
      cases r'
      obtain ⟨its, rv, p1, hl1⟩ := Inv.seqS I1 hqx
      have hl : min xs.length ys.length ≤ sizeLine := Nat.le_trans (Nat.min_le_left _ _) hl1
      obtain ⟨its2, rv2, p2, _⟩ := Inv.seqS I1 hqy
      refine zip_begins2 (beginsS l a its.toArray) (beginsS l' b its2.toArray) p1 p2 fun h' hz hTI hTO h1 h2 hsz hk => ?_
      have I2 : Inv X pins σ H1 { s1 with heap := h' } := I1.kept (t' := s1.toks) hk
      have la := p1.lt
      have lb := p2.lt
      have sep := zip_sep2 (N := s1.heap.objs.size) (fp1 := [a]) (fp2 := [b]) (fun c hc => by rw [List.mem_singleton.mp hc]; exact la) (fun c hc => by rw [List.mem_singleton.mp hc]; exact lb)
      refine args_nil ?_
      refine zl_call (s := { s1 with heap := h' }) (I2.ok.hd hc) I2 sep (Nat.ne_of_lt la) (Nat.ne_of_lt (Nat.lt_succ_of_lt lb)) hl hz hTI ⟨_, _, hTO⟩ (itObj_it h1) (itObj_it h2) hqx hqy (fun c hcm => ?_) fun s' H' ps J e1 e2 e3 e4 => ?_
      · have e' : c = s1.heap.objs.size + 4 ∨ c = s1.heap.objs.size + 2 ∨ c = s1.heap.objs.size + 3 ∨ c = s1.heap.objs.size ∨ c = s1.heap.objs.size + 1 := by simpa using hcm
        have hle : s1.heap.objs.size ≤ c := by
          rcases e' with z | z | z | z | z <;> subst z <;> first | exact Nat.le_refl _ | exact Nat.le_add_right _ _
        exact I1.fpOk hle (I1.hok.fresh hle)
      · exact ⟨.ref h'.objs.size, H', J, rfl, q _ H' ps (I2.hok.fresh (Nat.le_refl _)) e1 e2 e3 e4⟩
end
end Zv

end
section
set_option Elab.async false
set_option linter.all false
set_option maxRecDepth 100000
set_option maxHeartbeats 4000000
/-! Z13: a literal dict with an index, lists made to be changed, list(range), .. -/
namespace Zv
open PySem PySem.Spec PyProof.Rows L2

section
variable {x : Gx}
def kvP (kvs : List (Int × Int)) : List (Key × V) := kvs.map fun p => (.inl p.1, .int p.2)
def kvT (kvs : List (Int × Int)) : List (TE × TE) := kvs.map fun p => (tC (.int p.1), tC (.int p.2))
theorem pps_kv {X : Cx} {pos : Pos} : ∀ {kvs : List (Int × Int)} {ks : List (Option Expr)} {vs : List Expr}, kvsB kvs ks vs = true → PPs X pos ks vs (kvT kvs) ∧ ks.all (·.isSome) = true ∧ ks.length = vs.length ∧ ks.length = kvs.length
  | [], ks, vs, h => by
    match ks, vs, h with
    | [], [], _ => exact ⟨pps_nil, rfl, rfl, rfl⟩
  | (i, j) :: r, ks, vs, h => by
    match ks, vs, h with
    | some (.Constant (.int a) _ _) :: ks, .Constant (.int b) _ _ :: vs, h =>
      obtain ⟨h1, k2⟩ := and_t h
      obtain ⟨h2, h3⟩ := and_t k2
      have e1 := of_decide_eq_true h1
      have e2 := of_decide_eq_true h2
      subst e1 e2
      obtain ⟨q1, q2, q3, q4⟩ := pps_kv (X := X) (pos := pos) h3
      exact ⟨pps_cons pe_int pe_int q1, by rw [List.all_cons, q2]; rfl, by rw [List.length_cons, List.length_cons, q3], by rw [List.length_cons, List.length_cons, q4]⟩
theorem tPairs_kv {σ : L2.St} {H : Hp} {Q : List (V × V) → Hp → Prop} : ∀ {kvs : List (Int × Int)}, Q (kvs.map fun p => (.int p.1, .int p.2)) H → tPairs (kvT kvs) σ H Q
  | [], h => h
  | p :: r, h => by
    show tPairs (kvT r) σ H _
    exact tPairs_kv (kvs := r) h
theorem put_new {k : Key} {v : V} : ∀ {kvs : List (Key × V)}, (∀ p ∈ kvs, p.1 ≠ k) → putK kvs k v = kvs ++ [(k, v)] := fun {kvs} h => by
  unfold putK
  rw [if_neg]
  intro q
  obtain ⟨p, hp, e⟩ := List.any_eq_true.mp q
  exact h p hp (of_decide_eq_true e)
theorem merge_new : ∀ (kvs : List (Int × Int)) (acc : List (Key × V)), distK (kvs.map (·.1)) = true → (∀ p ∈ acc, ∀ q ∈ kvs, p.1 ≠ .inl q.1) → mergeK acc (kvP kvs) = acc ++ kvP kvs
  | [], acc, _, _ => by simp [mergeK, kvP]
  | p :: r, acc, hd, ha => by
    obtain ⟨h1, h2⟩ := and_t hd
    have h1 : (r.map (·.1)).contains p.1 = false := by simpa using h1
    show mergeK (putK acc (.inl p.1) (.int p.2)) (kvP r) = _
    rw [put_new (fun q hq => ha q hq p List.mem_cons_self), merge_new r _ h2 fun q hq z hz => ?_]
    · simp [kvP]
    · rcases List.mem_append.mp hq with hq | hq
      · exact ha q hq z (List.mem_cons_of_mem _ hz)
      · have e : q = (.inl p.1, .int p.2) := by simpa using hq
        subst e
        intro e
        have e : p.1 = z.1 := Sum.inl.inj e
        have : p.1 ∈ r.map (·.1) := by rw [e]; exact List.mem_map_of_mem hz
        have k : (r.map (·.1)).contains p.1 = true := by simpa using this
        rw [h1] at k; cases k
theorem val_kv {i j : Int} : ∀ {kvs : List (Int × Int)}, kvs.lookup i = some j → valV (kvP kvs) (.inl i) = some (.int j)
  | [], h => by cases h
  | (a, b) :: r, h => by
    by_cases e : a = i
    · subst e
      rw [List.lookup_cons_self] at h
      cases h
      exact valV_pos rfl
    · have h' : r.lookup i = some j := by
        rw [List.lookup_cons] at h
        have : (i == a) = false := by simpa using fun q : i = a => e q.symm
        rw [this] at h; exact h
      exact (valV_neg fun q => e (Sum.inl.inj q)).trans (val_kv h')
theorem s_dix {kvs : List (Int × Int)} {e : E} (he : SE x e) : SE x (.dix kvs e) := fun c y hc X Wx hX σp S σ H m Q hE hS h => by
  cases y <;> first | cases hc | skip
  rename_i dd b' pos
  cases dd <;> first | cases hc | skip
  rename_i ks vs dpos
  · have hc : (kvsB kvs ks vs && (kvs.isEmpty == false && (decide (kvs.length ≤ 15) && (distK (kvs.map (·.1)) && (nsl b' && chkE x.k c e b'))))) = true := hc
    obtain ⟨h1, k2⟩ := and_t hc
    obtain ⟨h2, k3⟩ := and_t k2
    obtain ⟨h3, k4⟩ := and_t k3
    obtain ⟨h4, k5⟩ := and_t k4
    obtain ⟨h5, h6⟩ := and_t k5
    obtain ⟨p1, p2, p3, p4⟩ := pps_kv (X := X) (pos := dpos) h1
    have hn : ks ≠ [] := fun q => by
      subst q
      cases kvs with
      | nil => cases h2
      | cons _ _ => cases p4
    have h15 : ks.length ≤ 15 := by rw [p4]; exact of_decide_eq_true h3
    have hns : NoSl b' := by
      intro o i
      cases b' <;> first | rfl | cases h5
    refine W.of (pe_dget (by have := hX.units; omega) (pe_disp p1 p2 p3 hn h15) pe_W hns) ?_
    intro p hp
    refine tPairs_kv ⟨upd_same, kvP kvs, ?_, by simp [kvP]; exact of_decide_eq_true h3, ?_⟩
    · simp [kvP, kV]
    have em : mergeK [] (kvP kvs) = kvP kvs := by rw [merge_new kvs [] h4 fun _ h => by cases h]; rfl
    rw [em]
    have ef : upd (upd H p (.dK [])) p (.dK (kvP kvs)) = upd H p (.dK (kvP kvs)) := by
      funext a
      unfold upd
      split <;> rfl
    rw [ef]
    have f0 : Fut m H m (upd H p (.dK (kvP kvs))) := fut_new hS hp
    refine he c _ h6 X Wx hX σp S σ _ m _ (hE.fut f0) (hS.new hp) (OkX.fst (OkX.step f0 h) fun v S1 m1 H1 u e1 f1 s1 r1 h1 => ?_)
    cases v <;> first | exact False.elim h1 | skip
    rename_i i
    cases r1
    cases q : kvs.lookup i with
    | none => simp only [q] at h1; exact False.elim h1
    | some j =>
      simp only [q] at h1
      have hpm : p ∉ m := hS.fresh hp
      have hd : H1 p = some (.dK (kvP kvs)) := f1.stay p _ upd_same hpm
      exact ⟨p, .int j, rfl, by rw [← val_kv q]; exact DGet.k (k := .inl i) hd, e_int s1 h1⟩

theorem reps_rg {g : Glo} {m : Mem} {H : Hp} : ∀ (vs : List V) (xs : List PV), xs.length = vs.length → (∀ i (h : i < xs.length) (h' : i < vs.length), Rep g m H xs[i] vs[i]) → Reps g m H xs vs
  | [], [], _, _ => Reps.nil
  | v :: vs, x :: xs, hl, h => Reps.cons (h 0 (Nat.zero_lt_succ _) (Nat.zero_lt_succ _)) (reps_rg vs xs (by simpa using hl) fun i h1 h2 => h (i + 1) (Nat.succ_lt_succ h1) (Nat.succ_lt_succ h2))
theorem reps_range {g : Glo} {m : Mem} {H : Hp} {a b : Int} : Reps g m H (rangeL a (b - a).toNat) (L2.rgV a b) := by
  refine reps_rg _ _ (by rw [rangeL_len, L2.rgV_length]) fun i h1 h2 => ?_
  obtain ⟨_, e⟩ := rangeL_get _ a i _ (List.getElem?_eq_getElem h1)
  rw [e]
  show (L2.rgV a b)[i] = V.int (a + (i : Nat))
  simp [L2.rgV]
theorem small_rg {i j : Int} (h1 : small i = true) (h2 : small j = true) : RgOk i j := by
  obtain ⟨a1, a2⟩ := small_b h1
  obtain ⟨b1, b2⟩ := small_b h2
  unfold RgOk
  refine ⟨?_, ?_, ?_, ?_, ?_⟩ <;> omega
/-- the list is made, by and by: as a value, or as the new thing itself -/
theorem okF_made {g : Glo} {m : Mem} {S : Store} {H H2 : Hp} {D : Addr} {zs : List PV} {ps : List V} {fr : Bool} {Q : VK} {E : XK} (hS : SR g m S H) (hD : H D = none) (e : H2 D = some (.lst ps)) (k : ∀ c o, H c = some o → H2 c = some o)
    (r : ∀ H3, (∀ c, c ≠ D → H3 c = H2 c) → Reps g m H3 zs ps) (h : OkF g fr m H (.ok (.lst zs) S) Q E) : Q (.ref D) H2 := by
  have hDm : D ∉ m := hS.fresh hD
  have mk : ∀ H3 : Hp, (∀ c, c ≠ D → H3 c = H2 c) → Fut m H m H3 ∧ SR g m S H3 := fun H3 q => by
    have e3 : ∀ c o, H c = some o → H3 c = some o := fun c o ec => by rw [q c (ne_of_none ec hD)]; exact k c o ec
    have f : Fut m H m H3 := ⟨⟨⟨[], by simp⟩, fun a o ea _ => e3 a o ea, fun _ ha => .inl ha⟩, rfl, fun a ha => by
      obtain ⟨o, ea⟩ := hS.hi a ha
      rw [ea]; exact e3 a o ea⟩
    refine ⟨f, hS.keep f (fun a ha => ?_) fun a ha => ?_⟩
    · obtain ⟨vs, ea⟩ := hS.mem ha
      rw [ea]; exact e3 a _ ea
    · obtain ⟨o, ea⟩ := hS.hi a ha
      exact ⟨o, e3 a o ea⟩
  cases fr with
  | false =>
    obtain ⟨f, s⟩ := mk H2 fun _ _ => rfl
    exact h (.ref D) H2 m f s ⟨D, ps, rfl, ⟨e, hDm⟩, r H2 fun _ _ => rfl⟩
  | true =>
    let H3 : Hp := fun c => if c = D then none else H2 c
    have q : ∀ c, c ≠ D → H3 c = H2 c := fun c n => if_neg n
    obtain ⟨f, s⟩ := mk H3 q
    have z := h D ps H3 m f s (if_pos rfl) (r H3 q)
    have ee : upd H3 D (.lst ps) = H2 := by
      funext c
      by_cases n : c = D
      · rw [n, upd_same, e]
      · rw [upd_ne n, q c n]
    rwa [ee] at z
theorem itOf_items {S : Store} {v : PV} {r : List PV × Guard} (h : itOf S v = some r) : itemsOf S v = some r.1 := by
  cases v <;> first | (cases h; rfl) | (cases h; done) | skip
  · rename_i n
    show (match S[n]? with
      | some (.l xs) => some xs
      | _ => none) = some r.1
    have h : (match S[n]? with
      | some (.l xs) => some (xs, [(n, SO.l xs)])
      | _ => none) = some r := h
    cases q : S[n]? with
    | none => rw [q] at h; cases h
    | some o =>
      rw [q] at h
      cases o with
      | l xs => cases h; rfl
      | d _ => cases h
theorem s_biIt {b : BI} {it : It} (ha : ∀ a, it = .rng1 a → SE x a) (hb : ∀ a b, it = .rng2 a b → SE x a ∧ SE x b) (hzz : ∀ a b, it = .zip a b → SE x a ∧ SE x b) : SEF x (.biIt b it) := fun fr c y hc X Wx hX σp S σ H m Q hE hS h => by
  cases y <;> first | cases hc | skip
  rename_i fe ys kws pos
  cases fe <;> first | cases hc | skip
  rename_i z p
  match ys, kws, hc with
  | [a'], [], hc =>
    obtain ⟨hb0, k1⟩ := and_t hc
    obtain ⟨h1, k2⟩ := and_t k1
    obtain ⟨h2, k3⟩ := and_t k2
    obtain ⟨h3, k4⟩ := and_t k3
    obtain ⟨h4, h5⟩ := and_t k4
    have ez := of_decide_eq_true h1
    subst ez
    have st : starEach [a'] X.env = (false, eval a' X.env) :: starEach [] X.env := nst_star h4
    have go : ∀ (t : L2.St → Hp → (Int → Int → Hp → Prop) → Prop), PRg X a' t → (∀ R : Int → Int → Hp → Prop, (∀ i j H1 S1 m1, small i = true → small j = true → Fut m H m1 H1 → SR x.g m1 S1 H1 → OkF x.g fr m1 H1 (biOf b (rangeL i (j - i).toNat) S1) Q (fun cl d H' => Wx cl d σ H') → R i j H1) → t σ H R) → W X (.Call (.Name (biN b) p) [a'] [] pos) σ H Q := fun t hp ht => by
      cases b with
      | list =>
        refine W.of (pe_listRg hX.calm (gl_of hX h2) (bl_of hX (by decide)) hp st) (ht _ fun i j H1 S1 m1 k1 k2 f1 s1 h => ⟨small_rg k1 k2, ok_new_lst s1 reps_range h⟩)
      | tuple =>
        refine W.of (pe_tupRg hX.calm (gl_of hX h2) (bl_of hX (by decide)) hp st) (ht _ fun i j H1 S1 m1 k1 k2 f1 s1 h => ⟨small_rg k1 k2, ok_new_tup s1 reps_range h⟩)
      | _ => cases hb0
    cases it with
    | rng1 a =>
      have h : OkF x.g fr m H (((EV x a σp S).bind fun z S1 => match z with
        | .int i => match small i with
          | true => .ok (rangeL 0 i.toNat, []) S1
          | false => .stuck
        | _ => .stuck).bind fun (xs : List PV × Guard) S1 => biOf b xs.1 S1) Q (fun cl d H' => Wx cl d σ H') := h
      cases a' <;> first | cases h5 | skip
      rename_i fe2 ys2 kws2 pos2
      cases fe2 <;> first | cases h5 | skip
      rename_i z2 p2
      match ys2, kws2, h5, h4, st, go with
      | [a2], [], h5, h4, st, go =>
        obtain ⟨g1, l2⟩ := and_t h5
        obtain ⟨g2, l3⟩ := and_t l2
        obtain ⟨g3, g4⟩ := and_t l3
        have ez := of_decide_eq_true g1
        subst ez
        refine go _ (prg_1 (gl_of hX g2) (bl_of hX (by decide)) pe_W (nst_star g3)) fun R hR => ?_
        refine ha a rfl c _ g4 X Wx hX σp S σ H m _ hE hS ?_
        cases q : EV x a σp S with
        | stuck => rw [q] at h; exact (OkF.no h).elim
        | exc cl S1 =>
          rw [q] at h
          cases fr <;> exact h
        | ok v S1 =>
          rw [q, obind_ok] at h
          cases v <;> first | exact (OkF.no h).elim | skip
          rename_i i
          cases k : small i with
          | false => simp only [k] at h; exact (OkF.no h).elim
          | true =>
            simp only [k, obind_ok] at h
            intro u H1 m1 f1 s1 r1
            cases r1
            refine ⟨i, rfl, hR 0 i H1 S1 m1 (by decide) k f1 s1 ?_⟩
            rw [Int.sub_zero]
            exact OkF.step f1 h
    | rng2 a b2 =>
      obtain ⟨ha2, hb2⟩ := hb a b2 rfl
      have h : OkF x.g fr m H (((EV x a σp S).bind fun z S1 => (EV x b2 σp S1).bind fun w S2 => match z, w with
        | .int i, .int j => match small i && small j with
          | true => .ok (rangeL i (j - i).toNat, []) S2
          | false => .stuck
        | _, _ => .stuck).bind fun (xs : List PV × Guard) S1 => biOf b xs.1 S1) Q (fun cl d H' => Wx cl d σ H') := h
      cases a' <;> first | cases h5 | skip
      rename_i fe2 ys2 kws2 pos2
      cases fe2 <;> first | cases h5 | skip
      rename_i z2 p2
      match ys2, kws2, h5, h4, st, go with
      | [a2, b3], [], h5, h4, st, go =>
        obtain ⟨g1, l2⟩ := and_t h5
        obtain ⟨g2, l3⟩ := and_t l2
        obtain ⟨g3, l4⟩ := and_t l3
        obtain ⟨g4, l5⟩ := and_t l4
        obtain ⟨g5, g6⟩ := and_t l5
        have ez := of_decide_eq_true g1
        subst ez
        have st2 : starEach [b3] X.env = [(false, eval b3 X.env)] := nst_star g4
        have st1 : starEach [a2, b3] X.env = [(false, eval a2 X.env), (false, eval b3 X.env)] := by rw [nst_star g3, st2]
        refine go _ (prg_2 (gl_of hX g2) (bl_of hX (by decide)) pe_W pe_W (nst_star g3) st2 (by rw [st2]; rfl)) fun R hR => ?_
        refine ha2 c _ g5 X Wx hX σp S σ H m _ hE hS ?_
        cases q : EV x a σp S with
        | stuck => rw [q] at h; exact (OkF.no h).elim
        | exc cl S1 =>
          rw [q] at h
          cases fr <;> exact h
        | ok v S1 =>
          rw [q, obind_ok] at h
          intro u H1 m1 f1 s1 r1
          refine hb2 c _ g6 X Wx hX σp S1 σ H1 m1 _ (hE.fut f1) s1 ?_
          cases q2 : EV x b2 σp S1 with
          | stuck => rw [q2] at h; exact (OkF.no h).elim
          | exc cl S2 =>
            rw [q2] at h
            refine OkX.step f1 ?_
            cases fr <;> exact h
          | ok v2 S2 =>
            rw [q2, obind_ok] at h
            cases v <;> first | exact (OkF.no h).elim | skip
            rename_i i
            cases v2 <;> first | exact (OkF.no h).elim | skip
            rename_i j
            cases k : small i && small j with
            | false => simp only [k] at h; exact (OkF.no h).elim
            | true =>
              simp only [k, obind_ok] at h
              obtain ⟨k1, k2⟩ := and_t k
              intro u2 H2 m2 f2 s2 r2
              cases r1
              cases r2
              refine ⟨i, j, rfl, rfl, hR i j H2 S2 m2 k1 k2 (f1.trans f2) s2 ?_⟩
              exact OkF.step (f1.trans f2) h
    | zip a b2 =>
      obtain ⟨ha2, hb2⟩ := hzz a b2 rfl
      cases b <;> first | cases h3 | skip
      have h : OkF x.g fr m H (((EV x a σp S).bind fun z S1 => (EV x b2 σp S1).bind fun w S2 => match itOf S2 z, itOf S2 w with
        | some xs, some ys => .ok (zipL xs.1 ys.1, xs.2 ++ ys.2) S2
        | _, _ => .stuck).bind fun (xs : List PV × Guard) S1 => biOf .list xs.1 S1) Q (fun cl d H' => Wx cl d σ H') := h
      clear go
      cases a' <;> first | cases h5 | skip
      rename_i fe2 ys2 kws2 pos2
      cases fe2 <;> first | cases h5 | skip
      rename_i z2 p2
      match ys2, kws2, h5, h4, st with
      | [a2, b3], [], h5, h4, st =>
        obtain ⟨g1, l2⟩ := and_t h5
        obtain ⟨g2, l3⟩ := and_t l2
        obtain ⟨g3, l4⟩ := and_t l3
        obtain ⟨g4, l5⟩ := and_t l4
        obtain ⟨g5, g6⟩ := and_t l5
        have ez := of_decide_eq_true g1
        subst ez
        have st2 : starEach [b3] X.env = [(false, eval b3 X.env)] := nst_star g4
        refine W.of (pe_lzip hX.calm (gl_of hX h2) (bl_of hX (by decide)) (gl_of hX g2) (bl_of hX (by decide)) (pa_cons pe_W (pa_cons pe_W pa_nil st2) (nst_star g3)) (nst_star g3) (by rw [st2]; rfl)) ?_
        refine ha2 c _ g5 X Wx hX σp S σ H m _ hE hS ?_
        cases q : EV x a σp S with
        | stuck => rw [q] at h; exact (OkF.no h).elim
        | exc cl S1 =>
          rw [q] at h
          cases fr <;> exact h
        | ok v S1 =>
          rw [q, obind_ok] at h
          intro u H1 m1 f1 s1 r1
          refine hb2 c _ g6 X Wx hX σp S1 σ H1 m1 _ (hE.fut f1) s1 ?_
          cases q2 : EV x b2 σp S1 with
          | stuck => rw [q2] at h; exact (OkF.no h).elim
          | exc cl S2 =>
            rw [q2] at h
            refine OkX.step f1 ?_
            cases fr <;> exact h
          | ok w S2 =>
            rw [q2, obind_ok] at h
            intro u2 H2 m2 f2 s2 r2
            cases k1 : itOf S2 v with
            | none => simp only [k1] at h; exact (OkF.no h).elim
            | some xs =>
              cases k2 : itOf S2 w with
              | none => simp only [k1, k2] at h; exact (OkF.no h).elim
              | some ys =>
                simp only [k1, k2, obind_ok] at h
                obtain ⟨p3, vs, rfl, hq, hr⟩ := itemsOf_ok s2 (r1.fut f2) (itOf_items k1)
                obtain ⟨p4, vs', rfl, hq', hr'⟩ := itemsOf_ok s2 r2 (itOf_items k2)
                have sq : ∀ {pp : Addr} {zs : List V}, SqL x.g.K H2 pp zs ∨ SqT x.g.K H2 pp zs → ∃ l, SqS X.K H2 l pp zs := fun hh => by
                  rw [hX.K]
                  rcases hh with hh | hh
                  · exact ⟨true, hh⟩
                  · exact ⟨false, hh⟩
                obtain ⟨l, hq⟩ := sq hq
                obtain ⟨l', hq'⟩ := sq hq'
                refine ⟨l, l', p3, p4, vs, vs', rfl, hq, hq', fun D H3 ps hD e1 e2 e3 e4 => ?_⟩
                refine okF_made s2 hD e1 e4 (fun H4 hh4 => ?_) (OkF.step (f1.trans f2) h)
                have gr : Grow m2 H2 m2 H4 := ⟨⟨[], by simp⟩, fun c o ec _ => by rw [hh4 c (ne_of_none ec hD)]; exact e4 c o ec, fun _ hc => .inl hc⟩
                have lz := zipL_len xs.1 ys.1
                refine reps_rg ps (zipL xs.1 ys.1) (by rw [e2, lz, hr.length, hr'.length]) fun i i1 i2 => ?_
                obtain ⟨w1, w2, hw1, hw2, ev⟩ := zipL_get _ _ _ _ (List.getElem?_eq_getElem i1)
                obtain ⟨T, y1, y2, t1, t2, t3, t4, t5⟩ := e3 i ps[i] (List.getElem?_eq_getElem i2)
                obtain ⟨z1, hz1, rz1⟩ := hr.get hw1
                obtain ⟨z2, hz2, rz2⟩ := hr'.get hw2
                rw [hz1] at t4
                rw [hz2] at t5
                cases t4
                cases t5
                rw [ev, t1]
                have tD : T ≠ D := fun q => by rw [q, e1] at t3; cases t3
                exact ⟨T, _, rfl, .inl ⟨by rw [hh4 T tD]; exact t3, s2.fresh t2⟩, Reps.cons (rz1.gro gr) (Reps.cons (rz2.gro gr) Reps.nil)⟩
    | _ => cases h3

/-- a list made to be changed: live from here on -/
theorem fut_live {g : Glo} {m : Mem} {S : Store} {H : Hp} {p : Addr} {vs : List V} (hS : SR g m S H) (hp : H p = none) : Fut m H ⟨m.l ++ [p], m.h⟩ (upd H p (.lst vs)) :=
  ⟨⟨⟨[p], rfl⟩, fun a u h _ => by rw [upd_ne (ne_of_none h hp)]; exact h, fun a ha => by
    rcases ha with ha | ha
    · rcases List.mem_append.mp ha with ha | ha
      · exact .inl (.inl ha)
      · have e : a = p := by simpa using ha
        exact .inr (by rw [e]; exact hp)
    · exact .inl (.inr ha)⟩, rfl, fun a ha => upd_ne fun e => by
      obtain ⟨u, q⟩ := hS.hi a ha
      rw [e, hp] at q; cases q⟩
theorem SR.live {g : Glo} {m : Mem} {S : Store} {H : Hp} {p : Addr} {xs : List PV} {vs : List V} (hS : SR g m S H) (hp : H p = none) (r : Reps g m H xs vs) (cl : cleans xs = true) : SR g ⟨m.l ++ [p], m.h⟩ (S ++ [.l xs]) (upd H p (.lst vs)) := by
  have f := fut_live (vs := vs) hS hp
  have np : p ∉ m := hS.fresh hp
  refine ⟨by simp [hS.len], ?_, fun i o a e1 e2 => ?_, fun a ha hb => ?_, fun a ha => ?_⟩
  · rw [List.nodup_append]
    exact ⟨hS.nd, by simp, fun a ha b hb e => by
      have q : b = p := by simpa using hb
      exact np (.inl (by rw [← q, ← e]; exact ha))⟩
  · by_cases hi : i < S.length
    · rw [List.getElem?_append_left hi] at e1
      have e2 : (m.l ++ [p])[i]? = some a := e2
      rw [List.getElem?_append_left (by rw [hS.len]; exact hi)] at e2
      have q := hS.at_ i o a e1 e2
      cases o with
      | d _ => exact False.elim q
      | l ys =>
        obtain ⟨ws, k1, k2, k3⟩ := q
        exact ⟨ws, by rw [upd_ne (ne_of_none k1 hp)]; exact k1, k2.gro f.toGrow, k3⟩
    · have ei : i = S.length := by
        have := (List.getElem?_eq_some_iff.mp e1).1
        simp at this; omega
      subst ei
      have e2 : (m.l ++ [p])[S.length]? = some a := e2
      rw [← hS.len, List.getElem?_concat_length] at e2
      rw [List.getElem?_concat_length] at e1
      cases e1
      cases e2
      exact ⟨vs, upd_same, r.gro f.toGrow, cl⟩
  · rcases List.mem_append.mp ha with ha | ha
    · exact hS.ap a ha hb
    · have e : a = p := by simpa using ha
      exact np (.inr (e ▸ hb))
  · obtain ⟨o, q⟩ := hS.hi a ha
    exact ⟨o, by rw [upd_ne (ne_of_none q hp)]; exact q⟩
theorem okn_of {g : Glo} {m : Mem} {H : Hp} {o : Out PV} {Q : VK} {E : XK} (h : OkE g m H (o.bind fun z S1 => match z with
    | .lst xs => match cleans xs with
      | true => .ok (.loc S1.length) (S1 ++ [.l xs])
      | false => .stuck
    | _ => .stuck) Q E) : OkF g true m H o Q E := by
  show OkN g m H o Q _
  cases o with
  | stuck => exact h
  | exc cl S1 => exact h
  | ok z S1 =>
    rw [obind_ok] at h
    cases z <;> first | exact False.elim h | skip
    rename_i xs
    cases cl : cleans xs with
    | false => simp only [cl] at h; exact False.elim h
    | true =>
      simp only [cl] at h
      intro p vs H1 m1 f s hp r
      refine h (.ref p) _ ⟨m1.l ++ [p], m1.h⟩ (f.trans (fut_live s hp)) (s.live hp r cl) ⟨p, rfl, ?_⟩
      show (m1.l ++ [p])[S1.length]? = some p
      rw [← s.len, List.getElem?_concat_length]
theorem s_new {e : E} (he : SEF x e) : SE x (.new e) := fun c y hc X Wx hX σp S σ H m Q hE hS h => by
  have hc : (e.fresh && chkE x.k c e y) = true := by
    cases y <;> exact hc
  obtain ⟨_, h2⟩ := and_t hc
  exact he true c y h2 X Wx hX σp S σ H m Q hE hS (okn_of h)
end
end Zv

end
section
set_option Elab.async false
set_option linter.all false
set_option maxRecDepth 100000
set_option maxHeartbeats 4000000
/-! Z14: all texts of expressions. -/
namespace Zv
open PySem PySem.Spec PyProof.Rows L2

section
variable {x : Gx}
theorem b_ife {d a b : E} (hd : SB x d) (ha : SB x a) (hb : SB x b) : SB x (.ife d a b) := fun c y hc X Wx hX σp S σ H m Q hE hS h => by
  cases y <;> first | cases hc | skip
  rename_i d' a' b' pos
  obtain ⟨h1, k2⟩ := and_t hc
  obtain ⟨h2, h3⟩ := and_t k2
  have h : OkX x.g TrR m H (((EV x d σp S).bind fun z S1 => match truth z with
    | some true => EV x a σp S1
    | some false => EV x b σp S1
    | none => .stuck).bind fun v S1 => match truth v with
      | some _ => .ok v S1
      | none => .stuck) Q (fun cl d H' => Wx cl d σ H') := h
  have go : WT X d' σ H (fun k H1 => match k with
    | true => WT X a' σ H1 Q
    | false => WT X b' σ H1 Q) := by
    refine hd c d' h1 X Wx hX σp S σ H m _ hE hS (tr_fst h (fun v S1 et => by simp only [et]) fun v k S1 m1 H1 et f1 s1 h4 => ?_)
    simp only [et] at h4
    cases k with
    | true => exact ha c a' h2 X Wx hX σp S1 σ H1 m1 Q (hE.fut f1) s1 h4
    | false => exact hb c b' h3 X Wx hX σp S1 σ H1 m1 Q (hE.fut f1) s1 h4
  intro pins s I
  show wpAny (model X.prog X.w) X.A ((isTrue d' X.env (eval d' X.env)) >>= fun k => if k = true then isTrue a' X.env (eval a' X.env) else isTrue b' X.env (eval b' X.env)) (TP X pins σ Q) X.xe s
  refine wpAny_bind (thn (go pins s I) fun k s1 ⟨H1, I1, q⟩ => ?_)
  cases k with
  | true => exact q pins s1 I1
  | false => exact q pins s1 I1
variable (x) in
structure EA (e : E) : Prop where
  se : SE x e
  sb : SB x e
  bw : SBW x e
  sf : e.fresh = true → SEF x e
theorem EA.plain {e : E} (h : SE x e) (p : ∀ (c : SCx) (y : Expr), chkE x.k c e y = true → isT y = false) (hf : e.fresh = false) : EA x e :=
  ⟨h, b_plain h p, fun c op vs pos hc => (by have := p c _ hc; cases this), fun q => by rw [hf] at q; cases q⟩
theorem EA.plainF {e : E} (h : SEF x e) (p : ∀ (c : SCx) (y : Expr), chkE x.k c e y = true → isT y = false) : EA x e :=
  ⟨h.se, b_plain h.se p, fun c op vs pos hc => (by have := p c _ hc; cases this), fun _ => h⟩
theorem fresh_plain {e : E} (hf : e.fresh = true) (c : SCx) (y : Expr) (h : chkE x.k c e y = true) : isT y = false := by
  cases e <;> first | (cases y <;> first | rfl | cases h) | cases hf
mutual
theorem eAll : (e : E) → EA x e
  | .var i => .plain (s_var i) (fun c y h => by cases y <;> first | rfl | cases h) rfl
  | .con k => .plain (s_con k) (fun c y h => by cases y <;> first | rfl | cases h) rfl
  | .gl y id => .plain (s_gl y id) (fun c y h => by cases y <;> first | rfl | cases h) rfl
  | .fnr f => .plain (s_fnr f) (fun c y h => by cases y <;> first | rfl | cases h) rfl
  | .bin op a b => .plainF (s_bin (eAll a).se (eAll b).se) (fun c y h => by cases y <;> first | rfl | cases h)
  | .neg a => .plain (s_neg (eAll a).se) (fun c y h => by
      cases y <;> first | rfl | cases h | skip
      rename_i op _ _
      cases op <;> first | rfl | cases h) rfl
  | .and a b =>
    have ha := eAll a
    have hb := eAll b
    have hw := bw_and ha.sb hb.sb hb.bw
    ⟨s_and ha.se hb.se, b_and hw, hw, fun q => by cases q⟩
  | .or a b =>
    have ha := eAll a
    have hb := eAll b
    have hw := bw_or ha.sb hb.sb hb.bw
    ⟨s_or ha.se hb.se, b_or hw, hw, fun q => by cases q⟩
  | .not a =>
    have ha := eAll a
    ⟨s_not ha.se, b_not ha.sb, fun c op vs pos hc => (by cases hc), fun q => by cases q⟩
  | .cmp op a b =>
    have ha := eAll a
    have hb := eAll b
    ⟨s_cmp ha.se hb.se, b_cmp ha.se hb.se, fun c op vs pos hc => (by cases hc), fun q => by cases q⟩
  | .chain op op2 a b d =>
    have ha := eAll a
    have hb := eAll b
    have hd := eAll d
    ⟨s_chain ha.se hb.se hd.se, b_chain ha.se hb.se hd.se, fun c op vs pos hc => (by cases hc), fun q => by cases q⟩
  | .call f es => .plain (s_call (esAll es)) (fun c y h => by cases y <;> first | rfl | cases h) rfl
  | .callv i es => .plain (s_callv (esAll es)) (fun c y h => by cases y <;> first | rfl | cases h) rfl
  | .bi b es =>
    have h := s_bi (b := b) (esAll es)
    ⟨h.se, b_plain h.se (fun c y h => by cases y <;> first | rfl | cases h), fun c op vs pos hc => (by cases hc), fun _ => h⟩
  | .biIt b it =>
    have q := iAll it
    have h : SEF x (.biIt b it) := s_biIt (fun a e => by subst e; exact q.2.1 a rfl) (fun a b e => by subst e; exact q.2.2.1 a b rfl) (fun a b e => by subst e; exact q.2.2.2 a b rfl)
    ⟨h.se, b_plain h.se (fun c y h => by cases y <;> first | rfl | cases h), fun c op vs pos hc => (by cases hc), fun _ => h⟩
  | .isin a t => .plain (s_isin (eAll a).se) (fun c y h => by cases y <;> first | rfl | cases h) rfl
  | .meth m r es => .plain (s_meth (eAll r).se (esAll es)) (fun c y h => by cases y <;> first | rfl | cases h) rfl
  | .ix a b => .plain (s_ix (eAll a).se (eAll b).se) (fun c y h => by cases y <;> first | rfl | cases h) rfl
  | .sl a lo hi => .plainF (s_sl (eAll a).se (oAll lo) (oAll hi)) (fun c y h => by cases y <;> first | rfl | cases h)
  | .slrev a => .plainF (s_slrev (eAll a).se) (fun c y h => by cases y <;> first | rfl | cases h)
  | .ife d a b =>
    have hd := eAll d
    have ha := eAll a
    have hb := eAll b
    ⟨s_ife hd.sb ha.se hb.se, b_ife hd.sb ha.sb hb.sb, fun c op vs pos hc => (by cases hc), fun q => by cases q⟩
  | .tup es => .plain (s_tup (esAll es)) (fun c y h => by cases y <;> first | rfl | cases h) rfl
  | .lst es => .plainF (s_lst (esAll es)) (fun c y h => by cases y <;> first | rfl | cases h)
  | .new e =>
    have he := eAll e
    ⟨fun c y hc => by
      have hf : e.fresh = true := (and_t (show (e.fresh && chkE x.k c e y) = true by cases y <;> exact hc)).1
      exact s_new (he.sf hf) c y hc,
     fun c y hc => by
      have k := and_t (show (e.fresh && chkE x.k c e y) = true by cases y <;> exact hc)
      exact b_plain (s_new (he.sf k.1)) (fun c y hc => fresh_plain k.1 c y (and_t (show (e.fresh && chkE x.k c e y) = true by cases y <;> exact hc)).2) c y hc,
     fun c op vs pos hc => (by
      have k := and_t (show (e.fresh && chkE x.k c e (.BoolOp op vs pos)) = true from hc)
      have := fresh_plain k.1 c _ k.2
      cases this), fun q => by cases q⟩
  | .comp own el t it cs => .plainF (s_comp (eAll el).se (tAll t) (iAll it).1 (cAll cs)) (fun c y h => by cases y <;> first | rfl | cases h)
  | .comp2 own el t it cs own2 t2 it2 cs2 => .plainF (s_comp2 (eAll el).se (tAll t) (iAll it).1 (cAll cs) (tAll t2) (iAll it2).1 (cAll cs2)) (fun c y h => by cases y <;> first | rfl | cases h)
  | .dict ks vs => .plain (fun c y hc => by cases y <;> cases hc) (fun c y h => by cases y <;> cases h) rfl
  | .dix kvs e => .plain (s_dix (eAll e).se) (fun c y h => by cases y <;> first | rfl | cases h) rfl
theorem esAll : (es : List E) → SEs x es
  | [] => s_nil
  | e :: es => s_cons (eAll e).se (esAll es)
theorem cAll : (es : List E) → SC x es
  | [] => c_nil
  | e :: _ => c_one (eAll e).sb
theorem oAll : (o : Option E) → SO_ x o
  | none => o_none
  | some e => o_some (eAll e).se
theorem iAll : (it : It) → SI x it ∧ (∀ a, it = .rng1 a → SE x a) ∧ (∀ a b, it = .rng2 a b → SE x a ∧ SE x b) ∧ (∀ a b, it = .zip a b → SE x a ∧ SE x b)
  | .val e => ⟨i_val (eAll e).se, fun _ q => (by cases q), fun _ _ q => (by cases q), fun _ _ q => by cases q⟩
  | .rng1 a =>
    have ha := (eAll a).se
    ⟨i_rng1 ha, fun _ q => (by cases q; exact ha), fun _ _ q => (by cases q), fun _ _ q => by cases q⟩
  | .rng2 a b =>
    have ha := (eAll a).se
    have hb := (eAll b).se
    ⟨i_rng2 ha hb, fun _ q => (by cases q), fun _ _ q => (by cases q; exact ⟨ha, hb⟩), fun _ _ q => by cases q⟩
  | .rng3 a b d => ⟨i_rng3 (eAll a).se (eAll b).se (eAll d).se, fun _ q => (by cases q), fun _ _ q => (by cases q), fun _ _ q => by cases q⟩
  | .enum e => ⟨i_enum (eAll e).se, fun _ q => (by cases q), fun _ _ q => (by cases q), fun _ _ q => by cases q⟩
  | .zip a b =>
    have ha := (eAll a).se
    have hb := (eAll b).se
    ⟨i_zip ha hb, fun _ q => (by cases q), fun _ _ q => (by cases q), fun _ _ q => by cases q; exact ⟨ha, hb⟩⟩
theorem tAll : (t : T) → ST x t
  | .nm i => t_nm i
  | .tp ts => t_tp (tsAll ts)
  | .sub a i => t_sub (eAll a).se (eAll i).se
theorem tsAll : (ts : List T) → STs x ts
  | [] => ts_nil
  | t :: ts => ts_cons (tAll t) (tsAll ts)
end
end
end Zv

end
section
set_option Elab.async false
set_option linter.all false
set_option maxRecDepth 100000
set_option maxHeartbeats 4000000
/-! Z15: statements. -/
namespace Zv
open PySem PySem.Spec PyProof.Rows L2

def isComp : Expr → Bool
  | .ListComp .. => true
  | .SetComp .. => true
  | .DictComp .. => true
  | _ => false
def isLC : Expr → Bool
  | .ListComp .. => true
  | _ => false
def isStar : Expr → Bool
  | .Starred .. => true
  | _ => false
/-- the line of a text -/
def lnE (e : Expr) : Nat := e.pos.line
/-- is a fresh list stored while its comprehension's names go away? -/
def swV (sc : Scope) (v tg : Expr) : Bool := match v with
  | .ListComp _ _ s p => match tg with
    | .Name t q => sc.names.lookup t == some .local && q.line == p.line && !(s.names.any fun (n, k) => n == t && (k == .local || k == .cell))
    | _ => false
  | _ => false
def swN (sc : Scope) (line : Nat) : Expr → Option Str
  | .Name id pos => if sc.names.lookup id == some .local && pos.line == line then some id else none
  | _ => none
def swS (sc : Scope) (ts vs : List Expr) : Option (Option (List Str)) :=
  if !(ts.length == 2 || ts.length == 3) || vs.length != ts.length then some none else
  if vs.any isStar then some none else
  if (ts.filterMap (swN sc ((ts.head?.map (·.pos.line)).getD 0))).length != ts.length || (ts.filterMap (swN sc ((ts.head?.map (·.pos.line)).getD 0))).eraseDups.length != (ts.filterMap (swN sc ((ts.head?.map (·.pos.line)).getD 0))).length then some none else
  if vs.all (foldedForSure 8) then some none else
  if vs.all (constantsAlone 8) then none else some (some (ts.filterMap (swN sc ((ts.head?.map (·.pos.line)).getD 0))))
theorem swV_eq {env : PySem.Env} {v tg : Expr} {l : Nat} (hk : env.scope.kind = .function) (hv : isComp v = isLC v) : swapsWith v (some tg) l env = pure (swV env.scope v tg) := by
  have hb : env.blockKind = .function := by unfold Env.blockKind; rw [hk]; rfl
  cases v <;> first | rfl | cases hv | skip
  rename_i el gs sc pos
  cases tg <;> first | rfl | skip
  rename_i t q
  unfold swapsWith swV
  simp only [hb]
  show pure ((ScopeKind.function == ScopeKind.function) && (env.scope.names.lookup t == some NameKind.local) && (q.line == pos.line) && _) = _
  rfl
theorem swS_eq {env : PySem.Env} {ts vs : List Expr} {k k2 : Nat} {p p2 : Pos} {r : Option (List Str)} (hk : env.scope.kind = .function) (h : swS env.scope ts vs = some r) : swappedStores [.Tuple ts k p] (.Tuple vs k2 p2) env = pure r := by
  have hb : env.blockKind = .function := by unfold Env.blockKind; rw [hk]; rfl
  have hb2 : (env.blockKind != .function) = false := by rw [hb]; rfl
  have nm : ∃ ns, ns = ts.filterMap (swN env.scope ((ts.head?.map (·.pos.line)).getD 0)) := ⟨_, rfl⟩
  obtain ⟨ns, en⟩ := nm
  unfold swS at h
  rw [← en] at h
  have key : swappedStores [.Tuple ts k p] (.Tuple vs k2 p2) env = (if (!(ts.length == 2 || ts.length == 3) || vs.length != ts.length || env.blockKind != .function) = true then pure none else
    if vs.any isStar = true then pure none else
    if ((ts.filterMap (swN env.scope ((ts.head?.map (·.pos.line)).getD 0))).length != ts.length || (ts.filterMap (swN env.scope ((ts.head?.map (·.pos.line)).getD 0))).eraseDups.length != (ts.filterMap (swN env.scope ((ts.head?.map (·.pos.line)).getD 0))).length) = true then pure none else
    if vs.all (foldedForSure 8) = true then pure none else
    if vs.all (constantsAlone 8) = true then (do unsupported "assign.tuple-of-constant-expressions:order-of-the-stores"; pure (some (ts.filterMap (swN env.scope ((ts.head?.map (·.pos.line)).getD 0)))))
    else pure (some (ts.filterMap (swN env.scope ((ts.head?.map (·.pos.line)).getD 0))))) := by
    unfold swappedStores
    rfl
  rw [key, ← en, hb2, Bool.or_false]
  by_cases c1 : (!(ts.length == 2 || ts.length == 3) || vs.length != ts.length) = true
  · rw [if_pos c1] at h ⊢
    cases h; rfl
  rw [if_neg c1] at h ⊢
  by_cases c2 : vs.any isStar = true
  · rw [if_pos c2] at h ⊢
    cases h; rfl
  rw [if_neg c2] at h ⊢
  by_cases c3 : (ns.length != ts.length || ns.eraseDups.length != ns.length) = true
  · rw [if_pos c3] at h ⊢
    cases h; rfl
  rw [if_neg c3] at h ⊢
  by_cases c4 : vs.all (foldedForSure 8) = true
  · rw [if_pos c4] at h ⊢
    cases h; rfl
  rw [if_neg c4] at h ⊢
  by_cases c5 : vs.all (constantsAlone 8) = true
  · rw [if_pos c5] at h
    cases h
  rw [if_neg c5] at h ⊢
  cases h; rfl

def asgB (c : SCx) (tg v : Expr) : Bool := swV c.sc v tg || (match tg, v with
  | .Tuple ts _ _, .Tuple vs _ _ => decide (swS c.sc ts vs = some none)
  | _, _ => true)
def locI (c : SCx) (i : Nat) (y : Str) : Bool := decide (c.N[i]? = some y) && decide (c.sc.names.lookup y = some .local)
def parB (c : SCx) : List T → List Expr → List Expr → Bool
  | [.nm i, .nm j], [.Name y p, .Name z q], [a, b] => locI c i y && (locI c j z && (decide (i ≠ j) && decide (swS c.sc [.Name y p, .Name z q] [a, b] = some (some [y, z]))))
  | [.nm i, .nm j, .nm l], [.Name y p, .Name z q, .Name w r], [a, b, d] => locI c i y && (locI c j z && (locI c l w && (decide (i ≠ j) && (decide (i ≠ l) && (decide (j ≠ l) && decide (swS c.sc [.Name y p, .Name z q, .Name w r] [a, b, d] = some (some [y, z, w])))))))
  | _, _, _ => false
section
variable (k : Nms)
mutual
def chkS : SCx → St → Stmt → Bool
  | c, .asg t e, y => match y with
    | .Assign [tg] v _ => (isComp v == isLC v) && (asgB c tg v && (chkT k c t tg && chkE k c e v))
    | _ => false
  | c, .par ts es, y => match y with
    | .Assign [.Tuple ts' _ _] (.Tuple vs _ _) _ => parB c ts ts' vs && chkEs k c es vs
    | _ => false
  | c, .expr e, y => match y with
    | .Expr v _ => !isComp v && chkE k c e v
    | _ => false
  | c, .ret e, y => match y with
    | .Return (some v) _ => chkE k c e v
    | _ => false
  | _, .retN, y => match y with
    | .Return none _ => true
    | _ => false
  | c, .ifs d a b, y => match y with
    | .If d' a' b' _ => chkE k c d d' && (chkSs c a a' && chkSs c b b')
    | _ => false
  | c, .for_ t it body, y => match y with
    | .For tg iter body' [] _ => (!needT it || isTupE tg) && (chkT k c t tg && (chkI k c it iter && chkSs c body body'))
    | _ => false
  | c, .while_ _ d body, y => match y with
    | .While d' body' [] _ => chkE k c d d' && chkSs c body body'
    | _ => false
  | _, .raise _ _, _ => false
  | _, .pass, y => match y with
    | .Pass _ => true
    | _ => false
  | _, .never, _ => true
termination_by structural _ s => s
def chkSs : SCx → List St → List Stmt → Bool
  | _, [], ys => match ys with
    | [] => true
    | _ => false
  | c, s :: r, ys => match ys with
    | y :: q => chkS c s y && chkSs c r q
    | _ => false
termination_by structural _ r => r
end
end

def OkS (g : Glo) (m : Mem) (H : Hp) (o : SOut) (D : Ends) (Wx : WX) : Prop := match o with
  | .nx σp S' => ∀ σ' H' m', Fut m H m' H' → SR g m' S' H' → ER g m' H' σp σ' → D.nx σ' H'
  | .rt v S' => ∀ u H' m', Fut m H m' H' → SR g m' S' H' → Rep g m' H' v u → D.rt u H'
  | .exc x σp S' => ∀ c d σ' H' m', Fut m H m' H' → SR g m' S' H' → XR g H' x c d → ER g m' H' σp σ' → Wx c d σ' H'
  | .stuck => False
theorem OkS.step {g : Glo} {m m1 : Mem} {H H1 : Hp} {o : SOut} {D : Ends} {Wx : WX} (f : Fut m H m1 H1) (h : OkS g m H o D Wx) : OkS g m1 H1 o D Wx := by
  cases o with
  | nx σp S => exact fun σ' H' m' f' => h σ' H' m' (f.trans f')
  | rt v S => exact fun u H' m' f' => h u H' m' (f.trans f')
  | exc e σp S => exact fun c d σ' H' m' f' => h c d σ' H' m' (f.trans f')
  | stuck => exact h
/-- an expression's part of a statement -/
theorem ofE_fst {α β : Type} {g : Glo} {r : Mem → Hp → α → β → Prop} {m : Mem} {H : Hp} {σp : Env} {σ : L2.St} {o : Out α} {f : α → Store → SOut} {D : Ends} {Wx : WX} {Q' : β → Hp → Prop} (h : OkS g m H (ofE σp o f) D Wx) (hE : ER g m H σp σ)
    (k : ∀ (x : α) (S1 : Store) (m1 : Mem) (H1 : Hp) (u : β), o = .ok x S1 → Fut m H m1 H1 → SR g m1 S1 H1 → r m1 H1 x u → OkS g m1 H1 (f x S1) D Wx → Q' u H1) : OkX g r m H o Q' (fun cl d H' => Wx cl d σ H') := by
  cases o with
  | ok x S1 => exact fun v H' m' f' s' q => k x S1 m' H' v rfl f' s' q (OkS.step f' h)
  | exc x S => exact fun c d H' m' f' s' q => h c d σ H' m' f' s' q (hE.fut f')
  | stuck => exact h
/-- a test's part -/
theorem ofT_fst {g : Glo} {m : Mem} {H : Hp} {σp : Env} {σ : L2.St} {o : Out PV} {f : PV → Store → SOut} {D : Ends} {Wx : WX} {Q' : Bool → Hp → Prop} (h : OkS g m H (ofE σp o f) D Wx) (hE : ER g m H σp σ) (hf : ∀ v S1, truth v = none → f v S1 = .stuck)
    (k : ∀ (v : PV) (b : Bool) (S1 : Store) (m1 : Mem) (H1 : Hp), truth v = some b → Fut m H m1 H1 → SR g m1 S1 H1 → OkS g m1 H1 (f v S1) D Wx → Q' b H1) : OkX g TrR m H (o.bind fun v S1 => match truth v with
      | some _ => .ok v S1
      | none => .stuck) Q' (fun cl d H' => Wx cl d σ H') := by
  cases o with
  | ok v S1 =>
    rw [obind_ok]
    have h : OkS g m H (f v S1) D Wx := h
    cases et : truth v with
    | none => rw [hf v S1 et] at h; exact False.elim h
    | some b =>
      simp only [et]
      intro b' H1 m1 f1 s1 r1
      have r1 : truth v = some b' := r1
      rw [et] at r1
      cases r1
      exact k v b S1 m1 H1 et f1 s1 (OkS.step f1 h)
  | exc x S => exact fun c d H' m' f' s' q => h c d σ H' m' f' s' q (hE.fut f')
  | stuck => exact h
/-- a statement's part of several -/
theorem then_fst {g : Glo} {m : Mem} {H : Hp} {o : SOut} {f : Env → Store → SOut} {D : Ends} {Wx : WX} {N ct bk : L2.St → Hp → Prop} (h : OkS g m H (o.then_ f) D Wx)
    (k : ∀ (σp1 : Env) (S1 : Store) (m1 : Mem) (H1 : Hp) (σ1 : L2.St), o = .nx σp1 S1 → Fut m H m1 H1 → SR g m1 S1 H1 → ER g m1 H1 σp1 σ1 → OkS g m1 H1 (f σp1 S1) D Wx → N σ1 H1) : OkS g m H o { D with nx := N, ct := ct, bk := bk } Wx := by
  cases o with
  | nx σp1 S1 => exact fun σ1 H1 m1 f1 s1 r1 => k σp1 S1 m1 H1 σ1 rfl f1 s1 r1 (OkS.step f1 h)
  | rt v S => exact h
  | exc x σp S => exact h
  | stuck => exact h
section
variable (x : Gx)
abbrev Own (X : Cx) : Prop := PassesOwn (model X.prog X.w) X.A X.env X.xe
def SS (st : St) : Prop := ∀ (c : SCx) (y : Stmt), chkS x.k c st y = true → c.sc.kind = .function → ∀ (X : Cx) (Wx : WX), XC x c Wx X → Own X → ∀ (σp : Env) (S : Store) (σ : L2.St) (H : Hp) (m : Mem) (D : Ends),
  ER x.g m H σp σ → SR x.g m S H → OkS x.g m H (ex x.call x.G.gls st σp S) D Wx → WS X y D σ H
def SSs (sts : List St) : Prop := ∀ (c : SCx) (ys : List Stmt), chkSs x.k c sts ys = true → c.sc.kind = .function → ∀ (X : Cx) (Wx : WX), XC x c Wx X → Own X → ∀ (σp : Env) (S : Store) (σ : L2.St) (H : Hp) (m : Mem) (D : Ends),
  ER x.g m H σp σ → SR x.g m S H → OkS x.g m H (exs x.call x.G.gls sts σp S) D Wx → WSs X ys D σ H
end
section
variable {x : Gx}
theorem ss_pass : SS x .pass := fun c y hc hk X Wx hX ho σp S σ H m D hE hS h => by
  cases y <;> first | cases hc | skip
  exact WS.of ps_pass (h σ H m (Fut.refl _ _) hS hE)
theorem ss_never : SS x .never := fun c y hc hk X Wx hX ho σp S σ H m D hE hS h => False.elim h
theorem ss_retN : SS x .retN := fun c y hc hk X Wx hX ho σp S σ H m D hE hS h => by
  cases y <;> first | cases hc | skip
  rename_i v pos
  cases v with
  | some _ => cases hc
  | none => exact WS.of ps_retN (h .non H m (Fut.refl _ _) hS rfl)
theorem ss_ret {e : E} (he : SE x e) : SS x (.ret e) := fun c y hc hk X Wx hX ho σp S σ H m D hE hS h => by
  cases y <;> first | cases hc | skip
  rename_i v pos
  cases v with
  | none => cases hc
  | some v =>
    refine WS.of (ps_ret pe_W) ?_
    exact he c v hc X Wx hX σp S σ H m _ hE hS (ofE_fst h hE fun v S1 m1 H1 u e1 f1 s1 r1 h1 => h1 u H1 m1 (Fut.refl _ _) s1 r1)
theorem ss_expr {e : E} (he : SE x e) : SS x (.expr e) := fun c y hc hk X Wx hX ho σp S σ H m D hE hS h => by
  cases y <;> first | cases hc | skip
  rename_i v pos
  · have hc : (!isComp v && chkE x.k c e v) = true := hc
    obtain ⟨h1, h2⟩ := and_t hc
    have hs : swapsWith v none pos.line X.env = pure false := by
      cases v <;> first | rfl | cases h1
    refine WS.of (ps_expr pe_W hs) ?_
    exact he c v h2 X Wx hX σp S σ H m _ hE hS (ofE_fst h hE fun v S1 m1 H1 u e1 f1 s1 r1 h1 => h1 σ H1 m1 (Fut.refl _ _) s1 (hE.fut f1))
theorem ss_nil : SSs x [] := fun c ys hc hk X Wx hX ho σp S σ H m D hE hS h => by
  cases ys with
  | cons _ _ => cases hc
  | nil => exact WSs.of pss_nil (h σ H m (Fut.refl _ _) hS hE)
theorem ss_cons {s : St} {r : List St} (hs : SS x s) (hr : SSs x r) : SSs x (s :: r) := fun c ys hc hk X Wx hX ho σp S σ H m D hE hS h => by
  cases ys with
  | nil => cases hc
  | cons y q =>
    obtain ⟨h1, h2⟩ := and_t hc
    refine WSs.of (pss_cons ps_W pss_W) ?_
    have h : OkS x.g m H ((ex x.call x.G.gls s σp S).then_ fun σ1 S1 => exs x.call x.G.gls r σ1 S1) D Wx := h
    exact hs c y h1 hk X Wx hX ho σp S σ H m _ hE hS (then_fst h fun σp1 S1 m1 H1 σ1 e1 f1 s1 r1 k1 => hr c q h2 hk X Wx hX ho σp1 S1 σ1 H1 m1 D r1 s1 k1)
theorem ss_if {d : E} {a b : List St} (hd : SB x d) (ha : SSs x a) (hb : SSs x b) : SS x (.ifs d a b) := fun c y hc hk X Wx hX ho σp S σ H m D hE hS h => by
  cases y <;> first | cases hc | skip
  rename_i d' a' b' pos
  · have hc : (chkE x.k c d d' && (chkSs x.k c a a' && chkSs x.k c b b')) = true := hc
    obtain ⟨h1, k2⟩ := and_t hc
    obtain ⟨h2, h3⟩ := and_t k2
    refine WS.of (ps_if pt_W pss_W pss_W) ?_
    refine hd c d' h1 X Wx hX σp S σ H m _ hE hS (ofT_fst h hE (fun v S1 et => by simp only [et]) fun v k S1 m1 H1 et f1 s1 h4 => ?_)
    simp only [et] at h4
    cases k with
    | true =>
      rw [if_pos rfl]
      exact ha c a' h2 hk X Wx hX ho σp S1 σ H1 m1 D (hE.fut f1) s1 h4
    | false =>
      rw [if_neg Bool.false_ne_true]
      exact hb c b' h3 hk X Wx hX ho σp S1 σ H1 m1 D (hE.fut f1) s1 h4
theorem ss_for {t : T} {it : It} {body : List St} (ht : ST x t) (hi : SI x it) (hb : SSs x body) : SS x (.for_ t it body) := fun c y hc hk X Wx hX ho σp S σ H m D hE hS h => by
  cases y <;> first | cases hc | skip
  rename_i tg iter body' orelse pos
  cases orelse with
  | cons _ _ => cases hc
  | nil =>
    obtain ⟨h1, k2⟩ := and_t hc
    obtain ⟨h2, k3⟩ := and_t k2
    obtain ⟨h3, h4⟩ := and_t k3
    refine WS.of (ps_for ho hX.calm pi_W pg_W pss_W (fun v => chkI_set h3 X.env v)) ?_
    refine hi c iter tg h3 (tup_tgt h1) X Wx hX σp S σ H m _ hE hS (ofE_fst h hE fun xs S1 m1 H1 J e1 f1 s1 hJ k1 => ?_)
    obtain ⟨xs, gd⟩ := xs
    have k1 : OkS x.g m1 H1 (forL (fun z σ1 S2 => ofE σ1 (asgT x.call x.G.gls t z σ1 S2) fun σ2 S3 => exs x.call x.G.gls body σ2 S3) gd xs σp S1) D Wx := k1
    generalize hstep : (fun z σ1 S2 => ofE σ1 (asgT x.call x.G.gls t z σ1 S2) fun σ2 S3 => exs x.call x.G.gls body σ2 S3) = step at k1
    have hJ : ItOk x.g xs gd m1 H1 J := hJ
    refine ⟨fun i k σ H => k = xs.length - i ∧ i ≤ xs.length ∧ ∃ (mm : Mem) (S : Store) (σp : Env), Fut m1 H1 mm H ∧ SR x.g mm S H ∧ ER x.g mm H σp σ ∧ OkS x.g mm H (forL step gd (xs.drop i) σp S) D Wx,
      ⟨xs.length, rfl, Nat.zero_le _, m1, S1, σp, Fut.refl _ _, s1, hE.fut f1, by simpa using k1⟩, ?_⟩
    rintro i k σ2 H2 ⟨rfl, hi, mm, S2, σp2, f2, s2, r2, k2⟩
    by_cases hlt : i < xs.length
    · right
      have hdrop : xs.drop i = xs[i] :: xs.drop (i + 1) := List.drop_eq_getElem_cons hlt
      rw [hdrop] at k2
      have k2 : OkS x.g mm H2 (match okG gd S2 with
        | true => (step xs[i] σp2 S2).then_ fun σ1 S1 => forL step gd (xs.drop (i + 1)) σ1 S1
        | false => .stuck) D Wx := k2
      cases hg : okG gd S2 with
      | false => rw [hg] at k2; exact False.elim k2
      | true =>
        rw [hg] at k2
        obtain ⟨jgo, jy⟩ := hJ.go i xs[i] mm S2 H2 (List.getElem?_eq_getElem hlt) f2.toGrow s2 hg
        refine ⟨jgo, fun σ' H' => i + 1 ≤ xs.length ∧ ∃ (mm : Mem) (S : Store) (σp : Env), Fut m1 H1 mm H' ∧ SR x.g mm S H' ∧ ER x.g mm H' σp σ' ∧ OkS x.g mm H' (forL step gd (xs.drop (i + 1)) σp S) D Wx,
          fun σ' H' hn => ⟨xs.length - (i + 1), by omega, rfl, hn⟩, fun u H3 yl => ?_⟩
        obtain ⟨f3, s3, r3⟩ := jy u H3 yl
        have k3 := OkS.step f3 k2
        rw [← hstep] at k3
        have r3' := r2.fut f3
        have k4 := then_fst (N := fun σ' H' => i + 1 ≤ xs.length ∧ ∃ (mm : Mem) (S : Store) (σp : Env), Fut m1 H1 mm H' ∧ SR x.g mm S H' ∧ ER x.g mm H' σp σ' ∧ OkS x.g mm H' (forL step gd (xs.drop (i + 1)) σp S) D Wx) (ct := fun σ' H' => i + 1 ≤ xs.length ∧ ∃ (mm : Mem) (S : Store) (σp : Env), Fut m1 H1 mm H' ∧ SR x.g mm S H' ∧ ER x.g mm H' σp σ' ∧ OkS x.g mm H' (forL step gd (xs.drop (i + 1)) σp S) D Wx) (bk := D.nx) k3
          fun σp5 S5 m5 H5 σ5 e5 f5 s5 r5 k5 => ⟨hlt, m5, S5, σp5, (f2.trans f3).trans f5, s5, r5, by rw [hstep] at k5; exact k5⟩
        refine ht c tg h2 X Wx hX σp2 S2 σ2 H3 mm xs[i] u _ r3' s3 r3 (ofE_fst k4 r3' fun σp4 S4 m4 H4 σ4 e4 f4 s4 r4 h5 => ?_)
        exact hb c body' h4 hk X Wx hX ho σp4 S4 σ4 H4 m4 _ r4.1 s4 h5
    · left
      have ei : i = xs.length := by omega
      subst ei
      rw [List.drop_length] at k2
      have k2 : OkS x.g mm H2 (match okG gd S2 with
        | true => .nx σp2 S2
        | false => .stuck) D Wx := k2
      cases hg : okG gd S2 with
      | false => rw [hg] at k2; exact False.elim k2
      | true =>
        rw [hg] at k2
        exact ⟨hJ.stop mm S2 H2 f2.toGrow s2 hg, k2 σ2 H2 mm (Fut.refl _ _) s2 r2⟩
theorem ss_while {n : Nat} {d : E} {body : List St} (hd : SB x d) (hb : SSs x body) : SS x (.while_ n d body) := fun c y hc hk X Wx hX ho σp S σ H m D hE hS h => by
  cases y <;> first | cases hc | skip
  rename_i d' body' orelse pos
  cases orelse with
  | cons _ _ => cases hc
  | nil =>
    obtain ⟨h1, h2⟩ := and_t hc
    refine WS.of (ps_while ho pt_W pss_W) ?_
    refine ⟨fun k σ H => ∃ (mm : Mem) (S : Store) (σp : Env), SR x.g mm S H ∧ ER x.g mm H σp σ ∧ OkS x.g mm H (whileL (EV x d) (exs x.call x.G.gls body) k σp S) D Wx, ⟨n, m, S, σp, hS, hE, h⟩, ?_⟩
    rintro k σ2 H2 ⟨mm, S2, σp2, s2, r2, k2⟩
    cases k with
    | zero => exact False.elim k2
    | succ k =>
      have k2 : OkS x.g mm H2 (ofE σp2 (EV x d σp2 S2) fun z S1 => match truth z with
        | some true => (exs x.call x.G.gls body σp2 S1).then_ fun σ1 S3 => whileL (EV x d) (exs x.call x.G.gls body) k σ1 S3
        | some false => .nx σp2 S1
        | none => .stuck) D Wx := k2
      refine hd c d' h1 X Wx hX σp2 S2 σ2 H2 mm _ r2 s2 (ofT_fst k2 r2 (fun v S1 et => by simp only [et]) fun v b S3 m3 H3 et f3 s3 k3 => ?_)
      simp only [et] at k3
      cases b with
      | false =>
        rw [if_neg Bool.false_ne_true]
        exact k3 σ2 H3 m3 (Fut.refl _ _) s3 (r2.fut f3)
      | true =>
        rw [if_pos rfl]
        refine ⟨fun σ' H' => ∃ (mm : Mem) (S : Store) (σp : Env), SR x.g mm S H' ∧ ER x.g mm H' σp σ' ∧ OkS x.g mm H' (whileL (EV x d) (exs x.call x.G.gls body) k σp S) D Wx, fun σ' H' hn => ⟨k, Nat.lt_succ_self _, hn⟩, ?_⟩
        exact hb c body' h2 hk X Wx hX ho σp2 S3 σ2 H3 m3 _ (r2.fut f3) s3 (then_fst k3 fun σp5 S5 m5 H5 σ5 e5 f5 s5 r5 k5 => ⟨m5, S5, σp5, s5, r5, k5⟩)
end
end Zv

end
section
set_option Elab.async false
set_option linter.all false
set_option maxRecDepth 100000
set_option maxHeartbeats 4000000
/-! Z16: assignments; all statements. -/
namespace Zv
open PySem PySem.Spec PyProof.Rows L2
section
variable {x : Gx}
theorem asg_plain {t : T} {e : E} (ht : ST x t) (he : SE x e) (c : SCx) (tg v : Expr) (pos : Pos) (h1 : (isComp v == isLC v) = true) (hsv : swV c.sc v tg = false) (h2 : asgB c tg v = true) (h3 : chkT x.k c t tg = true) (h4 : chkE x.k c e v = true) (hk : c.sc.kind = .function)
    (X : Cx) (Wx : WX) (hX : XC x c Wx X) (σp : Env) (S : Store) (σ : L2.St) (H : Hp) (m : Mem) (D : Ends) (hE : ER x.g m H σp σ) (hS : SR x.g m S H) (h : OkS x.g m H (ex x.call x.G.gls (.asg t e) σp S) D Wx) : WS X (.Assign [tg] v pos) D σ H := by
  have hs : swapsWithSole [tg] v pos.line X.env = pure false := by
    show swapsWith v (some tg) pos.line X.env = pure false
    rw [swV_eq (by rw [hX.sc]; exact hk) (by simpa using h1), hX.sc, hsv]
  have hw : swappedStores [tg] v X.env = pure none := by
    unfold asgB at h2
    rw [hsv, Bool.false_or] at h2
    cases tg <;> first | rfl | (cases t <;> cases h3; done) | skip
    cases v <;> first | rfl | skip
    have h2 := of_decide_eq_true h2
    exact swS_eq (by rw [hX.sc]; exact hk) (by rw [hX.sc]; exact h2)
  have ha : (assignEach [tg] X.env).map (·.2) = [assign tg X.env] := by
    cases tg <;> first | rfl | (cases t <;> cases h3)
  refine WS.of (ps_asg pe_W pg_W hs hw ha) ?_
  refine he c v h4 X Wx hX σp S σ H m _ hE hS (ofE_fst h hE fun z S1 m1 H1 u e1 f1 s1 r1 k1 => ?_)
  refine ht c tg h3 X Wx hX σp S1 σ H1 m1 z u _ (hE.fut f1) s1 r1 (ofE_fst k1 (hE.fut f1) fun σ2 S2 m2 H2 σ' e2 f2 s2 r2 k2 => ?_)
  exact k2 σ' H2 m2 (Fut.refl _ _) s2 r2.1
theorem comp_inv {k : Nms} {c : SCx} {own : List Nat} {e : E} {t : T} {it : It} {cs : List E} {el : Expr} {gens : List Comprehension} {scope : Scope} {p : Pos} (h : chkE k c (.comp own e t it cs) (.ListComp el gens scope p) = true) : ∃ t' it' ifs', gens = [⟨t', it', ifs', 0⟩] := by
  match gens, h with
  | [⟨t', it', ifs', 0⟩], _ => exact ⟨t', it', ifs', rfl⟩
theorem comp2_inv {k : Nms} {c : SCx} {own own2 : List Nat} {e : E} {t t2 : T} {it it2 : It} {cs cs2 : List E} {el : Expr} {gens : List Comprehension} {scope : Scope} {p : Pos} (h : chkE k c (.comp2 own e t it cs own2 t2 it2 cs2) (.ListComp el gens scope p) = true) :
    ∃ t' it' ifs' t2' it2' ifs2', gens = [⟨t', it', ifs', 0⟩, ⟨t2', it2', ifs2', 0⟩] := by
  match gens, h with
  | [⟨t', it', ifs', 0⟩, ⟨t2', it2', ifs2', 0⟩], _ => exact ⟨t', it', ifs', t2', it2', ifs2', rfl⟩
/-- a comprehension stored while its names go away -/
theorem asg_lc {i : Nat} {e : E} {fr : Bool} (c : SCx) (y : Str) (py : Pos) (el : Expr) (gens : List Comprehension) (scope : Scope) (p pos : Pos) (hsv : swV c.sc (.ListComp el gens scope p) (.Name y py) = true) (h3 : chkT x.k c (.nm i) (.Name y py) = true) (hk : c.sc.kind = .function)
    (ce : chkE x.k c e (.ListComp el gens scope p) = true) (hform : (∃ own el t it cs, e = .comp own el t it cs) ∨ ∃ own el t it cs own2 t2 it2 cs2, e = .comp2 own el t it cs own2 t2 it2 cs2)
    (X : Cx) (Wx : WX) (hX : XC x c Wx X) (σp : Env) (S : Store) (σ : L2.St) (H : Hp) (m : Mem) (D : Ends) (hE : ER x.g m H σp σ) (hS : SR x.g m S H) (h : OkF x.g fr m H (EV x e σp S) (fun u H1 => D.nx (σ.set i (some u)) H1) (fun cl d H' => Wx cl d σ H')) : WS X (.Assign [.Name y py] (.ListComp el gens scope p) pos) D σ H := by
  obtain ⟨l1, l2⟩ := and_t h3
  have hi : X.N[i]? = some y := by rw [hX.N]; exact of_decide_eq_true l1
  have hsc := hX.sc
  have hkX : X.env.scope.kind = .function := by rw [hsc]; exact hk
  have hsw : swapsWith (.ListComp el gens scope p) (some (.Name y py)) pos.line X.env = pure true := by
    rw [swV_eq hkX rfl, hsc, hsv]
  have hl : X.env.scope.names.lookup y = some .local := by
    rw [hsc]
    obtain ⟨k1, k2⟩ := and_t hsv
    obtain ⟨k3, k4⟩ := and_t k1
    simpa using k3
  rcases hform with ⟨own, e0, t, it, cs, rfl⟩ | ⟨own, e0, t, it, cs, own2, t2, it2, cs2, rfl⟩
  · obtain ⟨t', it', ifs', rfl⟩ := comp_inv ce
    · obtain ⟨ow, hblk, hs, k⟩ := comp_t (eAll e0).se (tAll t) (iAll it).1 (cAll cs) fr c el t' it' ifs' scope p ce X Wx hX σp S σ H m _ hE hS h
      exact WS.of (ps_setLc hX.calm hX.nodup hi hl hsw pi_W hblk pgB ptB peB hs) k
  · obtain ⟨t', it', ifs', t2', it2', ifs2', rfl⟩ := comp2_inv ce
    · obtain ⟨ow, hblk, hv, hs, hs2, k⟩ := comp2_t (eAll e0).se (tAll t) (iAll it).1 (cAll cs) (tAll t2) (iAll it2).1 (cAll cs2) fr c el t' it' ifs' t2' it2' ifs2' scope p ce X Wx hX σp S σ H m _ hE hS h
      exact WS.of (ps_setLc2 hX.calm hX.nodup hi hl hsw pi_W hblk hv pgB ptB piB pgB ptB peB hs hs2) k
theorem lc_form {k : Nms} {c : SCx} {e : E} {el : Expr} {gens : List Comprehension} {scope : Scope} {p : Pos} (h : chkE k c e (.ListComp el gens scope p) = true) :
    ((∃ own el t it cs, e = .comp own el t it cs) ∨ ∃ own el t it cs own2 t2 it2 cs2, e = .comp2 own el t it cs own2 t2 it2 cs2) ∨ ∃ e', e = .new e' ∧ chkE k c e' (.ListComp el gens scope p) = true ∧ ((∃ own el t it cs, e' = .comp own el t it cs) ∨ ∃ own el t it cs own2 t2 it2 cs2, e' = .comp2 own el t it cs own2 t2 it2 cs2) := by
  cases e <;> first | cases h | exact .inl (.inl ⟨_, _, _, _, _, rfl⟩) | exact .inl (.inr ⟨_, _, _, _, _, _, _, _, _, rfl⟩) | skip
  rename_i e'
  obtain ⟨h1, h2⟩ := and_t h
  refine .inr ⟨e', rfl, h2, ?_⟩
  cases e' <;> first | cases h2 | exact .inl ⟨_, _, _, _, _, rfl⟩ | exact .inr ⟨_, _, _, _, _, _, _, _, _, rfl⟩ | cases h1
theorem ss_asg {t : T} {e : E} : SS x (.asg t e) := fun c y hc hk X Wx hX ho σp S σ H m D hE hS h => by
  cases y <;> first | cases hc | skip
  rename_i tgs v pos
  match tgs, hc with
  | [tg], hc1 =>
    clear hc
    obtain ⟨h1, k2⟩ := and_t hc1
    clear hc1
    obtain ⟨h2, k3⟩ := and_t k2
    obtain ⟨h3, h4⟩ := and_t k3
    cases hsv : swV c.sc v tg with
    | false => exact asg_plain (tAll t) (eAll e).se c tg v pos h1 hsv h2 h3 h4 hk X Wx hX σp S σ H m D hE hS h
    | true =>
      cases v <;> first | cases hsv | skip
      rename_i el gens scope p
      cases tg <;> first | cases hsv | skip
      rename_i y py
      cases t <;> first | cases h3 | skip
      rename_i i
      have hok : OkE x.g m H (EV x e σp S) (fun u H1 => D.nx (σ.set i (some u)) H1) (fun cl d H' => Wx cl d σ H') :=
        ofE_fst h hE fun z S1 m1 H1 u e1 f1 s1 r1 k1 => k1 (σ.set i (some u)) H1 m1 (Fut.refl _ _) s1 ((hE.fut f1).set r1 i)
      rcases lc_form h4 with hf | ⟨e', rfl, h5, hf⟩
      · exact asg_lc (fr := false) c y py el gens scope p pos hsv h3 hk h4 hf X Wx hX σp S σ H m D hE hS hok
      · exact asg_lc (fr := true) c y py el gens scope p pos hsv h3 hk h5 hf X Wx hX σp S σ H m D hE hS (okn_of hok)
theorem parB_inv {c : SCx} {ts : List T} {ts' vs : List Expr} (h : parB c ts ts' vs = true) :
    (∃ i j y p z q a b, ts = [.nm i, .nm j] ∧ ts' = [.Name y p, .Name z q] ∧ vs = [a, b] ∧ (locI c i y && (locI c j z && (decide (i ≠ j) && decide (swS c.sc [.Name y p, .Name z q] [a, b] = some (some [y, z]))))) = true) ∨
    ∃ i j l y p z q w r a b d, ts = [.nm i, .nm j, .nm l] ∧ ts' = [.Name y p, .Name z q, .Name w r] ∧ vs = [a, b, d] ∧ (locI c i y && (locI c j z && (locI c l w && (decide (i ≠ j) && (decide (i ≠ l) && (decide (j ≠ l) && decide (swS c.sc [.Name y p, .Name z q, .Name w r] [a, b, d] = some (some [y, z, w])))))))) = true := by
  unfold parB at h
  split at h
  · exact .inl ⟨_, _, _, _, _, _, _, _, rfl, rfl, rfl, h⟩
  · exact .inr ⟨_, _, _, _, _, _, _, _, _, _, _, _, rfl, rfl, rfl, h⟩
  · cases h
theorem ss_par {ts : List T} {es : List E} (hes : SEs x es) : SS x (.par ts es) := fun c y hc hk X Wx hX ho σp S σ H m D hE hS h => by
  cases y <;> first | cases hc | skip
  rename_i tgs v pos
  cases tgs with
  | nil => cases hc
  | cons tg r =>
    cases r with
    | cons t2 r => cases tg <;> cases hc
    | nil =>
    cases tg <;> first | cases hc | skip
    rename_i ts' kt pt
    cases v <;> first | cases hc | skip
    rename_i vs k2 p2
    obtain ⟨h1, h2⟩ := and_t hc
    have hsc := hX.sc
    have hkX : X.env.scope.kind = .function := by rw [hsc]; exact hk
    rcases parB_inv h1 with ⟨i, j, y, p, z, q, a, b, rfl, rfl, rfl, h1⟩ | ⟨i, j, l, y, p, z, q, w, r, a, b, d, rfl, rfl, rfl, h1⟩
    · obtain ⟨l1, l2⟩ := and_t h1
      obtain ⟨l2, l3⟩ := and_t l2
      obtain ⟨l3, l4⟩ := and_t l3
      obtain ⟨i1, i2⟩ := and_t l1
      obtain ⟨j1, j2⟩ := and_t l2
      refine WS.of (ps_par (i := i) (j := j) hX.calm hX.nodup (by rw [hX.N]; exact of_decide_eq_true i1) (by rw [hX.N]; exact of_decide_eq_true j1) (of_decide_eq_true l3) (by rw [hsc]; exact of_decide_eq_true i2) (by rw [hsc]; exact of_decide_eq_true j2) pa_W
        (swS_eq hkX (by rw [hsc]; exact of_decide_eq_true l4)) rfl) ?_
      refine hes c [a, b] h2 X Wx hX σp S σ H m _ hE hS (ofE_fst h hE fun zs S1 m1 H1 us e1 f1 s1 r1 k1 => ?_)
      rcases zs with _ | ⟨z1, _ | ⟨z2, _ | ⟨z3, zs⟩⟩⟩
      · exact False.elim k1
      · exact False.elim k1
      · obtain ⟨u1, r, rfl, q1, r2⟩ := r1
        obtain ⟨u2, r, rfl, q2, r3⟩ := r2
        have r3 : r = [] := r3
        subst r3
        exact ⟨u1, u2, rfl, k1 _ H1 m1 (Fut.refl _ _) s1 (((hE.fut f1).set q1 i).set q2 j)⟩
      · exact False.elim k1
    · obtain ⟨l1, l2⟩ := and_t h1
      obtain ⟨l2, l3⟩ := and_t l2
      obtain ⟨l3, l4⟩ := and_t l3
      obtain ⟨l4, l5⟩ := and_t l4
      obtain ⟨l5, l6⟩ := and_t l5
      obtain ⟨l6, l7⟩ := and_t l6
      obtain ⟨i1, i2⟩ := and_t l1
      obtain ⟨j1, j2⟩ := and_t l2
      obtain ⟨g1, g2⟩ := and_t l3
      refine WS.of (ps_par3 (i := i) (j := j) (l := l) hX.calm hX.nodup (by rw [hX.N]; exact of_decide_eq_true i1) (by rw [hX.N]; exact of_decide_eq_true j1) (by rw [hX.N]; exact of_decide_eq_true g1) (of_decide_eq_true l4) (of_decide_eq_true l5) (of_decide_eq_true l6)
        (by rw [hsc]; exact of_decide_eq_true i2) (by rw [hsc]; exact of_decide_eq_true j2) (by rw [hsc]; exact of_decide_eq_true g2) pa_W (swS_eq hkX (by rw [hsc]; exact of_decide_eq_true l7)) rfl) ?_
      refine hes c [a, b, d] h2 X Wx hX σp S σ H m _ hE hS (ofE_fst h hE fun zs S1 m1 H1 us e1 f1 s1 r1 k1 => ?_)
      rcases zs with _ | ⟨z1, _ | ⟨z2, _ | ⟨z3, _ | ⟨z4, zs⟩⟩⟩⟩
      · exact False.elim k1
      · exact False.elim k1
      · exact False.elim k1
      · obtain ⟨u1, r, rfl, q1, r2⟩ := r1
        obtain ⟨u2, r, rfl, q2, r3⟩ := r2
        obtain ⟨u3, r, rfl, q3, r4⟩ := r3
        have r4 : r = [] := r4
        subst r4
        exact ⟨u1, u2, u3, rfl, k1 _ H1 m1 (Fut.refl _ _) s1 ((((hE.fut f1).set q1 i).set q2 j).set q3 l)⟩
      · exact False.elim k1
mutual
theorem stAll : (s : St) → SS x s
  | .asg _ _ => ss_asg
  | .par _ es => ss_par (esAll es)
  | .expr e => ss_expr (eAll e).se
  | .ret e => ss_ret (eAll e).se
  | .retN => ss_retN
  | .ifs d a b => ss_if (eAll d).sb (stsAll a) (stsAll b)
  | .for_ t it body => ss_for (tAll t) (iAll it).1 (stsAll body)
  | .while_ _ d body => ss_while (eAll d).sb (stsAll body)
  | .raise _ _ => fun c y hc => by cases y <;> cases hc
  | .pass => ss_pass
  | .never => ss_never
theorem stsAll : (s : List St) → SSs x s
  | [] => ss_nil
  | s :: r => ss_cons (stAll s) (stsAll r)
end
end
end Zv

end
section
set_option Elab.async false
set_option linter.all false
set_option maxRecDepth 100000
set_option maxHeartbeats 4000000
/-! Z17: a def keeps its promise. -/
namespace Zv
open PySem PySem.Spec PyProof.Rows L2
section
variable {g : Glo} {m m' : Mem} {S1 : Store} {k : Nat} {H' : Hp}
/-- behind a call: the callee's lists are live no more -/
structure Back (m m' : Mem) (k : Nat) : Prop where
  l : m.l = m'.l.take k
  h : m.h = m'.h
theorem Back.sub (b : Back m m' k) : ∀ a, a ∈ m → a ∈ m' := fun a ha => by
  rcases ha with ha | ha
  · rw [b.l] at ha; exact .inl (List.mem_of_mem_take ha)
  · rw [b.h] at ha; exact .inr ha
theorem Back.out (b : Back m m' k) (s : SR g m' S1 H') {n : Nat} {a : Addr} (hn : k ≤ n) (e : m'.l[n]? = some a) : a ∉ m := fun ha => by
  rcases ha with ha | ha
  · rw [b.l] at ha
    obtain ⟨j, hj⟩ := List.getElem?_of_mem ha
    rw [List.getElem?_take] at hj
    by_cases q : j < k
    · rw [if_pos q] at hj
      obtain ⟨l1, e1⟩ := List.getElem?_eq_some_iff.mp hj
      obtain ⟨l2, e2⟩ := List.getElem?_eq_some_iff.mp e
      exact List.pairwise_iff_getElem.mp s.nd j n l1 l2 (by omega) (e1.trans e2.symm)
    · rw [if_neg q] at hj; cases hj
  · rw [b.h] at ha
    exact s.ap a (List.mem_of_getElem? e) ha
mutual
theorem freeze_rep (b : Back m m' k) (s : SR g m' S1 H') : ∀ {x : PV} {v : V}, Rep g m' H' x v → Rep g m H' (freeze S1 k x) v
  | .non, _, h => h
  | .bl _, _, h => h
  | .int _, _, h => h
  | .str _, _, h => h
  | .tup xs, _, ⟨a, vs, e, t, r⟩ => ⟨a, vs, e, t.elim (fun z => .inl ⟨z.1, fun q => z.2 (b.sub _ q)⟩) .inr, freezes_rep b s r⟩
  | .lst xs, _, ⟨a, vs, e, t, r⟩ => ⟨a, vs, e, ⟨t.1, fun q => t.2 (b.sub _ q)⟩, freezes_rep b s r⟩
  | .dic _, _, h => False.elim h
  | .loc n, v, ⟨a, e, h⟩ => by
    show Rep g m H' (match decide (n < k) with
      | true => .loc n
      | false => match S1[n]? with
        | some (.l xs) => .lst xs
        | some (.d kvs) => .dic kvs
        | none => .loc n) v
    by_cases hn : n < k
    · rw [decide_eq_true hn]
      exact ⟨a, e, by rw [b.l, List.getElem?_take, if_pos hn]; exact h⟩
    · rw [decide_eq_false hn]
      have hlt : n < S1.length := by rw [← s.len]; exact (List.getElem?_eq_some_iff.mp h).1
      have q := s.at_ n S1[n] a (List.getElem?_eq_getElem hlt) h
      rw [List.getElem?_eq_getElem hlt]
      cases eo : S1[n] with
      | d kvs => rw [eo] at q; exact False.elim q
      | l xs =>
        rw [eo] at q
        obtain ⟨vs, q1, q2, q3⟩ := q
        exact ⟨a, vs, e, ⟨q1, b.out s (Nat.le_of_not_lt hn) h⟩, Reps.fewer b.sub q3 q2⟩
  | .fn _, _, h => h
  | .ty _, _, h => h
  | .cls _, _, h => h
  | .scr _, _, ⟨a, e, h⟩ => ⟨a, e, h.elim (fun z => .inl ⟨z.1, fun q => z.2 (b.sub _ q)⟩) .inr⟩
theorem freezes_rep (b : Back m m' k) (s : SR g m' S1 H') : ∀ {xs : List PV} {vs : List V}, Reps g m' H' xs vs → Reps g m H' (freezes S1 k xs) vs
  | [], _, h => h
  | x :: xs, _, ⟨v, r, e, h1, h2⟩ => ⟨v, r, e, freeze_rep b s h1, freezes_rep b s h2⟩
end
theorem SR.back (b : Back m m' k) (s : SR g m' S1 H') : SR g m (S1.take k) H' := by
  refine ⟨by rw [b.l, List.length_take, List.length_take, s.len], by rw [b.l]; exact s.nd.sublist (List.take_sublist _ _), fun i o a e1 e2 => ?_, fun a ha hb => ?_, fun a ha => ?_⟩
  · rw [List.getElem?_take] at e1
    rw [b.l, List.getElem?_take] at e2
    by_cases q : i < k
    · rw [if_pos q] at e1 e2
      have z := s.at_ i o a e1 e2
      cases o with
      | d _ => exact False.elim z
      | l xs =>
        obtain ⟨vs, q1, q2, q3⟩ := z
        exact ⟨vs, q1, Reps.fewer b.sub q3 q2, q3⟩
    · rw [if_neg q] at e1; cases e1
  · rw [b.l] at ha
    rw [b.h] at hb
    exact s.ap a (List.mem_of_mem_take ha) hb
  · rw [b.h] at ha
    exact s.hi a ha
theorem Fut.back {H : Hp} {S : Store} (hS : SR g m S H) (f : Fut m H m' H') : Back m m' S.length ∧ Fut m H m H' := by
  obtain ⟨r, e⟩ := f.pre
  refine ⟨⟨by rw [e, ← hS.len, List.take_left'] ; rfl, f.hid.symm⟩, ⟨⟨⟨[], by simp⟩, f.stay, fun _ h => .inl h⟩, rfl, f.kept⟩⟩
end
/-- the end of a def's text is the end of the call -/
theorem fin_ok {x : Gx} {m : Mem} {S : Store} {H : Hp} {Q : VK} {E : XK} {f : Nat} {fd : Fn} {ps : List PV} {N : Nat} (hS : SR x.g m S H) (ef : x.G.fns f = some fd) (hl : ps.length = fd.ps) (h : OkE x.g m H (callFn x.G (x.n + 1) f ps S) Q E) :
    OkS x.g m H (exs x.call x.G.gls fd.body (startE fd.N.length ps) S) { nx := fun _ H' => Q .non H', rt := Q } (fun c d _ H' => E c d H') := by
  unfold callFn at h
  simp only [ef, decide_eq_true hl] at h
  have go : ∀ (v : PV) (S1 : Store) (u : V) (H' : Hp) (m' : Mem), OkE x.g m H (fin fd.keep S.length v S1) Q E → Fut m H m' H' → SR x.g m' S1 H' → Rep x.g m' H' v u → Q u H' := fun v S1 u H' m' h f s r => by
    unfold fin at h
    cases hk : fd.keep with
    | true => rw [hk] at h; exact h u H' m' f s r
    | false =>
      rw [hk] at h
      obtain ⟨b, f2⟩ := f.back hS
      exact h u H' m f2 (s.back b) (freeze_rep b s r)
  cases e : exs (callFn x.G x.n) x.G.gls fd.body (startE fd.N.length ps) S with
  | nx σ1 S1 => simp only [e] at h; exact fun σ' H' m' f s _ => go .non S1 .non H' m' h f s rfl
  | rt v S1 => simp only [e] at h; exact fun u H' m' f s r => go v S1 u H' m' h f s r
  | exc xx σ1 S1 =>
    simp only [e] at h
    intro c d σ' H' m' f s q _
    obtain ⟨b, f2⟩ := f.back hS
    exact h c d H' m f2 (s.back b) q
  | stuck => simp only [e] at h; exact h
theorem start_er {g : Glo} {m : Mem} {H : Hp} {N : List Str} {ps : List PV} {vs : List V} (r : Reps g m H ps vs) : ER g m H (startE N.length ps) (L2.start N vs) := by
  have hl := r.length
  unfold startE L2.start
  refine ⟨by simp [hl], fun i y e => ?_⟩
  rw [look_eq] at e
  by_cases q : i < ps.length
  · rw [List.getElem?_append_left (by simpa using q)] at e
    rw [List.getElem?_map] at e
    cases ep : ps[i]? with
    | none => rw [ep] at e; cases e
    | some z =>
      rw [ep] at e
      have e : some z = some y := e
      cases e
      obtain ⟨v, e1, r1⟩ := r.get ep
      exact ⟨v, by rw [List.getElem?_append_left (by rw [List.length_map, hl]; exact q), List.getElem?_map, e1]; rfl, r1⟩
  · rw [List.getElem?_append_right (by simpa using q), List.getElem?_replicate] at e
    split at e <;> cases e
/-- what is known of the program -/
structure Prg (G : Gm) (g : Glo) (gn : Nat → Str) where
  ad : Nat → Addr
  fd : Nat → FuncData
  ps : Nat → List Str
  qual : Nat → Str
  params : Nat → Arguments
  body : Nat → List Stmt
  scope : Nat → Scope
structure PrgOk {G : Gm} {g : Glo} {gn : Nat → Str} (p : Prg G g gn) : Prop where
  F : ∀ f fn, G.fns f = some fn → FunD g.K (g.nm f) (p.qual f) (p.params f) (p.body f) (p.scope f) [] [] (p.ad f) (p.fd f)
  mg : ∀ f fn, G.fns f = some fn → g.mg (g.nm f) = some (.ref (p.ad f))
  sc : ∀ f fn, G.fns f = some fn → FnScope fn.N (p.ps f) (p.scope f) ∧ (p.ps f).length = fn.ps
  bi : ∀ f fn, G.fns f = some fn → Binds g.K (p.fd f) (p.ps f) []
  ck : ∀ f fn, G.fns f = some fn → chkSs ⟨g.nm, gn, fun f => (G.fns f).isSome⟩ ⟨fn.N, p.scope f, none⟩ fn.body (p.body f) = true
  gl : ∀ id v, G.gls id = some v → ∃ u w, g.mg (gn id) = some u ∧ RelV w u ∧ ∀ m H, Rep g m H v w
  bl : ∀ b ∈ bnames, g.mg b = none
  fk : ∀ f, g.fk f = (G.fns f).isSome
theorem prg_ok {G : Gm} {g : Glo} {gn : Nat → Str} {p : Prg G g gn} (h : PrgOk p) (P : Program) (w : World) (base : Heap) : ∀ (n f : Nat) (fn : Fn), G.fns f = some fn → FnOk P w g.K g.mg base (L2.CX P w) n (p.ad f) (p.fd f) (p.ps f) (spOf G g n f)
  | 0, f, fn, ef => ⟨fun vs H Q E hs => (by obtain ⟨S, m, qs, fd, _, _, _, _, k⟩ := hs; exact False.elim k), fun A outer s H args us vs Q E hr e0 hb hv hsp => (by obtain ⟨S, m, qs, fd, _, _, _, _, k⟩ := hsp; exact False.elim k)⟩
  | n + 1, f, fn, ef => by
    have ih := prg_ok h P w base n
    obtain ⟨sc, hl⟩ := h.sc f fn ef
    refine (h.F f fn ef).ok sc (fun vs H Q E hs => ?_) (fun cdv A outer s H vs Q E hr hs => ⟨WSs _ (p.body f), pss_W, ?_⟩)
    · obtain ⟨S, m, qs, fd, e1, e2, _, r, _⟩ := hs
      rw [ef] at e1
      cases e1
      rw [r.length, e2, hl]
    · obtain ⟨S, m, qs, fd, e1, e2, hS, r, k⟩ := hs
      rw [ef] at e1
      cases e1
      let x : Gx := ⟨G, g, gn, n⟩
      have hX : XC x ⟨fn.N, p.scope f, none⟩ (fun c d _ H' => E c d H') (cxOf (L2.CX P w) P w g.K g.mg base fn.N (p.qual f) (p.scope f) (p.ad f) cdv A outer s H E) :=
        { N := rfl, nd := sc.nd, sc := rfl, fn := rfl, calm := rfl, K := rfl, mg := rfl, room := hr, tk := takes_of rfl rfl rfl rfl,
          fs := fun f2 fd2 e2 => ⟨p.ad f2, p.fd f2, p.ps f2, h.mg f2 fd2 e2, (h.F f2 fd2 e2).kp, h.bi f2 fd2 e2, ih f2 fd2 e2⟩, gl := h.gl, bl := h.bl, fk := h.fk }
      exact stsAll (x := x) fn.body _ _ (h.ck f fn ef) sc.kind _ _ hX (passes_of rfl) _ S _ H m _ (start_er r) hS (fin_ok (x := x) (N := 0) hS ef e2 k)
end Zv

end
section
set_option Elab.async false
set_option linter.all false
set_option maxRecDepth 100000
set_option maxHeartbeats 4000000
/-! Z18: from the head to the program's facts. -/
namespace Zv
open PySem PySem.Spec PyProof.Rows L2

/-! ### constants of the modules -/
section
variable (K : PySem.W.Frag)
mutual
def relC : PV → Value → Bool
  | .non, u => (match u with
    | .none => true
    | _ => false)
  | .bl b, u => (match u with
    | .bool c => b == c
    | _ => false)
  | .int i, u => (match u with
    | .int j _ => decide (i = j)
    | _ => false)
  | .str x, u => (match u with
    | .str y _ => decide (x = y)
    | _ => false)
  | .tup xs, u => (match u with
    | .ref a => (match K.lookup a with
      | some ⟨.type c, _, .seq its _, _⟩ => decide (c = "tuple") && (decide (its.size ≤ sizeLine) && relCs xs its.toList)
      | _ => false)
    | _ => false)
  | _, _ => false
def relCs : List PV → List Value → Bool
  | [], us => (match us with
    | [] => true
    | _ => false)
  | x :: xs, us => (match us with
    | u :: r => relC x u && relCs xs r
    | _ => false)
end
end
mutual
theorem relC_ok {g : Glo} : ∀ {x : PV} {u : Value}, relC g.K x u = true → ∃ w, RelV w u ∧ ∀ m H, Rep g m H x w
  | .non, u, h => by
    cases u <;> first | cases h | skip
    exact ⟨.non, rfl, fun _ _ => rfl⟩
  | .bl b, u, h => by
    cases u <;> first | cases h | skip
    exact ⟨.bl b, by rw [eq_of_beq h]; rfl, fun _ _ => rfl⟩
  | .int i, u, h => by
    cases u <;> first | cases h | skip
    exact ⟨.int i, by rw [of_decide_eq_true h]; exact ⟨_, rfl⟩, fun _ _ => rfl⟩
  | .str i, u, h => by
    cases u <;> first | cases h | skip
    exact ⟨.str i, by rw [of_decide_eq_true h]; exact ⟨_, rfl⟩, fun _ _ => rfl⟩
  | .tup xs, u, h => by
    cases u <;> first | cases h | skip
    rename_i a
    have h : (match g.K.lookup a with
      | some ⟨.type c, _, .seq its _, _⟩ => decide (c = "tuple") && (decide (its.size ≤ sizeLine) && relCs g.K xs its.toList)
      | _ => false) = true := h
    cases q : g.K.lookup a with
    | none => rw [q] at h; cases h
    | some o =>
      obtain ⟨oc, od, dt, osl⟩ := o
      rw [q] at h
      cases oc <;> first | (cases dt <;> cases h; done) | skip
      cases dt <;> first | cases h | skip
      obtain ⟨h1, h2⟩ := and_t h
      obtain ⟨h3, h4⟩ := and_t h2
      obtain ⟨vs, r1, r2⟩ := relCs_ok h4
      exact ⟨.ref a, rfl, fun m H => ⟨a, vs, rfl, .inr ⟨_, _, _, q, congrArg Value.type (of_decide_eq_true h1), rfl, of_decide_eq_true h3, r1⟩, r2 m H⟩⟩
  | .lst _, u, h => by cases u <;> cases h
  | .dic _, u, h => by cases u <;> cases h
  | .loc _, u, h => by cases u <;> cases h
  | .fn _, u, h => by cases u <;> cases h
  | .ty _, u, h => by cases u <;> cases h
  | .cls _, u, h => by cases u <;> cases h
  | .scr _, u, h => by cases u <;> cases h
theorem relCs_ok {g : Glo} : ∀ {xs : List PV} {us : List Value}, relCs g.K xs us = true → ∃ ws, Vals ws us ∧ ∀ m H, Reps g m H xs ws
  | [], us, h => by
    cases us with
    | nil => exact ⟨[], .nil, fun _ _ => rfl⟩
    | cons _ _ => cases h
  | x :: xs, us, h => by
    cases us with
    | nil => cases h
    | cons u r =>
      obtain ⟨h1, h2⟩ := and_t h
      obtain ⟨w, a1, a2⟩ := relC_ok h1
      obtain ⟨ws, b1, b2⟩ := relCs_ok h2
      exact ⟨w :: ws, .cons a1 b1, fun m H => ⟨w, ws, rfl, a2 m H, b2 m H⟩⟩
end
def glB1 (K : PySem.W.Frag) (c : Str × PV) : Bool := match PySem.W.nsIn K mainGlobals c.1 with
  | some (some u) => relC K c.2 u
  | _ => false

/-! ### the hook -/
abbrev AlZ : Type := Bool × List He.FnW
def obsZ (fa : List He.Fa) (fn : List He.DefD) (cs : List (Str × PV)) (K : PySem.W.Frag) : AlZ := ((fa.all fun f => f.ok K) && ((fn.all fun d => d.ok K) && cs.all (glB1 K)), fn.map fun d => He.fnW K d.at_)
def SaysZ (fa : List He.Fa) (fn : List He.DefD) (cs : List (Str × PV)) (K : PySem.W.Frag) : Prop := obsZ fa fn cs K = He.valD fn
def obsZG (n : Nat) (fa : List He.Fa) (fn : List He.DefD) (cs : List (Str × PV)) (g : Addr → Option Obj) : AlZ := obsZ fa fn cs (He.frG g (He.asD g n))
def hookZ (n : Nat) (fa : List He.Fa) (fn : List He.DefD) (cs : List (Str × PV)) : PySem.W.Hook where
  α := AlZ
  obs := fun s => obsZG n fa fn cs s.heap.get?
  val := fun _ => He.valD fn
  says := fun _ h => ∃ K : PySem.W.Frag, K.In h ∧ SaysZ fa fn cs K
  of := fun _ _ e => ⟨_, He.frG_in, e⟩
  keeps := fun _ _ _ ⟨K, a, b⟩ k => ⟨K, PySem.W.Frag.In.keeps a k, b⟩
theorem obsZG_eq {n : Nat} {fa : List He.Fa} {fn : List He.DefD} {cs : List (Str × PV)} {g : Addr → Option Obj} {s : Shared} (h : ∀ a, g a = s.heap.get? a) : obsZG n fa fn cs g = (hookZ n fa fn cs).obs s := by
  have e : g = s.heap.get? := funext h
  subst e
  rfl
section
variable {fa : List He.Fa} {fn : List He.DefD} {cs : List (Str × PV)} {K : PySem.W.Frag}
theorem SaysZ.fact (c : SaysZ fa fn cs K) {f : He.Fa} (h : f ∈ fa) : f.ok K = true :=
  List.all_eq_true.mp (and_t (congrArg (fun z : AlZ => z.1) c)).1 f h
theorem SaysZ.con (c : SaysZ fa fn cs K) {f : Str × PV} (h : f ∈ cs) : glB1 K f = true :=
  List.all_eq_true.mp (and_t (and_t (congrArg (fun z : AlZ => z.1) c)).2).2 f h
theorem SaysZ.def_ (c : SaysZ fa fn cs K) (i : Nat) {d : He.DefD} (h : fn[i]? = some d) : ∃ fd, FunD K d.name d.qual d.params d.body d.scope (d.dvs K) (d.kws K) (He.fAd K d.at_) fd := by
  have c2 := (and_t (and_t (congrArg (fun z : AlZ => z.1) c)).2).1
  have e : fn.map (fun d => He.fnW K d.at_) = fn.map He.DefD.val := congrArg (fun z : AlZ => z.2) c
  have e2 : (fn.map fun d => He.fnW K d.at_)[i]? = (fn.map He.DefD.val)[i]? := by rw [e]
  rw [List.getElem?_map, List.getElem?_map, h] at e2
  exact He.DefD.funD (Option.some.inj e2) (List.all_eq_true.mp c2 d (List.mem_of_getElem? h))
end

/-! ### a law's text -/
structure Law where
  fn : List He.DefD
  tab : List (Option Fn)
  cs : List (Str × PV)
def Law.G (L : Law) : Gm := ⟨fun f => (L.tab[f]?).join, fun i => (L.cs[i]?).map (·.2)⟩
def dum : He.DefD := ⟨("", none), "", "", default, [], default, [], []⟩
def Law.d (L : Law) (f : Nat) : He.DefD := (L.fn[f]?).getD dum
def Law.nm (L : Law) (f : Nat) : Str := (L.d f).name
def Law.gn (L : Law) (i : Nat) : Str := ((L.cs[i]?).map (·.1)).getD ""
def psOf (p : Arguments) : List Str := p.args.map (·.arg)
def scB (N ps : List Str) (sc : Scope) : Bool := decide (sc.kind = .function) && (decide (sc.isCoroutine = false) && (decide (sc.isGenerator = false) && (decide N.Nodup && (decide (N.take ps.length = ps) && (ps.all (fun x => decide (sc.names.lookup x = some .local) || decide (sc.names.lookup x = some .cell)) && sc.names.all fun y => decide (y.2 ≠ .free))))))
theorem scB_ok {N ps : List Str} {sc : Scope} (h : scB N ps sc = true) : FnScope N ps sc := by
  obtain ⟨h1, k2⟩ := and_t h
  obtain ⟨h2, k3⟩ := and_t k2
  obtain ⟨h3, k4⟩ := and_t k3
  obtain ⟨h4, k5⟩ := and_t k4
  obtain ⟨h5, k6⟩ := and_t k5
  obtain ⟨h6, h7⟩ := and_t k6
  refine ⟨of_decide_eq_true h1, of_decide_eq_true h2, of_decide_eq_true h3, of_decide_eq_true h4, of_decide_eq_true h5, fun x hx => ?_, fun y hy => of_decide_eq_true (List.all_eq_true.mp h7 y hy)⟩
  rcases Bool.or_eq_true_iff.mp (List.all_eq_true.mp h6 x hx) with q | q
  · exact .inl (of_decide_eq_true q)
  · exact .inr (of_decide_eq_true q)
def Law.k (L : Law) : Nms := ⟨L.nm, L.gn, fun f => ((L.tab[f]?).join).isSome⟩
def Law.chk1 (L : Law) (f : Nat) : Bool := match (L.tab[f]?).join with
  | none => true
  | some t => match L.fn[f]? with
    | none => false
    | some d => decide (d.at_ = (d.name, none)) && (d.dfl.isEmpty && (d.kwd.isEmpty && (scB t.N (psOf d.params) d.scope && (decide ((psOf d.params).length = t.ps) && chkSs L.k ⟨t.N, d.scope, none⟩ t.body d.body))))
def Law.chk (L : Law) : Bool := (List.range L.tab.length).all L.chk1
def BindsP (p : Arguments) (n : Nat) : Prop := ∀ (x qual : Str) (body : List Stmt) (scope : Scope) (kV doc pm : Value) (an : Option Addr) (cdv ct : Value) (us : List Value), us.length = n → bindArgs (PySem.W.fnOf x qual p body scope .none kV doc pm an cdv ct) ⟨us, []⟩ = pure ((psOf p).zip us)
def Law.glo (L : Law) (K : PySem.W.Frag) (mg : Str → Option Value) : Glo := ⟨K, mg, L.nm, fun _ => "", fun f => ((L.tab[f]?).join).isSome⟩
def faOf (fn : List He.DefD) : List He.Fa := fn.map (fun d => .glo d.name) ++ bnames.map .free
theorem Law.at_ {L : Law} (hc : L.chk = true) {f : Nat} {t : Fn} (h : L.G.fns f = some t) : ∃ d, L.fn[f]? = some d ∧ L.d f = d ∧ d.at_ = (d.name, none) ∧ d.dfl = [] ∧ d.kwd = [] ∧ FnScope t.N (psOf d.params) d.scope ∧ (psOf d.params).length = t.ps ∧ chkSs L.k ⟨t.N, d.scope, none⟩ t.body d.body = true := by
  have h : (L.tab[f]?).join = some t := h
  have hlt : f < L.tab.length := by
    cases q : L.tab[f]? with
    | none => rw [q] at h; cases h
    | some _ => exact (List.getElem?_eq_some_iff.mp q).1
  have h1 : L.chk1 f = true := List.all_eq_true.mp hc f (List.mem_range.mpr hlt)
  unfold Law.chk1 at h1
  rw [h] at h1
  cases q : L.fn[f]? with
  | none => rw [q] at h1; cases h1
  | some d =>
    rw [q] at h1
    obtain ⟨k1, k2⟩ := and_t h1
    obtain ⟨k2, k3⟩ := and_t k2
    obtain ⟨k3, k4⟩ := and_t k3
    obtain ⟨k4, k5⟩ := and_t k4
    obtain ⟨k5, k6⟩ := and_t k5
    exact ⟨d, rfl, by unfold Law.d; rw [q]; rfl, of_decide_eq_true k1, List.isEmpty_iff.mp k2, List.isEmpty_iff.mp k3, scB_ok k4, of_decide_eq_true k5, k6⟩
section
variable {L : Law} {K : PySem.W.Frag} {h : Heap} {mg : Str → Option Value}
theorem Law.fun_ (hc : L.chk = true) (c : SaysZ (faOf L.fn) L.fn L.cs K) {f : Nat} {t : Fn} (e : L.G.fns f = some t) : ∃ fd, FunD K (L.nm f) (L.d f).qual (L.d f).params (L.d f).body (L.d f).scope [] [] (He.ga K (L.nm f)) fd := by
  obtain ⟨d, e1, e2, e3, e4, e5, e6, e7, e8⟩ := Law.at_ hc e
  obtain ⟨fd, F⟩ := c.def_ f e1
  refine ⟨fd, ?_⟩
  unfold Law.nm
  rw [e2]
  have q1 : d.dvs K = [] := by unfold He.DefD.dvs; rw [e4]; rfl
  have q2 : d.kws K = [] := by unfold He.DefD.kws; rw [e5]; rfl
  have q3 : He.fAd K d.at_ = He.ga K d.name := by rw [e3]; rfl
  rw [q1, q2, q3] at F
  exact F
instance : Nonempty FuncData := ⟨PySem.W.fnOf "" "" default [] default .none .none .none .none none .none .none⟩
noncomputable def Law.prg (L : Law) (K : PySem.W.Frag) (mg : Str → Option Value) : Prg L.G (L.glo K mg) L.gn where
  ad := fun f => He.ga K (L.nm f)
  fd := fun f => Classical.epsilon fun fd => FunD K (L.nm f) (L.d f).qual (L.d f).params (L.d f).body (L.d f).scope [] [] (He.ga K (L.nm f)) fd
  ps := fun f => psOf (L.d f).params
  qual := fun f => (L.d f).qual
  params := fun f => (L.d f).params
  body := fun f => (L.d f).body
  scope := fun f => (L.d f).scope
theorem Law.prg_ok (hc : L.chk = true) (hb : ∀ f t, L.G.fns f = some t → BindsP (L.d f).params t.ps) (X : K.In h) (Gn : h.Ns mainGlobals mg) (c : SaysZ (faOf L.fn) L.fn L.cs K) : PrgOk (L.prg K mg) := by
  have hF : ∀ f t, L.G.fns f = some t → FunD K (L.nm f) (L.d f).qual (L.d f).params (L.d f).body (L.d f).scope [] [] (He.ga K (L.nm f)) ((L.prg K mg).fd f) := fun f t e => by
    exact Classical.epsilon_spec (Law.fun_ hc c e)
  refine ⟨hF, fun f t e => ?_, fun f t e => ?_, fun f t e => ?_, fun f t e => ?_, fun id v e => ?_, fun b hb => ?_, fun f => rfl⟩
  · obtain ⟨d, e1, e2, _⟩ := Law.at_ hc e
    refine He.glo_ok X Gn (c.fact (f := .glo (L.nm f)) ?_)
    unfold Law.nm
    rw [e2]
    exact List.mem_append_left _ (List.mem_map.mpr ⟨d, List.mem_of_getElem? e1, rfl⟩)
  · obtain ⟨d, e1, e2, e3, e4, e5, e6, e7, e8⟩ := Law.at_ hc e
    show FnScope t.N (psOf (L.d f).params) (L.d f).scope ∧ (psOf (L.d f).params).length = t.ps
    rw [e2]
    exact ⟨e6, e7⟩
  · obtain ⟨d, e1, e2, e3, e4, e5, e6, e7, e8⟩ := Law.at_ hc e
    refine FunD.bindsN (hF f t e) fun kV doc pm an cdv ct us hl => hb f t e _ _ _ _ _ _ _ _ _ _ us ?_
    rw [← e7, ← e2]; exact hl
  · obtain ⟨d, e1, e2, e3, e4, e5, e6, e7, e8⟩ := Law.at_ hc e
    show chkSs L.k ⟨t.N, (L.d f).scope, none⟩ t.body (L.d f).body = true
    rw [e2]
    exact e8
  · have e : (L.cs[id]?).map (·.2) = some v := e
    cases q : L.cs[id]? with
    | none => rw [q] at e; cases e
    | some p =>
      rw [q] at e
      have e : p.2 = v := Option.some.inj e
      have k := c.con (List.mem_of_getElem? q)
      unfold glB1 at k
      have en : L.gn id = p.1 := by unfold Law.gn; rw [q]; rfl
      cases z : PySem.W.nsIn K mainGlobals p.1 with
      | none => rw [z] at k; cases k
      | some y =>
        cases y with
        | none => rw [z] at k; cases k
        | some u =>
          rw [z] at k
          obtain ⟨w, r1, r2⟩ := relC_ok (g := L.glo K mg) k
          refine ⟨u, w, ?_, r1, fun m H => by rw [← e]; exact r2 m H⟩
          rw [en]
          exact PySem.W.mg_of X Gn z
  · exact He.free_ok X Gn (c.fact (f := .free b) (List.mem_append_right _ (List.mem_map_of_mem hb)))
theorem Law.walk (hc : L.chk = true) (hb : ∀ f t, L.G.fns f = some t → BindsP (L.d f).params t.ps) (X : K.In h) (Gn : h.Ns mainGlobals mg) (c : SaysZ (faOf L.fn) L.fn L.cs K) {id k : Nat} {t : Fn} {fa : Addr} (P : Program) (w : World)
    (et : L.G.fns id = some t) (hps : psOf (L.d id).params = (["script"] : List Str)) (hfa : mg (L.nm id) = some (.ref fa)) (math : ∀ ns : List Int, ns.length ≤ 63 → ∃ S, callFn L.G k id [.scr ns] [] = .ok (.bl true) S) :
    ∃ (K' : PySem.W.Frag) (fd : FuncData) (sp : Sp), K'.In h ∧ (∀ (s : Shared) (u : Value), BindsTo s fd ⟨[u], []⟩ [("script", u)]) ∧
        (∀ (H : Hp) (a : Addr) (ns : List Int), ns.length ≤ 63 → Only H → SqL K' H a (ns.map V.int) → sp [.ref a] H (fun v _ => v = .bl true) fun _ _ _ => False) ∧
        ∀ base : Heap, K'.In base → base.Ns mainGlobals mg → FnOk P w K' mg base (L2.CX P w) k fa fd ["script"] sp := by
  have ok := Law.prg_ok hc hb X Gn c
  have ea : (L.prg K mg).ad id = fa := by
    have := (ok.mg id t et).symm.trans hfa
    cases this; rfl
  have l1 : (psOf (L.d id).params).length = t.ps := (ok.sc id t et).2
  refine ⟨K, (L.prg K mg).fd id, spOf L.G (L.glo K mg) k id, X, fun s u => ?_, fun H a ns h63 hO hS => ?_, fun base _ _ => ?_⟩
  · have := FunD.bindsA (ps := psOf (L.d id).params) (ok.F id t et) (fun kV doc pm an cdv ct us hl => hb id t et _ _ _ _ _ _ _ _ _ _ us (by rw [← l1]; exact hl)) s [u] (by rw [hps]; rfl)
    rw [hps] at this
    exact this
  · obtain ⟨S, e⟩ := math ns h63
    refine ⟨[], ⟨[], []⟩, [.scr ns], t, et, by rw [← l1, hps]; rfl, ⟨rfl, List.nodup_nil, fun i o a e1 _ => by simp at e1, fun a ha => by simp at ha, fun a ha => by simp at ha⟩, ?_, ?_⟩
    · refine ⟨.ref a, [], rfl, ⟨a, rfl, ?_⟩, rfl⟩
      rcases hS with hS | hS
      · rcases hS with q | q
        · rcases hO a with z | ⟨o, xs, z⟩
          · rw [z] at q; cases q
          · rw [z] at q; cases q
        · refine .inl ⟨q, fun z => ?_⟩
          rcases z with z | z <;> simp at z
      · exact .inr hS
    · rw [e]
      intro v H' m' _ _ r
      exact r
  · have F := Zv.prg_ok ok P w base k id t et
    rw [ea] at F
    have e2 : (L.prg K mg).ps id = (["script"] : List Str) := hps
    rw [e2] at F
    exact F
end
/-- from the head to the law's own mathematics -/
theorem walk_of {l : PySem.W.OpenLaw} {q : Program} {loose : List Str} {XP : (Str → Option Value) → Heap → Prop} {d : DefRec} {L : Law} {id k : Nat} {t : Fn} {ng : Nat}
    (hn : l.most = some 63) (hdf : d.params.defaults = []) (hnm : L.nm id = d.name) (hr : Room k callerA) (hc : L.chk = true) (hb : ∀ f t, L.G.fns f = some t → BindsP (L.d f).params t.ps)
    (et : L.G.fns id = some t) (hps : psOf (L.d id).params = (["script"] : List Str)) (math : ∀ ns : List Int, ns.length ≤ 63 → ∃ S, callFn L.G k id [.scr ns] [] = .ok (.bl true) S) :
    PySem.W.WalkO q loose XP (hookZ ng (faOf L.fn) L.fn L.cs).says l.row.toRowW d [] (fun f vs => PySem.call f vs) := by
  refine Att.attach_call hn hdf fun w s0 s1 mg mb fa o pm cd doc a vs ns G Y ho hd hcd hmg hobj hints hlen hg => ?_
  obtain ⟨K, KX, c⟩ := Y
  obtain ⟨K, fd, sp, KX, hbi, hsp, hF⟩ := Law.walk hc hb KX G.T.g c (fa := fa) l.prog w et hps (by rw [hnm]; exact hmg) math
  refine law_call KX G.T.g G.T.b G.T.builtins G.T.nolimit hg hobj hints ?_ hr hF hbi ?_ ?_
  · exact Nat.le_trans hlen (by decide)
  · exact fun H hO hS => hsp H a ns hlen hO hS
  · exact fun H e s' ⟨_, _, _, _, _, _, _, _, _, _, _, _, z⟩ => z
end Zv

end
section
set_option Elab.async false
set_option linter.all false
set_option maxRecDepth 100000
/-! Z20: the evaluator once more, the rest of the run as an argument: what a printed text is held against. -/
namespace Zv
open PySem

def ob {α β : Type} (o : Option α) (f : α → Out β) : Out β := match o with
  | some a => f a
  | none => .stuck
def negOf : PV → Option PV
  | .int i => some (.int (-i))
  | _ => none
def ixOf (S : Store) (x y : PV) : Option PV := match y with
  | .int i => match itemsOf S x with
    | some xs => match at_ xs.length i with
      | some j => xs[j]?
      | none => none
    | none => none
  | _ => none
def slOf (S : Store) (x : PV) (l h : Option Int) : Option PV := match x with
  | .tup xs => some (.tup (cut xs l h))
  | x => match seqOf S x with
    | some xs => some (.lst (cut xs l h))
    | none => none
def dixOf (kvs : List (Int × Int)) : PV → Option PV
  | .int i => match kvs.lookup i with
    | some j => some (.int j)
    | none => none
  | _ => none
def intOf : PV → Option Int
  | .int i => some i
  | _ => none
def r1Of : PV → Option (List PV × Guard)
  | .int i => guardO (small i) (rangeL 0 i.toNat, [])
  | _ => none
def r2Of (x y : PV) : Option (List PV × Guard) := match x with
  | .int i => match y with
    | .int j => guardO (small i && small j) (rangeL i (j - i).toNat, [])
    | _ => none
  | _ => none
def r3Of (x y z : PV) : Option (List PV × Guard) := match x with
  | .int i => match y with
    | .int j => match z with
      | .int m => guardO (small i && small j && decide (m = -1)) (rangeS i (-1) (i - j).toNat, [])
      | _ => none
    | _ => none
  | _ => none
section
variable (call : Nat → List PV → Store → Out PV) (gl : Nat → Option PV)
mutual
def evK (α : Type) : E → Env → Store → (PV → Store → Out α) → Out α
  | .var i, σ, S, k => ob (look σ i) fun a => k a S
  | .con c, _, S, k => k c S
  | .gl _ id, _, S, k => ob (gl id) fun a => k a S
  | .fnr f, _, S, k => k (.fn f) S
  | .bin op a b, σ, S, k => evK α a σ S fun x S1 => evK α b σ S1 fun y S2 => ob (binop op x y S2) fun v => k v S2
  | .neg a, σ, S, k => evK α a σ S fun x S1 => ob (negOf x) fun v => k v S1
  | .and a b, σ, S, k => (evK PV a σ S fun x S1 => match truth x with
    | some true => evK PV b σ S1 .ok
    | some false => .ok x S1
    | none => .stuck).bind k
  | .or a b, σ, S, k => (evK PV a σ S fun x S1 => match truth x with
    | some true => .ok x S1
    | some false => evK PV b σ S1 .ok
    | none => .stuck).bind k
  | .not a, σ, S, k => evK α a σ S fun x S1 => ob (truth x) fun b => k (.bl (!b)) S1
  | .cmp op a b, σ, S, k => evK α a σ S fun x S1 => evK α b σ S1 fun y S2 => ob (cmpop op x y S2) fun b => k (.bl b) S2
  | .chain op op' a b c, σ, S, k => (evK PV a σ S fun x S1 => evK PV b σ S1 fun y S2 => match cmpop op x y S2 with
    | some true => evK PV c σ S2 fun z S3 => ob (cmpop op' y z S3) fun b => .ok (.bl b) S3
    | some false => .ok (.bl false) S2
    | none => .stuck).bind k
  | .call f es, σ, S, k => evsK α es σ S fun vs S1 => (call f vs S1).bind k
  | .callv i es, σ, S, k => match look σ i with
    | some (.fn f) => evsK α es σ S fun vs S1 => (call f vs S1).bind k
    | _ => .stuck
  | .bi b es, σ, S, k => evsK α es σ S fun vs S1 => ob (bfun b vs S1) fun v => k v S1
  | .biIt b it, σ, S, k => itvK α it σ S fun xs S1 => (biOf b xs.1 S1).bind k
  | .isin a t, σ, S, k => evK α a σ S fun x S1 => ob (isTy t x) fun b => k (.bl b) S1
  | .meth m r es, σ, S, k => evK α r σ S fun x S1 => match recvOk m x with
    | true => evsK α es σ S1 fun vs S2 => ob (methf m x vs S2) fun r => k r.1 r.2
    | false => .stuck
  | .ix a b, σ, S, k => evK α a σ S fun x S1 => evK α b σ S1 fun y S2 => ob (ixOf S2 x y) fun v => k v S2
  | .sl a lo hi, σ, S, k => evK α a σ S fun x S1 => evoK α lo σ S1 fun l S2 => evoK α hi σ S2 fun h S3 => ob (slOf S3 x l h) fun v => k v S3
  | .slrev a, σ, S, k => evK α a σ S fun x S1 => ob (seqOf S1 x) fun xs => k (.lst xs.reverse) S1
  | .ife c a b, σ, S, k => (evK PV c σ S fun x S1 => match truth x with
    | some true => evK PV a σ S1 .ok
    | some false => evK PV b σ S1 .ok
    | none => .stuck).bind k
  | .tup es, σ, S, k => evsK α es σ S fun vs S1 => match decide (vs.length ≤ LIM) with
    | true => k (.tup vs) S1
    | false => .stuck
  | .lst es, σ, S, k => evsK α es σ S fun vs S1 => match decide (vs.length ≤ LIM) with
    | true => k (.lst vs) S1
    | false => .stuck
  | .new e, σ, S, k => evK α e σ S fun x S1 => match x with
    | .lst xs => match cleans xs with
      | true => k (.loc S1.length) (S1 ++ [.l xs])
      | false => .stuck
    | _ => .stuck
  | .comp own el t it cs, σ, S, k => (noExc (itvK (List PV) it σ S fun xs S1 =>
      (loopC (fun x S2 => asgTK (Option PV) t x (wipeE σ own) S2 fun σ2 S3 => evcK (Option PV) cs σ2 S3 fun b S4 => match b with
        | true => evK (Option PV) el σ2 S4 fun y S5 => .ok (some y) S5
        | false => .ok none S4) xs.2 xs.1 S1))).bind fun ys S6 => match decide (ys.length ≤ LIM) with
        | true => k (.lst ys) S6
        | false => .stuck
  | .comp2 own el t it cs own2 t2 it2 cs2, σ, S, k => (noExc (itvK (List PV) it σ S fun xs S1 =>
      (loopC2 (fun x S2 => asgTK (List PV) t x (wipeE σ own) S2 fun σ2 S3 => evcK (List PV) cs σ2 S3 fun b S4 => match b with
        | true => itvK (List PV) it2 σ2 S4 fun zs S5 => loopC (fun z S6 => asgTK (Option PV) t2 z (wipeE σ2 own2) S6 fun σ3 S7 => evcK (Option PV) cs2 σ3 S7 fun b S8 => match b with
          | true => evK (Option PV) el σ3 S8 fun y S9 => .ok (some y) S9
          | false => .ok none S8) zs.2 zs.1 S5
        | false => .ok [] S4) xs.2 xs.1 S1))).bind fun ys S6 => match decide (ys.length ≤ LIM) with
        | true => k (.lst ys) S6
        | false => .stuck
  | .dict ks vs, σ, S, k => .stuck
  | .dix kvs e, σ, S, k => evK α e σ S fun x S1 => ob (dixOf kvs x) fun v => k v S1
termination_by structural e => e
def evsK (α : Type) : List E → Env → Store → (List PV → Store → Out α) → Out α
  | [], _, S, k => k [] S
  | e :: es, σ, S, k => evK α e σ S fun x S1 => evsK α es σ S1 fun xs S2 => k (x :: xs) S2
termination_by structural es => es
def evcK (α : Type) : List E → Env → Store → (Bool → Store → Out α) → Out α
  | [], _, S, k => k true S
  | e :: es, σ, S, k => evK α e σ S fun x S1 => match truth x with
    | some true => evcK α es σ S1 k
    | some false => k false S1
    | none => .stuck
termination_by structural es => es
def evoK (α : Type) : Option E → Env → Store → (Option Int → Store → Out α) → Out α
  | none, _, S, k => k none S
  | some e, σ, S, k => evK α e σ S fun x S1 => ob (intOf x) fun i => k (some i) S1
termination_by structural e => e
def itvK (α : Type) : It → Env → Store → (List PV × Guard → Store → Out α) → Out α
  | .val e, σ, S, k => evK α e σ S fun x S1 => ob (itOf S1 x) fun xs => k xs S1
  | .rng1 a, σ, S, k => evK α a σ S fun x S1 => ob (r1Of x) fun xs => k xs S1
  | .rng2 a b, σ, S, k => evK α a σ S fun x S1 => evK α b σ S1 fun y S2 => ob (r2Of x y) fun xs => k xs S2
  | .rng3 a b c, σ, S, k => evK α a σ S fun x S1 => evK α b σ S1 fun y S2 => evK α c σ S2 fun z S3 => ob (r3Of x y z) fun xs => k xs S3
  | .enum e, σ, S, k => evK α e σ S fun x S1 => ob (itOf S1 x) fun xs => k (enumL 0 xs.1, xs.2) S1
  | .zip a b, σ, S, k => evK α a σ S fun x S1 => evK α b σ S1 fun y S2 => ob (itOf S2 x) fun xs => ob (itOf S2 y) fun ys => k (zipL xs.1 ys.1, xs.2 ++ ys.2) S2
termination_by structural it => it
def asgTK (α : Type) : T → PV → Env → Store → (Env → Store → Out α) → Out α
  | .nm i, v, σ, S, k => k (σ.set i (some v)) S
  | .tp ts, v, σ, S, k => match v with
    | .tup xs => match decide (xs.length = ts.length) with
      | true => asgTsK α ts xs σ S k
      | false => .stuck
    | _ => .stuck
  | .sub a i, v, σ, S, k => (noExc (evK Env a σ S fun x S1 => evK Env i σ S1 fun y S2 => match x with
    | .loc n => match y with
      | .int i => match S2[n]? with
        | some (.l xs) => match at_ xs.length i with
          | some j => match v.clean with
            | true => .ok σ (S2.set n (.l (xs.set j v)))
            | false => .stuck
          | none => .stuck
        | _ => .stuck
      | _ => .stuck
    | _ => .stuck)).bind fun _ S3 => k σ S3
termination_by structural t => t
def asgTsK (α : Type) : List T → List PV → Env → Store → (Env → Store → Out α) → Out α
  | [], vs, σ, S, k => match vs with
    | [] => k σ S
    | _ => .stuck
  | t :: ts, vs, σ, S, k => match vs with
    | x :: xs => asgTK α t x σ S fun σ1 S1 => asgTsK α ts xs σ1 S1 k
    | _ => .stuck
termination_by structural ts => ts
end

theorem bind_assoc {α β γ : Type} (o : Out α) (f : α → Store → Out β) (g : β → Store → Out γ) : (o.bind f).bind g = o.bind fun a S => (f a S).bind g := by
  cases o <;> rfl
theorem bind_ok {α : Type} (o : Out α) : o.bind .ok = o := by cases o <;> rfl
theorem ofO_bind {α β : Type} (S : Store) (o : Option α) (k : α → Store → Out β) : (ofO S o).bind k = ob o fun a => k a S := by cases o <;> rfl
theorem stuck_bind {α β : Type} (k : α → Store → Out β) : (Out.stuck : Out α).bind k = .stuck := rfl
theorem okb {α β : Type} (a : α) (S : Store) (k : α → Store → Out β) : (Out.ok a S).bind k = k a S := rfl
theorem bind_env {α : Type} {o : Out Env} {σ : Env} (h : ∀ e S, o = .ok e S → e = σ) (k : Env → Store → Out α) : (o.bind fun _ S => k σ S) = o.bind k := by
  cases o with
  | ok e S => rw [h e S rfl]; rfl
  | exc x S => rfl
  | stuck => rfl
theorem bcong {α β : Type} (o : Out α) {f g : α → Store → Out β} (h : ∀ a S, f a S = g a S) : o.bind f = o.bind g := by
  cases o <;> first | rfl | exact h _ _

mutual
theorem evK_eq (α : Type) : ∀ (e : E) (σ : Env) (S : Store) (k : PV → Store → Out α), evK call gl α e σ S k = (ev call gl e σ S).bind k
  | .var i, σ, S, k => by simp only [evK, ev, ofO_bind]
  | .con c, σ, S, k => by simp only [evK, ev, okb]
  | .gl _ id, σ, S, k => by simp only [evK, ev, ofO_bind]
  | .fnr f, σ, S, k => by simp only [evK, ev, okb]
  | .bin op a b, σ, S, k => by simp only [evK, ev, evK_eq α a, evK_eq α b, bind_assoc, ofO_bind]
  | .neg a, σ, S, k => by
    simp only [evK, ev, evK_eq α a, bind_assoc]
    exact bcong _ fun x S1 => by cases x <;> rfl
  | .and a b, σ, S, k => by simp only [evK, ev, evK_eq PV a, evK_eq PV b, bind_ok] <;> rfl
  | .or a b, σ, S, k => by simp only [evK, ev, evK_eq PV a, evK_eq PV b, bind_ok] <;> rfl
  | .not a, σ, S, k => by
    simp only [evK, ev, evK_eq α a, bind_assoc]
    exact bcong _ fun x S1 => by cases truth x <;> rfl
  | .cmp op a b, σ, S, k => by
    simp only [evK, ev, evK_eq α a, evK_eq α b, bind_assoc]
    exact bcong _ fun x S1 => bcong _ fun y S2 => by cases cmpop op x y S2 <;> rfl
  | .chain op op' a b c, σ, S, k => by
    simp only [evK, ev, evK_eq PV a, evK_eq PV b, evK_eq PV c]
    congr 1
    exact bcong _ fun x S1 => bcong _ fun y S2 => by
      cases cmpop op x y S2 with
      | none => rfl
      | some b => cases b with
        | false => rfl
        | true => exact bcong _ fun z S3 => by cases cmpop op' y z S3 <;> rfl
  | .call f es, σ, S, k => by simp only [evK, ev, evsK_eq α es, bind_assoc]
  | .callv i es, σ, S, k => by
    simp only [evK, ev]
    cases look σ i with
    | none => rfl
    | some v => cases v <;> first | rfl | simp only [evsK_eq α es, bind_assoc]
  | .bi b es, σ, S, k => by simp only [evK, ev, evsK_eq α es, bind_assoc, ofO_bind]
  | .biIt b it, σ, S, k => by simp only [evK, ev, itvK_eq α it, bind_assoc]
  | .isin a t, σ, S, k => by
    simp only [evK, ev, evK_eq α a, bind_assoc]
    exact bcong _ fun x S1 => by cases isTy t x <;> rfl
  | .meth m r es, σ, S, k => by
    simp only [evK, ev, evK_eq α r, evsK_eq α es, bind_assoc]
    exact bcong _ fun x S1 => by
      cases recvOk m x with
      | false => rfl
      | true =>
        simp only [bind_assoc]
        exact bcong _ fun vs S2 => by
          cases methf m x vs S2 with
          | none => rfl
          | some p => rfl
  | .ix a b, σ, S, k => by
    simp only [evK, ev, evK_eq α a, evK_eq α b, bind_assoc]
    exact bcong _ fun x S1 => bcong _ fun y S2 => by
      cases y <;> first | rfl | skip
      rename_i i
      simp only [ixOf]
      generalize itemsOf S2 x = o
      cases o with
      | none => rfl
      | some xs =>
        simp only []
        generalize at_ xs.length i = o
        cases o with
        | none => rfl
        | some j =>
          simp only []
          generalize xs[j]? = o
          cases o <;> rfl
  | .sl a lo hi, σ, S, k => by
    simp only [evK, ev, evK_eq α a, evoK_eq α lo, evoK_eq α hi, bind_assoc]
    exact bcong _ fun x S1 => bcong _ fun l S2 => bcong _ fun h S3 => by
      cases x <;> first | rfl | skip
      · rename_i n
        simp only [slOf, seqOf]
        generalize S3[n]? = o
        cases o with
        | none => rfl
        | some o => cases o <;> rfl
  | .slrev a, σ, S, k => by
    simp only [evK, ev, evK_eq α a, bind_assoc]
    exact bcong _ fun x S1 => by cases seqOf S1 x <;> rfl
  | .ife c a b, σ, S, k => by simp only [evK, ev, evK_eq PV c, evK_eq PV a, evK_eq PV b, bind_ok] <;> rfl
  | .tup es, σ, S, k => by
    simp only [evK, ev, evsK_eq α es, bind_assoc]
    exact bcong _ fun vs S1 => by cases decide (vs.length ≤ LIM) <;> rfl
  | .lst es, σ, S, k => by
    simp only [evK, ev, evsK_eq α es, bind_assoc]
    exact bcong _ fun vs S1 => by cases decide (vs.length ≤ LIM) <;> rfl
  | .new e, σ, S, k => by
    simp only [evK, ev, evK_eq α e, bind_assoc]
    exact bcong _ fun x S1 => by
      cases x <;> first | rfl | skip
      rename_i xs
      simp only []
      cases cleans xs <;> rfl
  | .comp own el t it cs, σ, S, k => by
    simp only [evK, ev, itvK_eq (List PV) it, evcK_eq (Option PV) cs, evK_eq (Option PV) el, asgTK_eq (Option PV) t]
    have e : ∀ (o : Out (List PV)) , (noExc (o.bind fun ys S6 => match decide (ys.length ≤ LIM) with
        | true => Out.ok (PV.lst ys) S6
        | false => .stuck)).bind k = (noExc o).bind fun ys S6 => match decide (ys.length ≤ LIM) with
        | true => k (.lst ys) S6
        | false => .stuck := by
      intro o
      cases o with
      | ok ys S6 => simp only [Out.bind, noExc]; cases decide (ys.length ≤ LIM) <;> rfl
      | exc x S6 => rfl
      | stuck => rfl
    rw [show ∀ (A : Out (List PV × Guard)) (F : List PV × Guard → Store → Out (List PV)) (H : List PV → Store → Out PV), (A.bind fun xs S1 => (F xs S1).bind H) = (A.bind F).bind H from fun A F H => (bind_assoc A F H).symm]
    exact (e _).symm
  | .comp2 own el t it cs own2 t2 it2 cs2, σ, S, k => by
    simp only [evK, ev, itvK_eq (List PV) it, evcK_eq (List PV) cs, asgTK_eq (List PV) t, itvK_eq (List PV) it2, evcK_eq (Option PV) cs2, evK_eq (Option PV) el, asgTK_eq (Option PV) t2]
    have e : ∀ (o : Out (List PV)) , (noExc (o.bind fun ys S6 => match decide (ys.length ≤ LIM) with
        | true => Out.ok (PV.lst ys) S6
        | false => .stuck)).bind k = (noExc o).bind fun ys S6 => match decide (ys.length ≤ LIM) with
        | true => k (.lst ys) S6
        | false => .stuck := by
      intro o
      cases o with
      | ok ys S6 => simp only [Out.bind, noExc]; cases decide (ys.length ≤ LIM) <;> rfl
      | exc x S6 => rfl
      | stuck => rfl
    rw [show ∀ (A : Out (List PV × Guard)) (F : List PV × Guard → Store → Out (List PV)) (H : List PV → Store → Out PV), (A.bind fun xs S1 => (F xs S1).bind H) = (A.bind F).bind H from fun A F H => (bind_assoc A F H).symm]
    exact (e _).symm
  | .dict ks vs, σ, S, k => by simp only [evK, ev, stuck_bind]
  | .dix kvs e, σ, S, k => by
    simp only [evK, ev, evK_eq α e, bind_assoc]
    exact bcong _ fun x S1 => by
      cases x <;> first | rfl | skip
      rename_i i
      simp only [dixOf]
      generalize kvs.lookup i = o
      cases o <;> rfl
termination_by structural e => e
theorem evsK_eq (α : Type) : ∀ (es : List E) (σ : Env) (S : Store) (k : List PV → Store → Out α), evsK call gl α es σ S k = (evs call gl es σ S).bind k
  | [], σ, S, k => by simp only [evsK, evs, okb]
  | e :: es, σ, S, k => by simp only [evsK, evs, evK_eq α e, evsK_eq α es, bind_assoc, okb]
termination_by structural es => es
theorem evcK_eq (α : Type) : ∀ (es : List E) (σ : Env) (S : Store) (k : Bool → Store → Out α), evcK call gl α es σ S k = (evc call gl es σ S).bind k
  | [], σ, S, k => by simp only [evcK, evc, okb]
  | e :: es, σ, S, k => by
    simp only [evcK, evc, evK_eq α e, evcK_eq α es, bind_assoc]
    exact bcong _ fun x S1 => by
      cases truth x with
      | none => rfl
      | some b => cases b <;> rfl
termination_by structural es => es
theorem evoK_eq (α : Type) : ∀ (e : Option E) (σ : Env) (S : Store) (k : Option Int → Store → Out α), evoK call gl α e σ S k = (evo call gl e σ S).bind k
  | none, σ, S, k => by simp only [evoK, evo, okb]
  | some e, σ, S, k => by
    simp only [evoK, evo, evK_eq α e, bind_assoc]
    exact bcong _ fun x S1 => by cases x <;> rfl
termination_by structural e => e
theorem itvK_eq (α : Type) : ∀ (it : It) (σ : Env) (S : Store) (k : List PV × Guard → Store → Out α), itvK call gl α it σ S k = (itv call gl it σ S).bind k
  | .val e, σ, S, k => by simp only [itvK, itv, evK_eq α e, bind_assoc, ofO_bind]
  | .rng1 a, σ, S, k => by
    simp only [itvK, itv, evK_eq α a, bind_assoc]
    exact bcong _ fun x S1 => by
      cases x <;> first | rfl | skip
      rename_i i
      simp only [r1Of]
      generalize small i = o
      cases o <;> rfl
  | .rng2 a b, σ, S, k => by
    simp only [itvK, itv, evK_eq α a, evK_eq α b, bind_assoc]
    exact bcong _ fun x S1 => bcong _ fun y S2 => by
      cases x <;> first | rfl | skip
      cases y <;> first | rfl | skip
      rename_i i j
      simp only [r2Of]
      generalize (small i && small j) = o
      cases o <;> rfl
  | .rng3 a b c, σ, S, k => by
    simp only [itvK, itv, evK_eq α a, evK_eq α b, evK_eq α c, bind_assoc]
    exact bcong _ fun x S1 => bcong _ fun y S2 => bcong _ fun z S3 => by
      cases x <;> first | rfl | skip
      cases y <;> first | rfl | skip
      cases z <;> first | rfl | skip
      rename_i i j m
      simp only [r3Of]
      generalize (small i && small j && decide (m = -1)) = o
      cases o <;> rfl
  | .enum e, σ, S, k => by
    simp only [itvK, itv, evK_eq α e, bind_assoc]
    exact bcong _ fun x S1 => by cases itOf S1 x <;> rfl
  | .zip a b, σ, S, k => by
    simp only [itvK, itv, evK_eq α a, evK_eq α b, bind_assoc]
    exact bcong _ fun x S1 => bcong _ fun y S2 => by
      cases itOf S2 x with
      | none => rfl
      | some xs => cases itOf S2 y <;> rfl
termination_by structural it => it
theorem asgTK_eq (α : Type) : ∀ (t : T) (v : PV) (σ : Env) (S : Store) (k : Env → Store → Out α), asgTK call gl α t v σ S k = (asgT call gl t v σ S).bind k
  | .nm i, v, σ, S, k => by simp only [asgTK, asgT, okb]
  | .tp ts, v, σ, S, k => by
    simp only [asgTK, asgT]
    cases v <;> first | rfl | skip
    rename_i xs
    simp only []
    cases decide (xs.length = ts.length) with
    | false => rfl
    | true => simp only [asgTsK_eq α ts]
  | .sub a i, v, σ, S, k => by
    simp only [asgTK, asgT, evK_eq Env a, evK_eq Env i]
    refine (bind_env (σ := σ) ?_ k).trans ?_
    · intro e S' h
      cases q : ev call gl a σ S with
      | exc x S1 => rw [q] at h; cases h
      | stuck => rw [q] at h; cases h
      | ok x S1 =>
        rw [q] at h
        simp only [Out.bind] at h
        cases q2 : ev call gl i σ S1 with
        | exc x S1 => rw [q2] at h; cases h
        | stuck => rw [q2] at h; cases h
        | ok y S2 =>
          rw [q2] at h
          simp only [Out.bind] at h
          split at h <;> first | (cases h; done) | skip
          split at h <;> first | (cases h; done) | skip
          split at h <;> first | (cases h; done) | skip
          split at h <;> first | (cases h; done) | skip
          split at h <;> first | (cases h; done) | skip
          simp only [noExc, Out.ok.injEq] at h
          exact h.1.symm
    congr 2
    exact bcong _ fun x S1 => bcong _ fun y S2 => by
      cases x <;> first | rfl | skip
      cases y <;> rfl
termination_by structural t => t
theorem asgTsK_eq (α : Type) : ∀ (ts : List T) (vs : List PV) (σ : Env) (S : Store) (k : Env → Store → Out α), asgTsK call gl α ts vs σ S k = (asgTs call gl ts vs σ S).bind k
  | [], vs, σ, S, k => by cases vs <;> simp only [asgTsK, asgTs, okb, stuck_bind]
  | t :: ts, vs, σ, S, k => by
    cases vs with
    | nil => simp only [asgTsK, asgTs, stuck_bind]
    | cons x xs => simp only [asgTsK, asgTs, asgTK_eq α t, asgTsK_eq α ts, bind_assoc]
termination_by structural ts => ts
end

theorem evK_ok (e : E) (σ : Env) (S : Store) : evK call gl PV e σ S .ok = ev call gl e σ S := by rw [evK_eq, bind_ok]
theorem evsK_ok (es : List E) (σ : Env) (S : Store) : evsK call gl (List PV) es σ S .ok = evs call gl es σ S := by rw [evsK_eq, bind_ok]
theorem itvK_ok (it : It) (σ : Env) (S : Store) : itvK call gl _ it σ S .ok = itv call gl it σ S := by rw [itvK_eq, bind_ok]
theorem asgTK_ok (t : T) (v : PV) (σ : Env) (S : Store) : asgTK call gl Env t v σ S .ok = asgT call gl t v σ S := by rw [asgTK_eq, bind_ok]
theorem asgTsK_ok (t : List T) (v : List PV) (σ : Env) (S : Store) : asgTsK call gl Env t v σ S .ok = asgTs call gl t v σ S := by rw [asgTsK_eq, bind_ok]

mutual
def exK : St → Env → Store → (Env → Store → SOut) → SOut
  | .asg t e, σ, S, k => ofE σ (evK call gl PV e σ S .ok) fun v S1 => ofE σ (asgTK call gl Env t v σ S1 .ok) fun σ1 S2 => k σ1 S2
  | .par ts es, σ, S, k => ofE σ (evsK call gl (List PV) es σ S .ok) fun vs S1 => ofE σ (asgTsK call gl Env ts vs σ S1 .ok) fun σ1 S2 => k σ1 S2
  | .expr e, σ, S, k => ofE σ (evK call gl PV e σ S .ok) fun _ S1 => k σ S1
  | .ret e, σ, S, k => ofE σ (evK call gl PV e σ S .ok) fun v S1 => .rt v S1
  | .retN, _, S, k => .rt .non S
  | .ifs c a b, σ, S, k => ofE σ (evK call gl PV c σ S .ok) fun x S1 => match truth x with
    | some true => exsK a σ S1 k
    | some false => exsK b σ S1 k
    | none => .stuck
  | .for_ t it body, σ, S, k => ofE σ (itvK call gl _ it σ S .ok) fun xs S1 =>
      (forL (fun x σ1 S2 => ofE σ1 (asgTK call gl Env t x σ1 S2 .ok) fun σ2 S3 => exsK body σ2 S3 .nx) xs.2 xs.1 σ S1).then_ k
  | .while_ bound c body, σ, S, k => (whileL (fun σ S => evK call gl PV c σ S .ok) (fun σ S => exsK body σ S .nx) bound σ S).then_ k
  | .raise cls es, σ, S, k => ofE σ (evsK call gl (List PV) es σ S .ok) fun vs S1 => match vs with
    | [.int i] => .exc ⟨cls, some i⟩ σ S1
    | _ => .exc ⟨cls, none⟩ σ S1
  | .pass, σ, S, k => k σ S
  | .never, _, _, _ => .stuck
termination_by structural s => s
def exsK : List St → Env → Store → (Env → Store → SOut) → SOut
  | [], σ, S, k => k σ S
  | s :: r, σ, S, k => exK s σ S fun σ1 S1 => exsK r σ1 S1 k
termination_by structural r => r
end
theorem ofE_then {α : Type} (σ : Env) (o : Out α) (f : α → Store → SOut) (k : Env → Store → SOut) :
    (ofE σ o f).then_ k = ofE σ o fun a S => (f a S).then_ k := by cases o <;> rfl
theorem then_assoc (o : SOut) (f k : Env → Store → SOut) : (o.then_ f).then_ k = o.then_ fun σ S => (f σ S).then_ k := by cases o <;> rfl
theorem then_nx (o : SOut) : o.then_ .nx = o := by cases o <;> rfl
theorem nx_then (σ : Env) (S : Store) (k : Env → Store → SOut) : (SOut.nx σ S).then_ k = k σ S := rfl
theorem ofE_cong {α : Type} (σ : Env) (o : Out α) {f g : α → Store → SOut} (h : ∀ a S, f a S = g a S) : ofE σ o f = ofE σ o g := by
  cases o <;> first | rfl | exact h _ _
mutual
theorem exK_eq : ∀ (s : St) (σ : Env) (S : Store) (k : Env → Store → SOut), exK call gl s σ S k = (ex call gl s σ S).then_ k
  | .asg t e, σ, S, k => by simp only [exK, ex, evK_ok, asgTK_ok, ofE_then, nx_then]
  | .par ts es, σ, S, k => by simp only [exK, ex, evsK_ok, asgTsK_ok, ofE_then, nx_then]
  | .expr e, σ, S, k => by simp only [exK, ex, evK_ok, ofE_then, nx_then]
  | .ret e, σ, S, k => by simp only [exK, ex, evK_ok, ofE_then]; rfl
  | .retN, _, S, k => by simp only [exK, ex]; rfl
  | .ifs c a b, σ, S, k => by
    simp only [exK, ex, evK_ok, ofE_then, exsK_eq a, exsK_eq b]
    exact ofE_cong σ _ fun x S1 => by
      cases truth x with
      | none => rfl
      | some b => cases b <;> rfl
  | .for_ t it body, σ, S, k => by simp only [exK, ex, itvK_ok, asgTK_ok, exsK_eq body, then_nx, ofE_then]
  | .while_ bound c body, σ, S, k => by simp only [exK, ex, evK_ok, exsK_eq body, then_nx] <;> rfl
  | .raise cls es, σ, S, k => by
    simp only [exK, ex, evsK_ok, ofE_then]
    refine ofE_cong σ _ fun vs S1 => ?_
    match vs with
    | [] => rfl
    | [v] => cases v <;> rfl
    | a :: b :: r => cases a <;> rfl
  | .pass, σ, S, k => by simp only [exK, ex]; rfl
  | .never, _, _, _ => by simp only [exK, ex]; rfl
termination_by structural s => s
theorem exsK_eq : ∀ (r : List St) (σ : Env) (S : Store) (k : Env → Store → SOut), exsK call gl r σ S k = (exs call gl r σ S).then_ k
  | [], σ, S, k => by simp only [exsK, exs]; rfl
  | s :: r, σ, S, k => by simp only [exsK, exs, exK_eq s, exsK_eq r, then_assoc]
termination_by structural r => r
end
theorem exsK_nx (r : List St) (σ : Env) (S : Store) : exsK call gl r σ S .nx = exs call gl r σ S := by rw [exsK_eq, then_nx]
end

/-- the end of a call -/
def finK (keep : Bool) (k : Nat) (v : PV) (S : Store) : Out PV := match keep with
  | true => .ok v S
  | false => match Nat.ble S.length k with
    | true => .ok v S
    | false => .ok (freeze S k v) (S.take k)
mutual
theorem freeze_id (S : Store) (k : Nat) (h : S.length ≤ k) : ∀ v : PV, freeze S k v = v
  | .loc n => by
    simp only [freeze]
    by_cases e : n < k
    · simp only [e, decide_true]
    · simp only [e, decide_false]
      rw [List.getElem?_eq_none (by omega)]
  | .tup xs => by simp only [freeze, freezes_id S k h xs]
  | .lst xs => by simp only [freeze, freezes_id S k h xs]
  | .non => rfl
  | .bl _ => rfl
  | .int _ => rfl
  | .str _ => rfl
  | .dic _ => rfl
  | .fn _ => rfl
  | .ty _ => rfl
  | .cls _ => rfl
  | .scr _ => rfl
termination_by structural v => v
theorem freezes_id (S : Store) (k : Nat) (h : S.length ≤ k) : ∀ xs : List PV, freezes S k xs = xs
  | [] => rfl
  | x :: xs => by simp only [freezes, freeze_id S k h x, freezes_id S k h xs]
termination_by structural xs => xs
end
theorem fin_eq (keep : Bool) (k : Nat) (v : PV) (S : Store) : fin keep k v S = finK keep k v S := by
  cases keep with
  | true => rfl
  | false =>
    simp only [fin, finK]
    cases h : Nat.ble S.length k with
    | false => rfl
    | true =>
      have h := Nat.le_of_ble_eq_true h
      rw [freeze_id S k h, List.take_of_length_le h]
def endF (keep : Bool) (S : Store) : SOut → Out PV
  | .nx _ S1 => finK keep S.length .non S1
  | .rt v S1 => finK keep S.length v S1
  | .exc x _ S1 => .exc x (S1.take S.length)
  | .stuck => .stuck
def bodyF (gl : Nat → Option PV) (call : Nat → List PV → Store → Out PV) (fn : Fn) (vs : List PV) (S : Store) : Out PV := match decide (vs.length = fn.ps) with
  | false => .stuck
  | true => endF fn.keep S (exsK call gl fn.body (startE fn.N.length vs) S .nx)
theorem callFn_succ (G : Gm) (n f : Nat) (vs : List PV) (S : Store) : callFn G (n + 1) f vs S = match G.fns f with
    | none => .stuck
    | some fn => bodyF G.gls (callFn G n) fn vs S := by
  simp only [callFn, bodyF]
  cases G.fns f with
  | none => rfl
  | some fn =>
    simp only []
    cases decide (vs.length = fn.ps) with
    | false => rfl
    | true =>
      simp only [exsK_nx]
      cases exs (callFn G n) G.gls fn.body (startE fn.N.length vs) S <;> simp only [endF, fin_eq]
/-- a table of printed texts -/
theorem sh_eq (G : Gm) (sh : Nat → Nat → List PV → Store → Out PV) (h0 : ∀ f vs S, sh 0 f vs S = .stuck)
    (hs : ∀ n f vs S, sh (n + 1) f vs S = match G.fns f with
      | none => .stuck
      | some fn => bodyF G.gls (sh n) fn vs S) : ∀ n f vs S, callFn G n f vs S = sh n f vs S
  | 0, f, vs, S => by rw [h0]; rfl
  | n + 1, f, vs, S => by
    have e : callFn G n = sh n := funext fun f => funext fun vs => funext fun S => sh_eq G sh h0 hs n f vs S
    rw [callFn_succ, hs, e]
end Zv

end
section
set_option Elab.async false
set_option linter.all false
set_option maxRecDepth 100000
/-! Z21: lemmas for the laws' own mathematics: loops, ends of calls, lists of integers. -/
namespace Zv
open PySem

@[simp] theorem finK_self (keep : Bool) (v : PV) (S : Store) : finK keep S.length v S = .ok v S := by
  cases keep with
  | true => rfl
  | false =>
    simp only [finK]
    rw [Nat.ble_eq_true_of_le (Nat.le_refl _)]
theorem finK_same (keep : Bool) (v : PV) {S S' : Store} (h : S'.length = S.length) : finK keep S.length v S' = .ok v S' := by
  rw [← h]; exact finK_self keep v S'
@[simp] theorem okb' {α β : Type} (a : α) (S : Store) (k : α → Store → Out β) : (Out.ok a S).bind k = k a S := rfl
@[simp] theorem stuck_bind' {α β : Type} (k : α → Store → Out β) : (Out.stuck : Out α).bind k = .stuck := rfl
@[simp] theorem bind_ok' {α : Type} (o : Out α) : o.bind .ok = o := bind_ok o
@[simp] theorem bind_ok2 {α : Type} (o : Out α) : (o.bind fun a S => .ok a S) = o := bind_ok o
@[simp] theorem ofE_ok {α : Type} (σ : Env) (a : α) (S : Store) (f : α → Store → SOut) : ofE σ (.ok a S) f = f a S := rfl
@[simp] theorem ob_some {α β : Type} (a : α) (f : α → Out β) : ob (some a) f = f a := rfl
@[simp] theorem ob_none {α β : Type} (f : α → Out β) : ob none f = .stuck := rfl
@[simp] theorem noExc_ok {α : Type} (a : α) (S : Store) : noExc (.ok a S) = .ok a S := rfl
@[simp] theorem endF_rt (keep : Bool) (v : PV) (S : Store) : endF keep S (.rt v S) = .ok v S := finK_self keep v S
@[simp] theorem endF_nx (keep : Bool) (σ : Env) (S : Store) : endF keep S (.nx σ S) = .ok .non S := finK_self keep .non S
@[simp] theorem truth_bl (b : Bool) : truth (.bl b) = some b := rfl
theorem st_ofE {α : Type} {keep : Bool} {S0 : Store} {σ : Env} {o : Out α} {a : α} {S : Store} {f : α → Store → SOut} {R : Out PV} (h : o = .ok a S) (h2 : endF keep S0 (f a S) = R) : endF keep S0 (ofE σ o f) = R := by
  rw [h]; exact h2
theorem st_for {keep : Bool} {S0 : Store} {o : SOut} {σ : Env} {S : Store} {f : Env → Store → SOut} {R : Out PV} (h : o = .nx σ S) (h2 : endF keep S0 (f σ S) = R) : endF keep S0 (o.then_ f) = R := by
  rw [h]; exact h2
theorem st_bind {α β : Type} {o : Out α} {a : α} {S : Store} {f : α → Store → Out β} {R : Out β} (h : o = .ok a S) (h2 : f a S = R) : o.bind f = R := by
  rw [h]; exact h2
theorem st_no {α : Type} {o : Out α} {a : α} {S : Store} (h : o = .ok a S) : noExc o = .ok a S := by rw [h]; rfl
theorem st_fin {α : Type} {σ : Env} {o : Out α} {a : α} {S : Store} {f : α → Store → SOut} {R : SOut} (h : o = .ok a S) (h2 : f a S = R) : ofE σ o f = R := by
  rw [h]; exact h2
theorem loopC_map {step : PV → Store → Out (Option PV)} {S : Store} {f : PV → PV} : ∀ (xs : List PV),
    (∀ x ∈ xs, step x S = .ok (some (f x)) S) → loopC step [] xs S = .ok (xs.map f) S
  | [], _ => rfl
  | x :: xs, h => by
    have e1 := h x (.head _)
    have e2 := loopC_map xs fun y hy => h y (.tail _ hy)
    simp only [loopC, okG, e1, e2, Out.bind, List.map]
theorem loopC_fmap {step : PV → Store → Out (Option PV)} {S : Store} {f : PV → Option PV} : ∀ (xs : List PV),
    (∀ x ∈ xs, step x S = .ok (f x) S) → loopC step [] xs S = .ok (xs.filterMap f) S
  | [], _ => rfl
  | x :: xs, h => by
    have e1 := h x (.head _)
    have e2 := loopC_fmap xs fun y hy => h y (.tail _ hy)
    simp only [loopC, okG, e1, e2, Out.bind, List.filterMap]
    cases f x <;> rfl
theorem cinv {step : PV → Store → Out (Option PV)} (I : Store → Prop) (P : PV → Prop) : ∀ (xs : List PV) (S : Store), I S →
    (∀ x ∈ xs, ∀ S, I S → ∃ v S', step x S = .ok (some v) S' ∧ P v ∧ I S') →
    ∃ ys S', loopC step [] xs S = .ok ys S' ∧ ys.length = xs.length ∧ (∀ y ∈ ys, P y) ∧ I S'
  | [], S, hS, _ => ⟨[], S, rfl, rfl, fun _ h => (nomatch h), hS⟩
  | x :: xs, S, hS, h => by
    obtain ⟨v, S1, e1, p1, i1⟩ := h x (.head _) S hS
    obtain ⟨ys, S2, e2, l2, p2, i2⟩ := cinv I P xs S1 i1 fun y hy => h y (.tail _ hy)
    refine ⟨v :: ys, S2, ?_, by simp [l2], ?_, i2⟩
    · simp only [loopC, okG, e1, e2, Out.bind]
    · intro y hy
      cases hy with
      | head => exact p1
      | tail _ hy => exact p2 y hy
theorem loopC2_map {step : PV → Store → Out (List PV)} {S : Store} {f : PV → List PV} : ∀ (xs : List PV),
    (∀ x ∈ xs, step x S = .ok (f x) S) → loopC2 step [] xs S = .ok (xs.flatMap f) S
  | [], _ => rfl
  | x :: xs, h => by
    have e1 := h x (.head _)
    have e2 := loopC2_map xs fun y hy => h y (.tail _ hy)
    simp only [loopC2, okG, e1, e2, Out.bind, List.flatMap_cons]
theorem forL_inv {step : PV → Env → Store → SOut} (J : Nat → Env → Store → Prop) : ∀ (xs : List PV) (k : Nat) (σ : Env) (S : Store), J k σ S →
    (∀ i x σ S, xs[i]? = some x → J (k + i) σ S → ∃ σ' S', step x σ S = .nx σ' S' ∧ J (k + i + 1) σ' S') →
    ∃ σ' S', forL step [] xs σ S = .nx σ' S' ∧ J (k + xs.length) σ' S'
  | [], k, σ, S, h0, _ => ⟨σ, S, rfl, h0⟩
  | x :: xs, k, σ, S, h0, h => by
    obtain ⟨σ1, S1, e1, j1⟩ := h 0 x σ S rfl h0
    obtain ⟨σ2, S2, e2, j2⟩ := forL_inv J xs (k + 1) σ1 S1 j1 fun i y σ S hy hj => by
      have := h (i + 1) y σ S hy (by rw [show k + (i + 1) = k + 1 + i by omega]; exact hj)
      rw [show k + (i + 1) + 1 = k + 1 + i + 1 by omega] at this
      exact this
    refine ⟨σ2, S2, ?_, by rw [show k + (x :: xs).length = k + 1 + xs.length by simp; omega]; exact j2⟩
    simp only [forL, okG, e1, SOut.then_, e2]

theorem st_loop {step : PV → Env → Store → SOut} {xs : List PV} {σ : Env} {S : Store} {J : Nat → Env → Store → Prop} {k : Env → Store → SOut} {keep : Bool} {S0 : Store} {R : Out PV}
    (h0 : J 0 σ S) (h : ∀ i x σ S, xs[i]? = some x → J i σ S → ∃ σ' S', step x σ S = .nx σ' S' ∧ J (i + 1) σ' S')
    (h2 : ∀ σ' S', J xs.length σ' S' → endF keep S0 (k σ' S') = R) : endF keep S0 ((forL step [] xs σ S).then_ k) = R := by
  obtain ⟨σ', S', e, j⟩ := forL_inv J xs 0 σ S h0 fun i x σ S hx hj => by
    have := h i x σ S hx (by simpa using hj)
    simpa using this
  rw [e]
  exact h2 σ' S' (by simpa using j)
def vec (xs : List Int) : PV := .tup (xs.map .int)
/-- a value of a kind that isinstance knows -/
def PV.isV : PV → Bool
  | .non => true
  | .bl _ => true
  | .int _ => true
  | .str _ => true
  | .tup _ => true
  | .lst _ => true
  | _ => false
def isW (lo hi : Int) : PV → Bool
  | .int i => decide (lo ≤ i) && decide (i ≤ hi)
  | _ => false
def isTup (lo hi : Int) : PV → Bool
  | .tup xs => decide (lo ≤ (xs.length : Int)) && decide ((xs.length : Int) ≤ hi)
  | _ => false
def areW (m lo hi : Int) : PV → Bool
  | .tup xs => (decide (m ≤ (xs.length : Int)) && decide ((xs.length : Int) ≤ m)) && xs.all (isW lo hi)
  | _ => false
theorem allB_map (f : PV → Bool) : ∀ xs : List PV, allB (xs.map fun x => .bl (f x)) = some (xs.all f)
  | [] => rfl
  | x :: xs => by simp only [List.map, allB, allB_map f xs, List.all_cons]
theorem rng_len : ∀ (n : Nat) (lo : Int), (rangeL lo n).length = n
  | 0, _ => rfl
  | n + 1, lo => by simp [rangeL, rng_len n]
theorem rng_at : ∀ (n : Nat) (lo : Int) (i : Nat), i < n → (rangeL lo n)[i]? = some (.int (lo + i))
  | 0, _, _, h => absurd h (by omega)
  | n + 1, lo, 0, _ => by simp [rangeL]
  | n + 1, lo, i + 1, h => by
    simp only [rangeL, List.getElem?_cons_succ]
    rw [rng_at n (lo + 1) i (by omega)]
    congr 2; push_cast; omega
theorem rng_mem : ∀ (n : Nat) (lo : Int) (x : PV), x ∈ rangeL lo n → ∃ i : Int, x = .int i ∧ lo ≤ i ∧ i < lo + n
  | 0, _, _, h => nomatch h
  | n + 1, lo, x, h => by
    cases h with
    | head => exact ⟨lo, rfl, by omega, by push_cast; omega⟩
    | tail _ h =>
      obtain ⟨i, a, b, c⟩ := rng_mem n (lo + 1) x h
      exact ⟨i, a, by omega, by push_cast; omega⟩
theorem sm_ok {m : Int} (h0 : 0 ≤ m) (h1 : m ≤ 1000000) : small m = true := by simp [small]; omega
theorem rng_get {m : Int} {i : Nat} {x : PV} (h : (rangeL 0 m.toNat)[i]? = some x) : x = .int i ∧ i < m.toNat := by
  have hi : i < m.toNat := by
    have := (List.getElem?_eq_some_iff.mp h).1
    rwa [rng_len] at this
  rw [rng_at _ _ _ hi] at h
  exact ⟨by cases h; simp, hi⟩
theorem mulOk_r {i j : Int} (h : j.natAbs < 2 ^ 64) : mulOk i j = true := by simp [mulOk, h]
/-- the cup of the draws -/
def Cup (S : Store) : Prop := ∃ a b : Int, S = [.l [.int a, .int b]] ∧ 0 ≤ a ∧ 0 ≤ b ∧ b < 2 ^ 40
theorem Cup.len {S : Store} (h : Cup S) : S.length = 1 := by obtain ⟨a, b, e, _⟩ := h; rw [e]; rfl
theorem Cup.lens {S S' : Store} (h : Cup S) (h' : Cup S') : S'.length = S.length := by rw [h.len, h'.len]
theorem endF_cup {S S' : Store} (h : Cup S) (h' : Cup S') (keep : Bool) (v : PV) : endF keep S (.rt v S') = .ok v S' := finK_same keep v (h.lens h')
end Zv

end
section
set_option maxHeartbeats 0
namespace Xk00
open PySem Zv
def t0 : Fn := ⟨"is_whole", 3, ["value", "low", "high"], false, [.ret (.and (.isin (.var 0) "int") (.and (.not (.isin (.var 0) "bool")) (.chain .LtE .LtE (.var 1) (.var 0) (.var 2))))]⟩
def t1 : Fn := ⟨"need_whole", 3, ["value", "low", "high"], false, [.ifs (.not (.call 0 [.var 0, .var 1, .var 2])) [.never] []]⟩
def t2 : Fn := ⟨"is_tuple_of", 3, ["value", "low", "high"], false, [.ret (.and (.isin (.var 0) "tuple") (.chain .LtE .LtE (.var 1) (.bi .len [.var 0]) (.var 2)))]⟩
def t3 : Fn := ⟨"are_wholes", 4, ["value", "many", "low", "high", "one"], false, [.ret (.and (.call 2 [.var 0, .var 1, .var 1]) (.bi .all [.comp [4] (.call 0 [.var 4, .var 2, .var 3]) (.nm 4) (.val (.var 0)) []]))]⟩
def t4 : Fn := ⟨"is_ascending", 1, ["values", "one", "other"], false, [.ret (.bi .all [.comp [1, 2] (.cmp .Lt (.var 1) (.var 2)) (.tp [.nm 1, .nm 2]) (.zip (.var 0) (.sl (.var 0) (some (.con (.int 1))) none)) []])]⟩
def t5 : Fn := ⟨"sort_of", 1, ["value"], false, [.ifs (.isin (.var 0) "bool") [.ret (.con (.int 0))] [], .ifs (.isin (.var 0) "tuple") [.ret (.con (.int 1))] [], .ret (.ife (.isin (.var 0) "list") (.con (.int 2)) (.con (.int 3)))]⟩
def t6 : Fn := ⟨"alike", 2, ["one", "other", "left", "sort", "first", "second"], false, [.asg (.nm 2) (.new (.lst [.tup [.var 0, .var 1]])), .while_ 1000000 (.cmp .NotEq (.var 2) (.lst [])) [.asg (.tp [.nm 4, .nm 5]) (.meth .pop (.var 2) []), .asg (.nm 3) (.call 5 [.var 4]), .ifs (.cmp .NotEq (.var 3) (.call 5 [.var 5])) [.ret (.con (.bl false))] [], .ifs (.cmp .In (.var 3) (.tup [.con (.int 1), .con (.int 2)])) [.ifs (.cmp .NotEq (.bi .len [.var 4]) (.bi .len [.var 5])) [.ret (.con (.bl false))] [], .expr (.meth .extend (.var 2) [.biIt .list (.zip (.var 4) (.var 5))])] [.ifs (.cmp .NotEq (.var 4) (.var 5)) [.ret (.con (.bl false))] []]], .ret (.con (.bl true))]⟩
def t7 : Fn := ⟨"power", 2, ["number", "many", "found", "_"], false, [.expr (.call 1 [.var 0, .bin .Sub (.con (.int 1)) (.gl "DIGITS" 0), .bin .Sub (.gl "DIGITS" 0) (.con (.int 1))]), .expr (.call 1 [.var 1, .con (.int 0), .gl "HIGH" 1]), .asg (.nm 2) (.con (.int 1)), .for_ (.nm 3) (.rng1 (.var 1)) [.asg (.nm 2) (.bin .Mult (.var 2) (.var 0))], .ret (.var 2)]⟩
def t8 : Fn := ⟨"is_prime", 1, ["value"], false, [.ret (.and (.call 0 [.var 0, .con (.int 2), .con (.int 7)]) (.cmp .In (.var 0) (.gl "PRIMES" 2)))]⟩
def t9 : Fn := ⟨"need_prime", 1, ["p"], false, [.ifs (.not (.call 8 [.var 0])) [.never] []]⟩
def t10 : Fn := ⟨"need_many", 1, ["many"], false, [.expr (.call 1 [.var 0, .con (.int 0), .gl "WIDE" 3])]⟩
def t11 : Fn := ⟨"rest_in", 2, ["p", "number"], false, [.ret (.bin .Mod (.bi .int [.var 1]) (.var 0))]⟩
def t12 : Fn := ⟨"rest_of", 2, ["p", "number"], false, [.expr (.call 9 [.var 0]), .expr (.call 1 [.var 1, .neg (.gl "GREAT" 4), .gl "GREAT" 4]), .ret (.call 11 [.var 0, .var 1])]⟩
def t13 : Fn := ⟨"undone_in", 2, ["p", "rest", "one"], false, [.ret (.ix (.comp [2] (.var 2) (.nm 2) (.rng2 (.con (.int 1)) (.var 0)) [.cmp .Eq (.call 11 [.var 0, .bin .Mult (.var 2) (.var 1)]) (.con (.int 1))]) (.con (.int 0)))]⟩
def t14 : Fn := ⟨"undone", 2, ["p", "rest"], false, [.expr (.call 9 [.var 0]), .ifs (.not (.call 0 [.var 1, .con (.int 1), .bin .Sub (.var 0) (.con (.int 1))])) [.never] [], .ret (.call 13 [.var 0, .var 1])]⟩
def t15 : Fn := ⟨"is_vector", 3, ["p", "many", "value"], false, [.expr (.call 9 [.var 0]), .expr (.call 10 [.var 1]), .ret (.call 3 [.var 2, .var 1, .con (.int 0), .bin .Sub (.var 0) (.con (.int 1))])]⟩
def t16 : Fn := ⟨"is_any_vector", 2, ["p", "value"], false, [.ret (.and (.call 2 [.var 1, .con (.int 0), .gl "WIDE" 3]) (.call 3 [.var 1, .bi .len [.var 1], .con (.int 0), .bin .Sub (.var 0) (.con (.int 1))]))]⟩
def t17 : Fn := ⟨"need_vector", 2, ["p", "vector"], false, [.ifs (.not (.call 16 [.var 0, .var 1])) [.never] []]⟩
def t18 : Fn := ⟨"need_long", 3, ["p", "many", "vector"], false, [.ifs (.not (.call 3 [.var 2, .var 1, .con (.int 0), .bin .Sub (.var 0) (.con (.int 1))])) [.never] []]⟩
def t19 : Fn := ⟨"sum_in", 3, ["p", "one", "other", "first", "second"], false, [.ret (.bi .tuple [.comp [3, 4] (.call 11 [.var 0, .bin .Add (.var 3) (.var 4)]) (.tp [.nm 3, .nm 4]) (.zip (.var 1) (.var 2)) []])]⟩
def t20 : Fn := ⟨"times_in", 3, ["p", "rest", "vector", "one"], false, [.ret (.bi .tuple [.comp [3] (.call 11 [.var 0, .bin .Mult (.var 1) (.var 3)]) (.nm 3) (.val (.var 2)) []])]⟩
def t21 : Fn := ⟨"vector_sum", 3, ["p", "one", "other"], false, [.expr (.call 9 [.var 0]), .expr (.call 17 [.var 0, .var 1]), .expr (.call 18 [.var 0, .bi .len [.var 1], .var 2]), .ret (.call 19 [.var 0, .var 1, .var 2])]⟩
def t22 : Fn := ⟨"vector_times", 3, ["p", "rest", "vector"], false, [.expr (.call 9 [.var 0]), .expr (.call 1 [.var 1, .con (.int 0), .bin .Sub (.var 0) (.con (.int 1))]), .expr (.call 17 [.var 0, .var 2]), .ret (.call 20 [.var 0, .var 1, .var 2])]⟩
def t23 : Fn := ⟨"head_in", 1, ["vector", "found", "at", "one"], false, [.asg (.nm 1) (.comp [2, 3] (.var 2) (.tp [.nm 2, .nm 3]) (.enum (.var 0)) [.cmp .NotEq (.var 3) (.con (.int 0))]), .ret (.ife (.cmp .NotEq (.var 1) (.lst [])) (.ix (.var 1) (.con (.int 0))) (.con .non))]⟩
def t24 : Fn := ⟨"head_of", 2, ["p", "vector"], false, [.expr (.call 9 [.var 0]), .expr (.call 17 [.var 0, .var 1]), .ret (.call 23 [.var 1])]⟩
def t25 : Fn := ⟨"all_in", 2, ["p", "many", "found", "_", "row", "rest"], false, [.asg (.nm 2) (.lst [.tup []]), .for_ (.nm 3) (.rng1 (.var 1)) [.asg (.nm 2) (.comp2 [4, 5] (.bin .Add (.var 4) (.tup [.var 5])) (.nm 4) (.val (.var 2)) [] [5] (.nm 5) (.rng1 (.var 0)) [])], .ret (.var 2)]⟩
def t26 : Fn := ⟨"all_vectors", 2, ["p", "many"], false, [.expr (.call 9 [.var 0]), .expr (.call 10 [.var 1]), .ifs (.cmp .Gt (.call 7 [.var 0, .var 1]) (.gl "VECTORS" 5)) [.never] [], .ret (.bi .tuple [.call 25 [.var 0, .var 1]])]⟩
def t27 : Fn := ⟨"_law_cup", 1, ["script", "cell"], true, [.asg (.nm 1) (.bi .abs [.ix (.bin .Add (.bi .list [.var 0]) (.lst [.con (.int 0)])) (.con (.int 0))]), .ret (.new (.lst [.ife (.cmp .GtE (.var 1) (.bin .Pow (.con (.int 10)) (.con (.int 18)))) (.bin .FloorDiv (.var 1) (.con (.int 79))) (.con (.int 0)), .bin .Add (.bin .Mod (.bi .int [.bin .Add (.bin .Mult (.var 1) (.con (.int 283))) (.con (.int 3907))]) (.con (.int 2077503259))) (.con (.int 197))]))]⟩
def t28 : Fn := ⟨"_law_roll", 2, ["cup", "many", "deep", "found"], false, [.ifs (.cmp .Gt (.ix (.var 0) (.con (.int 0))) (.con (.int 0))) [.asg (.nm 3) (.bin .Mod (.bi .int [.ix (.var 0) (.con (.int 0))]) (.var 1)), .asg (.sub (.var 0) (.con (.int 0))) (.bin .FloorDiv (.ix (.var 0) (.con (.int 0))) (.var 1)), .ret (.var 3)] [], .asg (.sub (.var 0) (.con (.int 1))) (.bin .Mod (.bi .int [.bin .Add (.bin .Mult (.ix (.var 0) (.con (.int 1))) (.con (.int 31051))) (.con (.int 8053))]) (.con (.int 2147483549))), .asg (.nm 2) (.bin .Mod (.bi .int [.bin .Mult (.ix (.var 0) (.con (.int 1))) (.bin .Add (.ix (.var 0) (.con (.int 1))) (.con (.int 251)))]) (.con (.int 2147483587))), .ret (.bin .Mod (.bi .int [.bin .FloorDiv (.var 2) (.con (.int 839))]) (.var 1))]⟩
def t29 : Fn := ⟨"_law_some", 2, ["cup", "things"], false, [.ret (.ix (.var 1) (.call 28 [.var 0, .bi .len [.var 1]]))]⟩
def t30 : Fn := ⟨"_law_sort", 1, ["value"], false, [.ifs (.or (.cmp .Is (.var 0) (.con .non)) (.isin (.var 0) "bool")) [.ret (.ife (.cmp .Is (.var 0) (.con .non)) (.con (.int 0)) (.con (.int 1)))] [], .ifs (.or (.isin (.var 0) "int") (.isin (.var 0) "str")) [.ret (.ife (.isin (.var 0) "int") (.con (.int 2)) (.con (.int 3)))] [], .ret (.ife (.isin (.var 0) "tuple") (.con (.int 4)) (.ife (.isin (.var 0) "list") (.con (.int 5)) (.con (.int 6))))]⟩
def t31 : Fn := ⟨"_law_like", 2, ["one", "other", "sort", "first", "second"], false, [.asg (.nm 2) (.call 30 [.var 1]), .ifs (.or (.cmp .NotEq (.call 30 [.var 0]) (.var 2)) (.cmp .Eq (.var 2) (.con (.int 6)))) [.ret (.con (.bl false))] [], .ifs (.cmp .In (.var 2) (.tup [.con (.int 4), .con (.int 5)])) [.ret (.and (.cmp .Eq (.bi .len [.var 0]) (.bi .len [.var 1])) (.cmp .Eq (.comp [3, 4] (.con (.int 1)) (.tp [.nm 3, .nm 4]) (.zip (.var 0) (.var 1)) [.not (.call 31 [.var 3, .var 4])]) (.lst [])))] [], .ret (.cmp .Eq (.var 0) (.var 1))]⟩
def t32 : Fn := ⟨"_law_vector", 3, ["cup", "p", "many", "ahead", "at"], false, [.asg (.nm 3) (.ife (.cmp .Eq (.call 28 [.var 0, .con (.int 3)]) (.con (.int 0))) (.call 28 [.var 0, .bin .Add (.var 2) (.con (.int 1))]) (.con (.int 0))), .ret (.bi .tuple [.comp [4] (.ife (.cmp .Lt (.var 4) (.var 3)) (.con (.int 0)) (.call 28 [.var 0, .var 1])) (.nm 4) (.rng1 (.var 2)) []])]⟩
def t33 : Fn := ⟨"_law_all", 2, ["p", "many", "rows", "turn", "later", "row", "rest"], false, [.asg (.nm 2) (.lst [.tup []]), .for_ (.nm 3) (.rng1 (.var 1)) [.asg (.nm 4) (.lst []), .for_ (.nm 5) (.val (.var 2)) [.asg (.nm 4) (.bin .Add (.var 4) (.comp [6] (.bin .Add (.var 5) (.tup [.var 6])) (.nm 6) (.rng1 (.var 0)) []))], .asg (.nm 2) (.var 4)], .ret (.bi .tuple [.var 2])]⟩
def t34 : Fn := ⟨"_law_digits", 3, ["p", "many", "number", "found", "turn"], false, [.asg (.nm 3) (.tup []), .for_ (.nm 4) (.rng1 (.var 1)) [.par [.nm 3, .nm 2] [.bin .Add (.tup [.bin .Mod (.bi .int [.var 2]) (.var 0)]) (.var 3), .bin .FloorDiv (.var 2) (.var 0)]], .ret (.var 3)]⟩
def t35 : Fn := ⟨"_law_size", 2, ["p", "many", "found", "turn"], false, [.asg (.nm 2) (.con (.int 1)), .for_ (.nm 3) (.rng1 (.var 1)) [.asg (.nm 2) (.bin .Mult (.var 2) (.var 0))], .ret (.var 2)]⟩
def t36 : Fn := ⟨"_law_head", 1, ["vector", "at", "one"], false, [.ret (.ix (.bin .Add (.comp [1, 2] (.var 1) (.tp [.nm 1, .nm 2]) (.enum (.var 0)) [.cmp .NotEq (.var 2) (.con (.int 0))]) (.lst [.con .non])) (.con (.int 0)))]⟩
def t37 : Fn := ⟨"_law_plain_right", 0, ["told", "pairs", "due", "value", "values", "one", "other"], false, [.asg (.nm 0) (.bin .Add (.comp [3] (.call 0 [.var 3, .con (.int 0), .con (.int 3)]) (.nm 3) (.val (.tup [.con (.int 0), .con (.int 3), .con (.int 4), .neg (.con (.int 1)), .con (.bl true), .con (.bl false), .con (.str "1"), .con .non, .tup [.con (.int 1)]])) []) (.lst [.call 1 [.con (.int 3), .con (.int 3), .con (.int 3)]])), .ifs (.not (.call 31 [.var 0, .bin .Add (.bin .Add (.lst [.con (.bl true), .con (.bl true)]) (.bin .Mult (.lst [.con (.bl false)]) (.con (.int 7)))) (.lst [.con .non])])) [.ret (.con (.bl false))] [], .asg (.nm 0) (.comp [3] (.call 2 [.var 3, .con (.int 1), .con (.int 2)]) (.nm 3) (.val (.tup [.tup [], .tup [.con (.int 1)], .tup [.con (.int 1), .con (.int 2)], .tup [.con (.int 1), .con (.int 2), .con (.int 3)], .lst [.con (.int 1)], .con (.str "a"), .con .non])) []), .asg (.nm 0) (.bin .Add (.bin .Add (.var 0) (.comp [3] (.call 3 [.var 3, .con (.int 2), .con (.int 0), .con (.int 5)]) (.nm 3) (.val (.tup [.tup [.con (.int 0), .con (.int 5)], .tup [.con (.int 0), .con (.int 6)], .tup [.con (.int 0), .con (.bl true)], .lst [.con (.int 0), .con (.int 1)], .tup [.con (.int 0)], .tup [.con (.int 0), .con (.int 1), .con (.int 2)], .con .non])) [])) (.lst [.call 3 [.tup [], .con (.int 0), .con (.int 0), .con (.int 1)]])), .ifs (.not (.call 31 [.var 0, .bin .Add (.bin .Add (.lst [.con (.bl false), .con (.bl true), .con (.bl true), .con (.bl false), .con (.bl false), .con (.bl false), .con (.bl false), .con (.bl true)]) (.bin .Mult (.lst [.con (.bl false)]) (.con (.int 6)))) (.lst [.con (.bl true)])])) [.ret (.con (.bl false))] [], .asg (.nm 0) (.comp [4] (.call 4 [.var 4]) (.nm 4) (.val (.tup [.tup [], .tup [.con (.int 1)], .tup [.con (.int 1), .con (.int 2)], .tup [.con (.int 1), .con (.int 1)], .tup [.con (.int 2), .con (.int 1)], .tup [.con (.str "a"), .con (.str "b")], .tup [.tup [.con (.int 0), .con (.int 1)], .tup [.con (.int 1), .con (.int 0)]], .tup [.con (.int 1), .con (.int 3), .con (.int 2)]])) []), .ifs (.not (.call 31 [.var 0, .lst [.con (.bl true), .con (.bl true), .con (.bl true), .con (.bl false), .con (.bl false), .con (.bl true), .con (.bl true), .con (.bl false)]])) [.ret (.con (.bl false))] [], .asg (.nm 0) (.lst [.call 7 [.con (.int 2), .con (.int 10)], .call 7 [.con (.int 0), .con (.int 0)], .call 7 [.neg (.con (.int 3)), .con (.int 3)], .call 7 [.bin .Sub (.con (.int 1)) (.bin .Mult (.bin .Pow (.con (.int 10)) (.con (.int 50))) (.bin .Pow (.con (.int 10)) (.con (.int 50)))), .con (.int 1)], .cmp .Eq (.call 7 [.con (.int 7), .con (.int 600)]) (.call 35 [.con (.int 7), .con (.int 600)])]), .ifs (.not (.call 31 [.var 0, .lst [.con (.int 1024), .con (.int 1), .neg (.con (.int 27)), .bin .Sub (.con (.int 1)) (.bin .Mult (.bin .Pow (.con (.int 10)) (.con (.int 50))) (.bin .Pow (.con (.int 10)) (.con (.int 50)))), .con (.bl true)]])) [.ret (.con (.bl false))] [], .asg (.nm 1) (.lst [.tup [.con (.int 1), .con (.bl true)], .tup [.con (.int 0), .con (.bl false)], .tup [.tup [], .lst []], .tup [.tup [.con (.int 1), .tup [.con (.bl true)]], .tup [.con (.int 1), .tup [.con (.int 1)]]], .tup [.lst [.con (.int 1), .con (.int 2)], .lst [.con (.int 1), .con (.int 2)]], .tup [.tup [.con (.int 1), .con (.int 2)], .tup [.con (.int 1), .con (.int 2), .con (.int 3)]], .tup [.con (.str "a"), .con (.str "a")], .tup [.con .non, .con (.int 0)], .tup [.tup [.con .non, .con (.str "b")], .tup [.con .non, .con (.str "b")]]]), .asg (.nm 1) (.bin .Add (.var 1) (.lst [.tup [.tup [.con (.int 1), .lst [.con (.int 2)]], .tup [.con (.int 1), .tup [.con (.int 2)]]], .tup [.lst [.tup [.con (.int 1)]], .lst [.lst [.con (.int 1)]]], .tup [.tup [.con (.int 1), .lst [.con (.int 2), .tup [.con (.int 3)]]], .tup [.con (.int 1), .lst [.con (.int 2), .tup [.con (.int 3)]]]]])), .asg (.nm 2) (.lst [.con (.bl false), .con (.bl false), .con (.bl false), .con (.bl false), .con (.bl true), .con (.bl false), .con (.bl true), .con (.bl false), .con (.bl true), .con (.bl false), .con (.bl false), .con (.bl true)]), .ret (.call 31 [.comp [5, 6] (.call 6 [.var 5, .var 6]) (.tp [.nm 5, .nm 6]) (.val (.var 1)) [], .var 2])]⟩
def t38 : Fn := ⟨"_law_written_right", 0, ["told", "values", "value"], false, [.asg (.nm 0) (.comp [2] (.call 8 [.var 2]) (.nm 2) (.val (.tup [.con (.int 2), .con (.int 3), .con (.int 5), .con (.int 7), .con (.int 1), .con (.int 4), .con (.int 9), .con (.int 11), .con (.int 0), .neg (.con (.int 2)), .con (.bl true), .con (.str "2"), .con .non, .tup [.con (.int 2)]])) []), .ifs (.not (.call 31 [.var 0, .bin .Add (.bin .Mult (.lst [.con (.bl true)]) (.con (.int 4))) (.bin .Mult (.lst [.con (.bl false)]) (.con (.int 10)))])) [.ret (.con (.bl false))] [], .asg (.nm 0) (.lst [.call 12 [.con (.int 5), .neg (.con (.int 1))], .call 12 [.con (.int 7), .con (.int 14)], .call 12 [.con (.int 2), .bin .Pow (.con (.int 10)) (.con (.int 60))], .call 12 [.con (.int 3), .neg (.bin .Pow (.con (.int 10)) (.con (.int 60)))], .call 12 [.con (.int 7), .bin .Pow (.con (.int 10)) (.con (.int 60))], .call 12 [.con (.int 2), .neg (.con (.int 3))]]), .asg (.nm 0) (.bin .Add (.var 0) (.lst [.call 14 [.con (.int 7), .con (.int 3)], .call 14 [.con (.int 7), .con (.int 6)], .call 14 [.con (.int 5), .con (.int 2)], .call 14 [.con (.int 5), .con (.int 4)], .call 14 [.con (.int 3), .con (.int 2)], .call 14 [.con (.int 2), .con (.int 1)]])), .ifs (.not (.call 31 [.var 0, .lst [.con (.int 4), .con (.int 0), .con (.int 0), .con (.int 2), .con (.int 1), .con (.int 1), .con (.int 5), .con (.int 6), .con (.int 3), .con (.int 4), .con (.int 2), .con (.int 1)]])) [.ret (.con (.bl false))] [], .asg (.nm 0) (.lst [.call 21 [.con (.int 3), .tup [.con (.int 1), .con (.int 2)], .tup [.con (.int 2), .con (.int 2)]], .call 21 [.con (.int 7), .tup [], .tup []], .call 22 [.con (.int 5), .con (.int 3), .tup [.con (.int 1), .con (.int 4)]], .call 22 [.con (.int 5), .con (.int 0), .tup [.con (.int 1), .con (.int 4)]], .call 22 [.con (.int 2), .con (.int 1), .tup []]]), .ifs (.not (.call 31 [.var 0, .lst [.tup [.con (.int 0), .con (.int 1)], .tup [], .tup [.con (.int 3), .con (.int 2)], .tup [.con (.int 0), .con (.int 0)], .tup []]])) [.ret (.con (.bl false))] [], .asg (.nm 0) (.lst [.call 24 [.con (.int 5), .tup [.con (.int 0), .con (.int 3), .con (.int 1)]], .call 24 [.con (.int 5), .tup [.con (.int 0), .con (.int 0)]], .call 24 [.con (.int 2), .tup []], .call 24 [.con (.int 7), .tup [.con (.int 6)]], .call 24 [.con (.int 2), .tup [.con (.int 0), .con (.int 0), .con (.int 0), .con (.int 0), .con (.int 0), .con (.int 0), .con (.int 0), .con (.int 1)]]]), .asg (.nm 0) (.bin .Add (.var 0) (.lst [.call 26 [.con (.int 2), .con (.int 2)], .call 26 [.con (.int 7), .con (.int 0)], .call 26 [.con (.int 3), .con (.int 1)]])), .ifs (.not (.call 31 [.var 0, .lst [.con (.int 1), .con .non, .con .non, .con (.int 0), .con (.int 7), .tup [.tup [.con (.int 0), .con (.int 0)], .tup [.con (.int 0), .con (.int 1)], .tup [.con (.int 1), .con (.int 0)], .tup [.con (.int 1), .con (.int 1)]], .tup [.tup []], .tup [.tup [.con (.int 0)], .tup [.con (.int 1)], .tup [.con (.int 2)]]]])) [.ret (.con (.bl false))] [], .asg (.nm 1) (.lst [.tup [.con (.int 0), .con (.int 2)], .tup [.con (.int 0), .con (.int 3)], .lst [.con (.int 0), .con (.int 2)], .tup [.con (.int 0), .con (.bl true)], .tup [.con (.int 0)], .tup [.con (.int 0), .con (.int 1), .con (.int 2)], .tup [.con (.int 0), .neg (.con (.int 1))], .con .non, .con (.str "01"), .tup [.con (.int 0), .con .non], .con (.int 5)]), .asg (.nm 0) (.bin .Add (.comp [2] (.call 15 [.con (.int 3), .con (.int 2), .var 2]) (.nm 2) (.val (.var 1)) []) (.lst [.call 15 [.con (.int 2), .con (.int 0), .tup []], .call 15 [.con (.int 7), .con (.int 8), .bin .Mult (.tup [.con (.int 6)]) (.con (.int 8))], .call 15 [.con (.int 7), .con (.int 8), .bin .Mult (.tup [.con (.int 6)]) (.con (.int 9))]])), .ret (.call 31 [.var 0, .bin .Add (.bin .Add (.lst [.con (.bl true)]) (.bin .Mult (.lst [.con (.bl false)]) (.con (.int 10)))) (.lst [.con (.bl true), .con (.bl true), .con (.bl false)])])]⟩
def t39 : Fn := ⟨"_law_vectors_right", 2, ["cup", "p", "due", "own", "values", "many", "rest", "one", "other", "told", "number", "at", "odd", "value", "first", "second"], false, [.asg (.tp [.nm 5, .nm 6]) (.tup [.call 28 [.var 0, .con (.int 9)], .call 28 [.var 0, .var 1]]), .par [.nm 7, .nm 8] [.call 32 [.var 0, .var 1, .var 5], .call 32 [.var 0, .var 1, .var 5]], .asg (.nm 2) (.lst [.bi .tuple [.comp [14, 15] (.bin .Mod (.bi .int [.bin .Add (.var 14) (.var 15)]) (.var 1)) (.tp [.nm 14, .nm 15]) (.zip (.var 7) (.var 8)) []], .bi .tuple [.comp [14] (.bin .Mod (.bi .int [.bin .Mult (.var 6) (.var 14)]) (.var 1)) (.nm 14) (.val (.var 7)) []]]), .ifs (.not (.call 31 [.lst [.call 21 [.var 1, .var 7, .var 8], .call 22 [.var 1, .var 6, .var 7], .call 24 [.var 1, .var 7], .call 15 [.var 1, .var 5, .var 7]], .bin .Add (.var 2) (.lst [.call 36 [.var 7], .con (.bl true)])])) [.ret (.con (.bl false))] [], .asg (.nm 3) (.bin .Add (.con (.int 1)) (.call 28 [.var 0, .bin .Sub (.var 1) (.con (.int 1))])), .par [.nm 9, .nm 10] [.call 14 [.var 1, .var 3], .bin .Add (.bin .Mult (.bin .Sub (.call 28 [.var 0, .bin .Pow (.con (.int 10)) (.con (.int 9))]) (.bin .Mult (.con (.int 5)) (.bin .Pow (.con (.int 10)) (.con (.int 8))))) (.call 35 [.con (.int 10), .call 28 [.var 0, .con (.int 51)]])) (.call 28 [.var 0, .con (.int 1000)])], .ifs (.or (.cmp .NotEq (.call 30 [.var 9]) (.con (.int 2))) (.or (.not (.chain .Lt .Lt (.con (.int 0)) (.var 9) (.var 1))) (.or (.cmp .NotEq (.bin .Mod (.bi .int [.bin .Mult (.var 9) (.var 3)]) (.var 1)) (.con (.int 1))) (.not (.call 31 [.call 12 [.var 1, .var 10], .bin .Mod (.bi .int [.var 10]) (.var 1)]))))) [.ret (.con (.bl false))] [], .par [.nm 11, .nm 12] [.call 28 [.var 0, .bin .Add (.var 5) (.con (.int 1))], .call 29 [.var 0, .lst [.con .non, .con (.bl true), .var 1, .neg (.con (.int 1)), .con (.str "0"), .tup [.con (.int 0)], .bin .Sub (.var 1) (.con (.int 1))]]], .asg (.nm 4) (.lst [.bin .Add (.bin .Add (.sl (.var 7) none (some (.var 11))) (.tup [.var 12])) (.sl (.var 7) (some (.var 11)) none), .bin .Add (.bin .Add (.sl (.var 7) none (some (.var 11))) (.tup [.var 12])) (.sl (.var 7) (some (.bin .Add (.var 11) (.con (.int 1)))) none), .bi .list [.var 7], .bin .Add (.var 7) (.var 7)]), .asg (.nm 2) (.comp [13] (.and (.cmp .Eq (.call 30 [.var 13]) (.con (.int 4))) (.and (.cmp .Eq (.bi .len [.var 13]) (.var 5)) (.cmp .Eq (.comp [3] (.con (.int 1)) (.nm 3) (.val (.var 13)) [.or (.cmp .NotEq (.call 30 [.var 3]) (.con (.int 2))) (.not (.chain .LtE .Lt (.con (.int 0)) (.var 3) (.var 1)))]) (.lst [])))) (.nm 13) (.val (.var 4)) []), .ret (.call 31 [.comp [13] (.call 15 [.var 1, .var 5, .var 13]) (.nm 13) (.val (.var 4)) [], .var 2])]⟩
def t40 : Fn := ⟨"_law_lists_right", 2, ["cup", "p", "many", "told", "at"], false, [.asg (.nm 2) (.call 28 [.var 0, .dix [(2, 9), (3, 6), (5, 4), (7, 4)] (.var 1)]), .ifs (.not (.call 31 [.call 26 [.var 1, .var 2], .call 33 [.var 1, .var 2]])) [.ret (.con (.bl false))] [], .asg (.tp [.nm 1, .nm 2]) (.call 29 [.var 0, .lst [.tup [.con (.int 2), .con (.int 8)], .tup [.con (.int 3), .con (.int 8)], .tup [.con (.int 5), .con (.int 6)], .tup [.con (.int 7), .con (.int 5)]]]), .par [.nm 3, .nm 4] [.call 26 [.var 1, .var 2], .call 28 [.var 0, .call 35 [.var 1, .var 2]]], .ifs (.or (.cmp .NotEq (.call 30 [.var 3]) (.con (.int 4))) (.cmp .NotEq (.bi .len [.var 3]) (.call 35 [.var 1, .var 2]))) [.ret (.con (.bl false))] [], .ret (.call 31 [.lst [.ix (.var 3) (.var 4), .ix (.var 3) (.con (.int 0)), .ix (.var 3) (.neg (.con (.int 1)))], .lst [.call 34 [.var 1, .var 2, .var 4], .bin .Mult (.tup [.con (.int 0)]) (.var 2), .bin .Mult (.tup [.bin .Sub (.var 1) (.con (.int 1))]) (.var 2)]])]⟩
def t41 : Fn := ⟨"law", 1, ["script", "cup", "p", "turn"], false, [.ifs (.or (.not (.call 37 [])) (.not (.call 38 []))) [.ret (.con (.bl false))] [], .asg (.nm 1) (.call 27 [.var 0]), .for_ (.nm 2) (.val (.tup [.con (.int 2), .con (.int 3), .con (.int 5), .con (.int 7)])) [.ifs (.cmp .NotEq (.comp [3] (.var 3) (.nm 3) (.rng1 (.con (.int 8))) [.not (.call 39 [.var 1, .var 2])]) (.lst [])) [.ret (.con (.bl false))] []], .ret (.call 40 [.var 1, .call 29 [.var 1, .lst [.con (.int 2), .con (.int 3), .con (.int 5), .con (.int 7)]]])]⟩
def tab : List (Option Fn) := [some t0, some t1, some t2, some t3, some t4, some t5, some t6, some t7, some t8, some t9, some t10, some t11, some t12, some t13, some t14, some t15, some t16, some t17, some t18, some t19, some t20, some t21, some t22, some t23, some t24, some t25, some t26, some t27, some t28, some t29, some t30, some t31, some t32, some t33, some t34, some t35, some t36, some t37, some t38, some t39, some t40, some t41]
def cs : List (Str × PV) := [("DIGITS", (.int 10000000000000000000000000000000000000000000000000000000000000000000000000000000000000000000000000000)), ("HIGH", (.int 600)), ("PRIMES", (.tup [(.int 2), (.int 3), (.int 5), (.int 7)])), ("WIDE", (.int 8)), ("GREAT", (.int 1000000000000000000000000000000000000000000000000000000000000)), ("VECTORS", (.int 20000))]
def G : Gm := ⟨fun f => (tab[f]?).join, fun i => (cs[i]?).map (·.2)⟩
def c0 : PV := (.int 10000000000000000000000000000000000000000000000000000000000000000000000000000000000000000000000000000)
def c1 : PV := (.int 600)
def c2 : PV := (.tup [(.int 2), (.int 3), (.int 5), (.int 7)])
def c3 : PV := (.int 8)
def c4 : PV := (.int 1000000000000000000000000000000000000000000000000000000000000)
def c5 : PV := (.int 20000)
def s0 (call : Nat → List PV → Store → Out PV) (vs : List PV) (S : Store) : Out PV := match vs with
  | [p0, p1, p2] => endF false S (ofE [some p0, some p1, some p2] ((ob (isTy "int" p0) fun b1 => match (b1 : Bool) with | true => ((ob (isTy "bool" p0) fun b2 => match (!b2 : Bool) with | true => ((match cmpop .LtE p1 p0 S with | some true => (ob (cmpop .LtE p0 p2 S) fun b3 => .ok (.bl b3) S) | some false => .ok (.bl false) S | none => .stuck : Out PV).bind fun v4 S5 => .ok v4 S5) | false => (.ok (.bl (!b2)) S) : Out PV).bind fun v6 S7 => .ok v6 S7) | false => (.ok (.bl b1) S) : Out PV).bind fun v8 S9 => .ok v8 S9 : Out PV) fun v10 S11 => .rt v10 S11)
  | _ => .stuck
theorem q0 (call : Nat → List PV → Store → Out PV) (vs : List PV) (S : Store) : bodyF G.gls call t0 vs S = s0 call vs S := by
  match vs with
  | [] => kernel_rfl
  | [p0] => kernel_rfl
  | [p0, p1] => kernel_rfl
  | [p0, p1, p2] => kernel_rfl
  | p0 :: p1 :: p2 :: _ :: _ => kernel_rfl
def s1 (call : Nat → List PV → Store → Out PV) (vs : List PV) (S : Store) : Out PV := match vs with
  | [p0, p1, p2] => endF false S (ofE [some p0, some p1, some p2] ((call 0 [p0, p1, p2] S : Out PV).bind fun v1 S2 => ob (truth v1) fun v3 => .ok (.bl (!v3)) S2 : Out PV) fun v4 S5 => match truth v4 with | some true => (.stuck) | some false => (.nx [some p0, some p1, some p2] S5) | none => .stuck)
  | _ => .stuck
theorem q1 (call : Nat → List PV → Store → Out PV) (vs : List PV) (S : Store) : bodyF G.gls call t1 vs S = s1 call vs S := by
  match vs with
  | [] => kernel_rfl
  | [p0] => kernel_rfl
  | [p0, p1] => kernel_rfl
  | [p0, p1, p2] => kernel_rfl
  | p0 :: p1 :: p2 :: _ :: _ => kernel_rfl
def s2 (call : Nat → List PV → Store → Out PV) (vs : List PV) (S : Store) : Out PV := match vs with
  | [p0, p1, p2] => endF false S (ofE [some p0, some p1, some p2] ((ob (isTy "tuple" p0) fun b1 => match (b1 : Bool) with | true => ((ob (bfun .len [p0] S) fun v2 => match cmpop .LtE p1 v2 S with | some true => (ob (cmpop .LtE v2 p2 S) fun b3 => .ok (.bl b3) S) | some false => .ok (.bl false) S | none => .stuck : Out PV).bind fun v4 S5 => .ok v4 S5) | false => (.ok (.bl b1) S) : Out PV).bind fun v6 S7 => .ok v6 S7 : Out PV) fun v8 S9 => .rt v8 S9)
  | _ => .stuck
theorem q2 (call : Nat → List PV → Store → Out PV) (vs : List PV) (S : Store) : bodyF G.gls call t2 vs S = s2 call vs S := by
  match vs with
  | [] => kernel_rfl
  | [p0] => kernel_rfl
  | [p0, p1] => kernel_rfl
  | [p0, p1, p2] => kernel_rfl
  | p0 :: p1 :: p2 :: _ :: _ => kernel_rfl
def s3 (call : Nat → List PV → Store → Out PV) (vs : List PV) (S : Store) : Out PV := match vs with
  | [p0, p1, p2, p3] => endF false S (ofE [some p0, some p1, some p2, some p3, none] (((call 2 [p0, p1, p1] S : Out PV).bind fun v1 S2 => match truth v1 with | some true => ((noExc (ob (itOf S2 p0) fun xs3 => loopC (fun x4 S5 => (call 0 [x4, p2, p3] S5 : Out PV).bind fun v6 S7 => .ok (some v6) S7) xs3.2 xs3.1 S2) : Out (List PV)).bind fun ys8 S9 => match decide (ys8.length ≤ LIM) with | true => (ob (bfun .all [.lst ys8] S9) fun v10 => .ok v10 S9) | false => .stuck) | some false => (.ok v1 S2) | none => .stuck : Out PV).bind fun v11 S12 => .ok v11 S12 : Out PV) fun v13 S14 => .rt v13 S14)
  | _ => .stuck
theorem q3 (call : Nat → List PV → Store → Out PV) (vs : List PV) (S : Store) : bodyF G.gls call t3 vs S = s3 call vs S := by
  match vs with
  | [] => kernel_rfl
  | [p0] => kernel_rfl
  | [p0, p1] => kernel_rfl
  | [p0, p1, p2] => kernel_rfl
  | [p0, p1, p2, p3] => kernel_rfl
  | p0 :: p1 :: p2 :: p3 :: _ :: _ => kernel_rfl
def s4 (call : Nat → List PV → Store → Out PV) (vs : List PV) (S : Store) : Out PV := match vs with
  | [p0] => endF false S (ofE [some p0, none, none] ((noExc (ob (slOf S p0 (some 1) none) fun v1 => ob (itOf S p0) fun xs2 => ob (itOf S v1) fun ys3 => loopC (fun x4 S5 => match (x4 : PV) with | .tup xs6 => (match decide (xs6.length = 2) with | true => (match xs6 with | x7 :: xs8 => (match xs8 with | x9 :: xs10 => (match xs10 with | [] => (ob (cmpop .Lt x7 x9 S5) fun b11 => .ok (some (.bl b11)) S5) | _ => .stuck) | _ => .stuck) | _ => .stuck) | false => .stuck) | _ => .stuck) (zipL xs2.1 ys3.1, xs2.2 ++ ys3.2).2 (zipL xs2.1 ys3.1, xs2.2 ++ ys3.2).1 S) : Out (List PV)).bind fun ys12 S13 => match decide (ys12.length ≤ LIM) with | true => (ob (bfun .all [.lst ys12] S13) fun v14 => .ok v14 S13) | false => .stuck : Out PV) fun v15 S16 => .rt v15 S16)
  | _ => .stuck
theorem q4 (call : Nat → List PV → Store → Out PV) (vs : List PV) (S : Store) : bodyF G.gls call t4 vs S = s4 call vs S := by
  match vs with
  | [] => kernel_rfl
  | [p0] => kernel_rfl
  | p0 :: _ :: _ => kernel_rfl
def s5 (call : Nat → List PV → Store → Out PV) (vs : List PV) (S : Store) : Out PV := match vs with
  | [p0] => endF false S (ofE [some p0] (ob (isTy "bool" p0) fun b1 => .ok (.bl b1) S : Out PV) fun v2 S3 => match truth v2 with | some true => (.rt (.int 0) S3) | some false => (ofE [some p0] (ob (isTy "tuple" p0) fun b6 => .ok (.bl b6) S3 : Out PV) fun v7 S8 => match truth v7 with | some true => (.rt (.int 1) S8) | some false => (ofE [some p0] ((ob (isTy "list" p0) fun b11 => match (b11 : Bool) with | true => (.ok (.int 2) S8) | false => (.ok (.int 3) S8) : Out PV).bind fun v12 S13 => .ok v12 S13 : Out PV) fun v14 S15 => .rt v14 S15) | none => .stuck) | none => .stuck)
  | _ => .stuck
theorem q5 (call : Nat → List PV → Store → Out PV) (vs : List PV) (S : Store) : bodyF G.gls call t5 vs S = s5 call vs S := by
  match vs with
  | [] => kernel_rfl
  | [p0] => kernel_rfl
  | p0 :: _ :: _ => kernel_rfl
def s6_c0 (call : Nat → List PV → Store → Out PV) (e4 : Zv.Env) (S5 : Store) : Out PV := ob (look e4 2) fun v6 => match decide (([] : List PV).length ≤ LIM) with | true => (ob (cmpop .NotEq v6 (.lst []) S5) fun b7 => .ok (.bl b7) S5) | false => .stuck
def s6_l0 (call : Nat → List PV → Store → Out PV) (e4 : Zv.Env) (S5 : Store) : SOut := ofE e4 (ob (look e4 2) fun v8 => match recvOk .pop v8 with | true => (ob (methf .pop v8 [] S5) fun r9 => .ok r9.1 r9.2) | false => .stuck : Out PV) fun v10 S11 => ofE e4 (match (v10 : PV) with | .tup xs12 => (match decide (xs12.length = 2) with | true => (match xs12 with | x13 :: xs14 => (match xs14 with | x15 :: xs16 => (match xs16 with | [] => (.ok (List.set (List.set e4 4 (some x13)) 5 (some x15)) S11) | _ => .stuck) | _ => .stuck) | _ => .stuck) | false => .stuck) | _ => .stuck : Out Zv.Env) fun e17 S18 => ofE e17 (ob (look e17 4) fun v19 => (call 5 [v19] S18 : Out PV).bind fun v20 S21 => .ok v20 S21 : Out PV) fun v22 S23 => ofE e17 (.ok (List.set e17 3 (some v22)) S23 : Out Zv.Env) fun e24 S25 => ofE e24 (ob (look e24 3) fun v26 => ob (look e24 5) fun v27 => (call 5 [v27] S25 : Out PV).bind fun v28 S29 => ob (cmpop .NotEq v26 v28 S29) fun b30 => .ok (.bl b30) S29 : Out PV) fun v31 S32 => match truth v31 with | some true => (.rt (.bl false) S32) | some false => (ofE e24 (ob (look e24 3) fun v35 => match decide (([(.int 1), (.int 2)] : List PV).length ≤ LIM) with | true => (ob (cmpop .In v35 (.tup [(.int 1), (.int 2)]) S32) fun b36 => .ok (.bl b36) S32) | false => .stuck : Out PV) fun v37 S38 => match truth v37 with | some true => (ofE e24 (ob (look e24 4) fun v39 => ob (bfun .len [v39] S38) fun v40 => ob (look e24 5) fun v41 => ob (bfun .len [v41] S38) fun v42 => ob (cmpop .NotEq v40 v42 S38) fun b43 => .ok (.bl b43) S38 : Out PV) fun v44 S45 => match truth v44 with | some true => (.rt (.bl false) S45) | some false => (ofE e24 (ob (look e24 2) fun v48 => match recvOk .extend v48 with | true => (ob (look e24 4) fun v49 => ob (look e24 5) fun v50 => ob (itOf S45 v49) fun xs51 => ob (itOf S45 v50) fun ys52 => (biOf .list (zipL xs51.1 ys52.1, xs51.2 ++ ys52.2).1 S45 : Out PV).bind fun v53 S54 => ob (methf .extend v48 [v53] S54) fun r55 => .ok r55.1 r55.2) | false => .stuck : Out PV) fun v56 S57 => .nx e24 S57) | none => .stuck) | some false => (ofE e24 (ob (look e24 4) fun v58 => ob (look e24 5) fun v59 => ob (cmpop .NotEq v58 v59 S38) fun b60 => .ok (.bl b60) S38 : Out PV) fun v61 S62 => match truth v61 with | some true => (.rt (.bl false) S62) | some false => (.nx e24 S62) | none => .stuck) | none => .stuck) | none => .stuck
def s6 (call : Nat → List PV → Store → Out PV) (vs : List PV) (S : Store) : Out PV := match vs with
  | [p0, p1] => endF false S (ofE [some p0, some p1, none, none, none, none] (match decide (([p0, p1] : List PV).length ≤ LIM) with | true => (match decide (([.tup [p0, p1]] : List PV).length ≤ LIM) with | true => (match (.lst [.tup [p0, p1]] : PV) with | .lst xs1 => (match cleans xs1 with | true => (.ok (.loc S.length) (S ++ [.l xs1])) | false => .stuck) | _ => .stuck) | false => .stuck) | false => .stuck : Out PV) fun v2 S3 => (whileL (s6_c0 call) (s6_l0 call) 1000000 [some p0, some p1, some v2, none, none, none] S3).then_ fun e65 S66 => .rt (.bl true) S66)
  | _ => .stuck
theorem q6 (call : Nat → List PV → Store → Out PV) (vs : List PV) (S : Store) : bodyF G.gls call t6 vs S = s6 call vs S := by
  match vs with
  | [] => kernel_rfl
  | [p0] => kernel_rfl
  | [p0, p1] => kernel_rfl
  | p0 :: p1 :: _ :: _ => kernel_rfl
def s7_l0 (call : Nat → List PV → Store → Out PV) (x16 : PV) (e17 : Zv.Env) (S18 : Store) : SOut := ofE e17 (.ok (List.set e17 3 (some x16)) S18 : Out Zv.Env) fun e19 S20 => ofE e19 (ob (look e19 2) fun v21 => ob (look e19 0) fun v22 => ob (binop .Mult v21 v22 S20) fun v23 => .ok v23 S20 : Out PV) fun v24 S25 => ofE e19 (.ok (List.set e19 2 (some v24)) S25 : Out Zv.Env) fun e26 S27 => .nx e26 S27
def s7 (call : Nat → List PV → Store → Out PV) (vs : List PV) (S : Store) : Out PV := match vs with
  | [p0, p1] => endF false S (ofE [some p0, some p1, none, none] (ob (binop .Sub (.int 1) c0 S) fun v1 => ob (binop .Sub c0 (.int 1) S) fun v2 => (call 1 [p0, v1, v2] S : Out PV).bind fun v3 S4 => .ok v3 S4 : Out PV) fun v5 S6 => ofE [some p0, some p1, none, none] ((call 1 [p1, (.int 0), c1] S6 : Out PV).bind fun v7 S8 => .ok v7 S8 : Out PV) fun v9 S10 => ofE [some p0, some p1, some (.int 1), none] (ob (r1Of p1) fun xs13 => .ok xs13 S10 : Out (List PV × Guard)) fun xs14 S15 => (forL (s7_l0 call) xs14.2 xs14.1 [some p0, some p1, some (.int 1), none] S15).then_ fun e28 S29 => ofE e28 (ob (look e28 2) fun v30 => .ok v30 S29 : Out PV) fun v31 S32 => .rt v31 S32)
  | _ => .stuck
theorem q7 (call : Nat → List PV → Store → Out PV) (vs : List PV) (S : Store) : bodyF G.gls call t7 vs S = s7 call vs S := by
  match vs with
  | [] => kernel_rfl
  | [p0] => kernel_rfl
  | [p0, p1] => kernel_rfl
  | p0 :: p1 :: _ :: _ => kernel_rfl
def s8 (call : Nat → List PV → Store → Out PV) (vs : List PV) (S : Store) : Out PV := match vs with
  | [p0] => endF false S (ofE [some p0] (((call 0 [p0, (.int 2), (.int 7)] S : Out PV).bind fun v1 S2 => match truth v1 with | some true => (ob (cmpop .In p0 c2 S2) fun b3 => .ok (.bl b3) S2) | some false => (.ok v1 S2) | none => .stuck : Out PV).bind fun v4 S5 => .ok v4 S5 : Out PV) fun v6 S7 => .rt v6 S7)
  | _ => .stuck
theorem q8 (call : Nat → List PV → Store → Out PV) (vs : List PV) (S : Store) : bodyF G.gls call t8 vs S = s8 call vs S := by
  match vs with
  | [] => kernel_rfl
  | [p0] => kernel_rfl
  | p0 :: _ :: _ => kernel_rfl
def s9 (call : Nat → List PV → Store → Out PV) (vs : List PV) (S : Store) : Out PV := match vs with
  | [p0] => endF false S (ofE [some p0] ((call 8 [p0] S : Out PV).bind fun v1 S2 => ob (truth v1) fun v3 => .ok (.bl (!v3)) S2 : Out PV) fun v4 S5 => match truth v4 with | some true => (.stuck) | some false => (.nx [some p0] S5) | none => .stuck)
  | _ => .stuck
theorem q9 (call : Nat → List PV → Store → Out PV) (vs : List PV) (S : Store) : bodyF G.gls call t9 vs S = s9 call vs S := by
  match vs with
  | [] => kernel_rfl
  | [p0] => kernel_rfl
  | p0 :: _ :: _ => kernel_rfl
def s10 (call : Nat → List PV → Store → Out PV) (vs : List PV) (S : Store) : Out PV := match vs with
  | [p0] => endF false S (ofE [some p0] ((call 1 [p0, (.int 0), c3] S : Out PV).bind fun v1 S2 => .ok v1 S2 : Out PV) fun v3 S4 => .nx [some p0] S4)
  | _ => .stuck
theorem q10 (call : Nat → List PV → Store → Out PV) (vs : List PV) (S : Store) : bodyF G.gls call t10 vs S = s10 call vs S := by
  match vs with
  | [] => kernel_rfl
  | [p0] => kernel_rfl
  | p0 :: _ :: _ => kernel_rfl
def s11 (call : Nat → List PV → Store → Out PV) (vs : List PV) (S : Store) : Out PV := match vs with
  | [p0, p1] => endF false S (ofE [some p0, some p1] (ob (bfun .int [p1] S) fun v1 => ob (binop .Mod v1 p0 S) fun v2 => .ok v2 S : Out PV) fun v3 S4 => .rt v3 S4)
  | _ => .stuck
theorem q11 (call : Nat → List PV → Store → Out PV) (vs : List PV) (S : Store) : bodyF G.gls call t11 vs S = s11 call vs S := by
  match vs with
  | [] => kernel_rfl
  | [p0] => kernel_rfl
  | [p0, p1] => kernel_rfl
  | p0 :: p1 :: _ :: _ => kernel_rfl
def s12 (call : Nat → List PV → Store → Out PV) (vs : List PV) (S : Store) : Out PV := match vs with
  | [p0, p1] => endF false S (ofE [some p0, some p1] ((call 9 [p0] S : Out PV).bind fun v1 S2 => .ok v1 S2 : Out PV) fun v3 S4 => ofE [some p0, some p1] (ob (negOf c4) fun v5 => (call 1 [p1, v5, c4] S4 : Out PV).bind fun v6 S7 => .ok v6 S7 : Out PV) fun v8 S9 => ofE [some p0, some p1] ((call 11 [p0, p1] S9 : Out PV).bind fun v10 S11 => .ok v10 S11 : Out PV) fun v12 S13 => .rt v12 S13)
  | _ => .stuck
theorem q12 (call : Nat → List PV → Store → Out PV) (vs : List PV) (S : Store) : bodyF G.gls call t12 vs S = s12 call vs S := by
  match vs with
  | [] => kernel_rfl
  | [p0] => kernel_rfl
  | [p0, p1] => kernel_rfl
  | p0 :: p1 :: _ :: _ => kernel_rfl
def s13 (call : Nat → List PV → Store → Out PV) (vs : List PV) (S : Store) : Out PV := match vs with
  | [p0, p1] => endF false S (ofE [some p0, some p1, none] ((noExc (ob (r2Of (.int 1) p0) fun xs1 => loopC (fun x2 S3 => ob (binop .Mult x2 p1 S3) fun v4 => (call 11 [p0, v4] S3 : Out PV).bind fun v5 S6 => ob (cmpop .Eq v5 (.int 1) S6) fun b7 => match (b7 : Bool) with | true => (.ok (some x2) S6) | false => (.ok none S6)) xs1.2 xs1.1 S) : Out (List PV)).bind fun ys8 S9 => match decide (ys8.length ≤ LIM) with | true => (ob (ixOf S9 (.lst ys8) (.int 0)) fun v10 => .ok v10 S9) | false => .stuck : Out PV) fun v11 S12 => .rt v11 S12)
  | _ => .stuck
theorem q13 (call : Nat → List PV → Store → Out PV) (vs : List PV) (S : Store) : bodyF G.gls call t13 vs S = s13 call vs S := by
  match vs with
  | [] => kernel_rfl
  | [p0] => kernel_rfl
  | [p0, p1] => kernel_rfl
  | p0 :: p1 :: _ :: _ => kernel_rfl
def s14 (call : Nat → List PV → Store → Out PV) (vs : List PV) (S : Store) : Out PV := match vs with
  | [p0, p1] => endF false S (ofE [some p0, some p1] ((call 9 [p0] S : Out PV).bind fun v1 S2 => .ok v1 S2 : Out PV) fun v3 S4 => ofE [some p0, some p1] (ob (binop .Sub p0 (.int 1) S4) fun v5 => (call 0 [p1, (.int 1), v5] S4 : Out PV).bind fun v6 S7 => ob (truth v6) fun v8 => .ok (.bl (!v8)) S7 : Out PV) fun v9 S10 => match truth v9 with | some true => (.stuck) | some false => (ofE [some p0, some p1] ((call 13 [p0, p1] S10 : Out PV).bind fun v11 S12 => .ok v11 S12 : Out PV) fun v13 S14 => .rt v13 S14) | none => .stuck)
  | _ => .stuck
theorem q14 (call : Nat → List PV → Store → Out PV) (vs : List PV) (S : Store) : bodyF G.gls call t14 vs S = s14 call vs S := by
  match vs with
  | [] => kernel_rfl
  | [p0] => kernel_rfl
  | [p0, p1] => kernel_rfl
  | p0 :: p1 :: _ :: _ => kernel_rfl
def s15 (call : Nat → List PV → Store → Out PV) (vs : List PV) (S : Store) : Out PV := match vs with
  | [p0, p1, p2] => endF false S (ofE [some p0, some p1, some p2] ((call 9 [p0] S : Out PV).bind fun v1 S2 => .ok v1 S2 : Out PV) fun v3 S4 => ofE [some p0, some p1, some p2] ((call 10 [p1] S4 : Out PV).bind fun v5 S6 => .ok v5 S6 : Out PV) fun v7 S8 => ofE [some p0, some p1, some p2] (ob (binop .Sub p0 (.int 1) S8) fun v9 => (call 3 [p2, p1, (.int 0), v9] S8 : Out PV).bind fun v10 S11 => .ok v10 S11 : Out PV) fun v12 S13 => .rt v12 S13)
  | _ => .stuck
theorem q15 (call : Nat → List PV → Store → Out PV) (vs : List PV) (S : Store) : bodyF G.gls call t15 vs S = s15 call vs S := by
  match vs with
  | [] => kernel_rfl
  | [p0] => kernel_rfl
  | [p0, p1] => kernel_rfl
  | [p0, p1, p2] => kernel_rfl
  | p0 :: p1 :: p2 :: _ :: _ => kernel_rfl
def s16 (call : Nat → List PV → Store → Out PV) (vs : List PV) (S : Store) : Out PV := match vs with
  | [p0, p1] => endF false S (ofE [some p0, some p1] (((call 2 [p1, (.int 0), c3] S : Out PV).bind fun v1 S2 => match truth v1 with | some true => (ob (bfun .len [p1] S2) fun v3 => ob (binop .Sub p0 (.int 1) S2) fun v4 => (call 3 [p1, v3, (.int 0), v4] S2 : Out PV).bind fun v5 S6 => .ok v5 S6) | some false => (.ok v1 S2) | none => .stuck : Out PV).bind fun v7 S8 => .ok v7 S8 : Out PV) fun v9 S10 => .rt v9 S10)
  | _ => .stuck
theorem q16 (call : Nat → List PV → Store → Out PV) (vs : List PV) (S : Store) : bodyF G.gls call t16 vs S = s16 call vs S := by
  match vs with
  | [] => kernel_rfl
  | [p0] => kernel_rfl
  | [p0, p1] => kernel_rfl
  | p0 :: p1 :: _ :: _ => kernel_rfl
def s17 (call : Nat → List PV → Store → Out PV) (vs : List PV) (S : Store) : Out PV := match vs with
  | [p0, p1] => endF false S (ofE [some p0, some p1] ((call 16 [p0, p1] S : Out PV).bind fun v1 S2 => ob (truth v1) fun v3 => .ok (.bl (!v3)) S2 : Out PV) fun v4 S5 => match truth v4 with | some true => (.stuck) | some false => (.nx [some p0, some p1] S5) | none => .stuck)
  | _ => .stuck
theorem q17 (call : Nat → List PV → Store → Out PV) (vs : List PV) (S : Store) : bodyF G.gls call t17 vs S = s17 call vs S := by
  match vs with
  | [] => kernel_rfl
  | [p0] => kernel_rfl
  | [p0, p1] => kernel_rfl
  | p0 :: p1 :: _ :: _ => kernel_rfl
def s18 (call : Nat → List PV → Store → Out PV) (vs : List PV) (S : Store) : Out PV := match vs with
  | [p0, p1, p2] => endF false S (ofE [some p0, some p1, some p2] (ob (binop .Sub p0 (.int 1) S) fun v1 => (call 3 [p2, p1, (.int 0), v1] S : Out PV).bind fun v2 S3 => ob (truth v2) fun v4 => .ok (.bl (!v4)) S3 : Out PV) fun v5 S6 => match truth v5 with | some true => (.stuck) | some false => (.nx [some p0, some p1, some p2] S6) | none => .stuck)
  | _ => .stuck
theorem q18 (call : Nat → List PV → Store → Out PV) (vs : List PV) (S : Store) : bodyF G.gls call t18 vs S = s18 call vs S := by
  match vs with
  | [] => kernel_rfl
  | [p0] => kernel_rfl
  | [p0, p1] => kernel_rfl
  | [p0, p1, p2] => kernel_rfl
  | p0 :: p1 :: p2 :: _ :: _ => kernel_rfl
def s19 (call : Nat → List PV → Store → Out PV) (vs : List PV) (S : Store) : Out PV := match vs with
  | [p0, p1, p2] => endF false S (ofE [some p0, some p1, some p2, none, none] ((noExc (ob (itOf S p1) fun xs1 => ob (itOf S p2) fun ys2 => loopC (fun x3 S4 => match (x3 : PV) with | .tup xs5 => (match decide (xs5.length = 2) with | true => (match xs5 with | x6 :: xs7 => (match xs7 with | x8 :: xs9 => (match xs9 with | [] => (ob (binop .Add x6 x8 S4) fun v10 => (call 11 [p0, v10] S4 : Out PV).bind fun v11 S12 => .ok (some v11) S12) | _ => .stuck) | _ => .stuck) | _ => .stuck) | false => .stuck) | _ => .stuck) (zipL xs1.1 ys2.1, xs1.2 ++ ys2.2).2 (zipL xs1.1 ys2.1, xs1.2 ++ ys2.2).1 S) : Out (List PV)).bind fun ys13 S14 => match decide (ys13.length ≤ LIM) with | true => (ob (bfun .tuple [.lst ys13] S14) fun v15 => .ok v15 S14) | false => .stuck : Out PV) fun v16 S17 => .rt v16 S17)
  | _ => .stuck
theorem q19 (call : Nat → List PV → Store → Out PV) (vs : List PV) (S : Store) : bodyF G.gls call t19 vs S = s19 call vs S := by
  match vs with
  | [] => kernel_rfl
  | [p0] => kernel_rfl
  | [p0, p1] => kernel_rfl
  | [p0, p1, p2] => kernel_rfl
  | p0 :: p1 :: p2 :: _ :: _ => kernel_rfl
def s20 (call : Nat → List PV → Store → Out PV) (vs : List PV) (S : Store) : Out PV := match vs with
  | [p0, p1, p2] => endF false S (ofE [some p0, some p1, some p2, none] ((noExc (ob (itOf S p2) fun xs1 => loopC (fun x2 S3 => ob (binop .Mult p1 x2 S3) fun v4 => (call 11 [p0, v4] S3 : Out PV).bind fun v5 S6 => .ok (some v5) S6) xs1.2 xs1.1 S) : Out (List PV)).bind fun ys7 S8 => match decide (ys7.length ≤ LIM) with | true => (ob (bfun .tuple [.lst ys7] S8) fun v9 => .ok v9 S8) | false => .stuck : Out PV) fun v10 S11 => .rt v10 S11)
  | _ => .stuck
theorem q20 (call : Nat → List PV → Store → Out PV) (vs : List PV) (S : Store) : bodyF G.gls call t20 vs S = s20 call vs S := by
  match vs with
  | [] => kernel_rfl
  | [p0] => kernel_rfl
  | [p0, p1] => kernel_rfl
  | [p0, p1, p2] => kernel_rfl
  | p0 :: p1 :: p2 :: _ :: _ => kernel_rfl
def s21 (call : Nat → List PV → Store → Out PV) (vs : List PV) (S : Store) : Out PV := match vs with
  | [p0, p1, p2] => endF false S (ofE [some p0, some p1, some p2] ((call 9 [p0] S : Out PV).bind fun v1 S2 => .ok v1 S2 : Out PV) fun v3 S4 => ofE [some p0, some p1, some p2] ((call 17 [p0, p1] S4 : Out PV).bind fun v5 S6 => .ok v5 S6 : Out PV) fun v7 S8 => ofE [some p0, some p1, some p2] (ob (bfun .len [p1] S8) fun v9 => (call 18 [p0, v9, p2] S8 : Out PV).bind fun v10 S11 => .ok v10 S11 : Out PV) fun v12 S13 => ofE [some p0, some p1, some p2] ((call 19 [p0, p1, p2] S13 : Out PV).bind fun v14 S15 => .ok v14 S15 : Out PV) fun v16 S17 => .rt v16 S17)
  | _ => .stuck
theorem q21 (call : Nat → List PV → Store → Out PV) (vs : List PV) (S : Store) : bodyF G.gls call t21 vs S = s21 call vs S := by
  match vs with
  | [] => kernel_rfl
  | [p0] => kernel_rfl
  | [p0, p1] => kernel_rfl
  | [p0, p1, p2] => kernel_rfl
  | p0 :: p1 :: p2 :: _ :: _ => kernel_rfl
def s22 (call : Nat → List PV → Store → Out PV) (vs : List PV) (S : Store) : Out PV := match vs with
  | [p0, p1, p2] => endF false S (ofE [some p0, some p1, some p2] ((call 9 [p0] S : Out PV).bind fun v1 S2 => .ok v1 S2 : Out PV) fun v3 S4 => ofE [some p0, some p1, some p2] (ob (binop .Sub p0 (.int 1) S4) fun v5 => (call 1 [p1, (.int 0), v5] S4 : Out PV).bind fun v6 S7 => .ok v6 S7 : Out PV) fun v8 S9 => ofE [some p0, some p1, some p2] ((call 17 [p0, p2] S9 : Out PV).bind fun v10 S11 => .ok v10 S11 : Out PV) fun v12 S13 => ofE [some p0, some p1, some p2] ((call 20 [p0, p1, p2] S13 : Out PV).bind fun v14 S15 => .ok v14 S15 : Out PV) fun v16 S17 => .rt v16 S17)
  | _ => .stuck
theorem q22 (call : Nat → List PV → Store → Out PV) (vs : List PV) (S : Store) : bodyF G.gls call t22 vs S = s22 call vs S := by
  match vs with
  | [] => kernel_rfl
  | [p0] => kernel_rfl
  | [p0, p1] => kernel_rfl
  | [p0, p1, p2] => kernel_rfl
  | p0 :: p1 :: p2 :: _ :: _ => kernel_rfl
def s23 (call : Nat → List PV → Store → Out PV) (vs : List PV) (S : Store) : Out PV := match vs with
  | [p0] => endF false S (ofE [some p0, none, none, none] ((noExc (ob (itOf S p0) fun xs1 => loopC (fun x2 S3 => match (x2 : PV) with | .tup xs4 => (match decide (xs4.length = 2) with | true => (match xs4 with | x5 :: xs6 => (match xs6 with | x7 :: xs8 => (match xs8 with | [] => (ob (cmpop .NotEq x7 (.int 0) S3) fun b9 => match (b9 : Bool) with | true => (.ok (some x5) S3) | false => (.ok none S3)) | _ => .stuck) | _ => .stuck) | _ => .stuck) | false => .stuck) | _ => .stuck) (enumL 0 xs1.1, xs1.2).2 (enumL 0 xs1.1, xs1.2).1 S) : Out (List PV)).bind fun ys10 S11 => match decide (ys10.length ≤ LIM) with | true => (.ok (.lst ys10) S11) | false => .stuck : Out PV) fun v12 S13 => ofE [some p0, some v12, none, none] ((match decide (([] : List PV).length ≤ LIM) with | true => (ob (cmpop .NotEq v12 (.lst []) S13) fun b14 => match (b14 : Bool) with | true => (ob (ixOf S13 v12 (.int 0)) fun v15 => .ok v15 S13) | false => (.ok .non S13)) | false => .stuck : Out PV).bind fun v16 S17 => .ok v16 S17 : Out PV) fun v18 S19 => .rt v18 S19)
  | _ => .stuck
theorem q23 (call : Nat → List PV → Store → Out PV) (vs : List PV) (S : Store) : bodyF G.gls call t23 vs S = s23 call vs S := by
  match vs with
  | [] => kernel_rfl
  | [p0] => kernel_rfl
  | p0 :: _ :: _ => kernel_rfl
def s24 (call : Nat → List PV → Store → Out PV) (vs : List PV) (S : Store) : Out PV := match vs with
  | [p0, p1] => endF false S (ofE [some p0, some p1] ((call 9 [p0] S : Out PV).bind fun v1 S2 => .ok v1 S2 : Out PV) fun v3 S4 => ofE [some p0, some p1] ((call 17 [p0, p1] S4 : Out PV).bind fun v5 S6 => .ok v5 S6 : Out PV) fun v7 S8 => ofE [some p0, some p1] ((call 23 [p1] S8 : Out PV).bind fun v9 S10 => .ok v9 S10 : Out PV) fun v11 S12 => .rt v11 S12)
  | _ => .stuck
theorem q24 (call : Nat → List PV → Store → Out PV) (vs : List PV) (S : Store) : bodyF G.gls call t24 vs S = s24 call vs S := by
  match vs with
  | [] => kernel_rfl
  | [p0] => kernel_rfl
  | [p0, p1] => kernel_rfl
  | p0 :: p1 :: _ :: _ => kernel_rfl
def s25_l0 (call : Nat → List PV → Store → Out PV) (x6 : PV) (e7 : Zv.Env) (S8 : Store) : SOut := ofE e7 (.ok (List.set e7 3 (some x6)) S8 : Out Zv.Env) fun e9 S10 => ofE e9 ((noExc (ob (look e9 2) fun v11 => ob (itOf S10 v11) fun xs12 => loopC2 (fun x13 S14 => ob (look (List.set (wipeE e9 [4, 5]) 4 (some x13)) 0) fun v15 => ob (r1Of v15) fun xs16 => loopC (fun z17 S18 => ob (look (List.set (wipeE (List.set (wipeE e9 [4, 5]) 4 (some x13)) [5]) 5 (some z17)) 4) fun v19 => ob (look (List.set (wipeE (List.set (wipeE e9 [4, 5]) 4 (some x13)) [5]) 5 (some z17)) 5) fun v20 => match decide (([v20] : List PV).length ≤ LIM) with | true => (ob (binop .Add v19 (.tup [v20]) S18) fun v21 => .ok (some v21) S18) | false => .stuck) xs16.2 xs16.1 S14) xs12.2 xs12.1 S10) : Out (List PV)).bind fun ys22 S23 => match decide (ys22.length ≤ LIM) with | true => (.ok (.lst ys22) S23) | false => .stuck : Out PV) fun v24 S25 => ofE e9 (.ok (List.set e9 2 (some v24)) S25 : Out Zv.Env) fun e26 S27 => .nx e26 S27
def s25 (call : Nat → List PV → Store → Out PV) (vs : List PV) (S : Store) : Out PV := match vs with
  | [p0, p1] => endF false S (ofE [some p0, some p1, none, none, none, none] (match decide (([] : List PV).length ≤ LIM) with | true => (match decide (([.tup []] : List PV).length ≤ LIM) with | true => (.ok (.lst [.tup []]) S) | false => .stuck) | false => .stuck : Out PV) fun v1 S2 => ofE [some p0, some p1, some v1, none, none, none] (ob (r1Of p1) fun xs3 => .ok xs3 S2 : Out (List PV × Guard)) fun xs4 S5 => (forL (s25_l0 call) xs4.2 xs4.1 [some p0, some p1, some v1, none, none, none] S5).then_ fun e28 S29 => ofE e28 (ob (look e28 2) fun v30 => .ok v30 S29 : Out PV) fun v31 S32 => .rt v31 S32)
  | _ => .stuck
theorem q25 (call : Nat → List PV → Store → Out PV) (vs : List PV) (S : Store) : bodyF G.gls call t25 vs S = s25 call vs S := by
  match vs with
  | [] => kernel_rfl
  | [p0] => kernel_rfl
  | [p0, p1] => kernel_rfl
  | p0 :: p1 :: _ :: _ => kernel_rfl
def s26 (call : Nat → List PV → Store → Out PV) (vs : List PV) (S : Store) : Out PV := match vs with
  | [p0, p1] => endF false S (ofE [some p0, some p1] ((call 9 [p0] S : Out PV).bind fun v1 S2 => .ok v1 S2 : Out PV) fun v3 S4 => ofE [some p0, some p1] ((call 10 [p1] S4 : Out PV).bind fun v5 S6 => .ok v5 S6 : Out PV) fun v7 S8 => ofE [some p0, some p1] ((call 7 [p0, p1] S8 : Out PV).bind fun v9 S10 => ob (cmpop .Gt v9 c5 S10) fun b11 => .ok (.bl b11) S10 : Out PV) fun v12 S13 => match truth v12 with | some true => (.stuck) | some false => (ofE [some p0, some p1] ((call 25 [p0, p1] S13 : Out PV).bind fun v14 S15 => ob (bfun .tuple [v14] S15) fun v16 => .ok v16 S15 : Out PV) fun v17 S18 => .rt v17 S18) | none => .stuck)
  | _ => .stuck
theorem q26 (call : Nat → List PV → Store → Out PV) (vs : List PV) (S : Store) : bodyF G.gls call t26 vs S = s26 call vs S := by
  match vs with
  | [] => kernel_rfl
  | [p0] => kernel_rfl
  | [p0, p1] => kernel_rfl
  | p0 :: p1 :: _ :: _ => kernel_rfl
def s27 (call : Nat → List PV → Store → Out PV) (vs : List PV) (S : Store) : Out PV := match vs with
  | [p0] => endF true S (ofE [some p0, none] (ob (bfun .list [p0] S) fun v1 => match decide (([(.int 0)] : List PV).length ≤ LIM) with | true => (ob (binop .Add v1 (.lst [(.int 0)]) S) fun v2 => ob (ixOf S v2 (.int 0)) fun v3 => ob (bfun .abs [v3] S) fun v4 => .ok v4 S) | false => .stuck : Out PV) fun v5 S6 => ofE [some p0, some v5] ((ob (binop .Pow (.int 10) (.int 18) S6) fun v7 => ob (cmpop .GtE v5 v7 S6) fun b8 => match (b8 : Bool) with | true => (ob (binop .FloorDiv v5 (.int 79) S6) fun v9 => .ok v9 S6) | false => (.ok (.int 0) S6) : Out PV).bind fun v10 S11 => ob (binop .Mult v5 (.int 283) S11) fun v12 => ob (binop .Add v12 (.int 3907) S11) fun v13 => ob (bfun .int [v13] S11) fun v14 => ob (binop .Mod v14 (.int 2077503259) S11) fun v15 => ob (binop .Add v15 (.int 197) S11) fun v16 => match decide (([v10, v16] : List PV).length ≤ LIM) with | true => (match (.lst [v10, v16] : PV) with | .lst xs17 => (match cleans xs17 with | true => (.ok (.loc S11.length) (S11 ++ [.l xs17])) | false => .stuck) | _ => .stuck) | false => .stuck : Out PV) fun v18 S19 => .rt v18 S19)
  | _ => .stuck
theorem q27 (call : Nat → List PV → Store → Out PV) (vs : List PV) (S : Store) : bodyF G.gls call t27 vs S = s27 call vs S := by
  match vs with
  | [] => kernel_rfl
  | [p0] => kernel_rfl
  | p0 :: _ :: _ => kernel_rfl
def s28 (call : Nat → List PV → Store → Out PV) (vs : List PV) (S : Store) : Out PV := match vs with
  | [p0, p1] => endF false S (ofE [some p0, some p1, none, none] (ob (ixOf S p0 (.int 0)) fun v1 => ob (cmpop .Gt v1 (.int 0) S) fun b2 => .ok (.bl b2) S : Out PV) fun v3 S4 => match truth v3 with | some true => (ofE [some p0, some p1, none, none] (ob (ixOf S4 p0 (.int 0)) fun v5 => ob (bfun .int [v5] S4) fun v6 => ob (binop .Mod v6 p1 S4) fun v7 => .ok v7 S4 : Out PV) fun v8 S9 => ofE [some p0, some p1, none, some v8] (ob (ixOf S9 p0 (.int 0)) fun v10 => ob (binop .FloorDiv v10 p1 S9) fun v11 => .ok v11 S9 : Out PV) fun v12 S13 => ofE [some p0, some p1, none, some v8] ((noExc (match (p0 : PV) with | .loc n14 => (match ((.int 0) : PV) with | .int i15 => (match S13[n14]? with | some (.l xs16) => (match at_ xs16.length i15 with | some j17 => (match (v12 : PV).clean with | true => .ok [some p0, some p1, none, some v8] (S13.set n14 (.l (xs16.set j17 v12))) | false => .stuck) | none => .stuck) | _ => .stuck) | _ => .stuck) | _ => .stuck) : Out Zv.Env).bind fun _ S18 => .ok [some p0, some p1, none, some v8] S18 : Out Zv.Env) fun e19 S20 => ofE e19 (ob (look e19 3) fun v21 => .ok v21 S20 : Out PV) fun v22 S23 => .rt v22 S23) | some false => (ofE [some p0, some p1, none, none] (ob (ixOf S4 p0 (.int 1)) fun v24 => ob (binop .Mult v24 (.int 31051) S4) fun v25 => ob (binop .Add v25 (.int 8053) S4) fun v26 => ob (bfun .int [v26] S4) fun v27 => ob (binop .Mod v27 (.int 2147483549) S4) fun v28 => .ok v28 S4 : Out PV) fun v29 S30 => ofE [some p0, some p1, none, none] ((noExc (match (p0 : PV) with | .loc n31 => (match ((.int 1) : PV) with | .int i32 => (match S30[n31]? with | some (.l xs33) => (match at_ xs33.length i32 with | some j34 => (match (v29 : PV).clean with | true => .ok [some p0, some p1, none, none] (S30.set n31 (.l (xs33.set j34 v29))) | false => .stuck) | none => .stuck) | _ => .stuck) | _ => .stuck) | _ => .stuck) : Out Zv.Env).bind fun _ S35 => .ok [some p0, some p1, none, none] S35 : Out Zv.Env) fun e36 S37 => ofE e36 (ob (look e36 0) fun v38 => ob (ixOf S37 v38 (.int 1)) fun v39 => ob (look e36 0) fun v40 => ob (ixOf S37 v40 (.int 1)) fun v41 => ob (binop .Add v41 (.int 251) S37) fun v42 => ob (binop .Mult v39 v42 S37) fun v43 => ob (bfun .int [v43] S37) fun v44 => ob (binop .Mod v44 (.int 2147483587) S37) fun v45 => .ok v45 S37 : Out PV) fun v46 S47 => ofE e36 (.ok (List.set e36 2 (some v46)) S47 : Out Zv.Env) fun e48 S49 => ofE e48 (ob (look e48 2) fun v50 => ob (binop .FloorDiv v50 (.int 839) S49) fun v51 => ob (bfun .int [v51] S49) fun v52 => ob (look e48 1) fun v53 => ob (binop .Mod v52 v53 S49) fun v54 => .ok v54 S49 : Out PV) fun v55 S56 => .rt v55 S56) | none => .stuck)
  | _ => .stuck
theorem q28 (call : Nat → List PV → Store → Out PV) (vs : List PV) (S : Store) : bodyF G.gls call t28 vs S = s28 call vs S := by
  match vs with
  | [] => kernel_rfl
  | [p0] => kernel_rfl
  | [p0, p1] => kernel_rfl
  | p0 :: p1 :: _ :: _ => kernel_rfl
def s29 (call : Nat → List PV → Store → Out PV) (vs : List PV) (S : Store) : Out PV := match vs with
  | [p0, p1] => endF false S (ofE [some p0, some p1] (ob (bfun .len [p1] S) fun v1 => (call 28 [p0, v1] S : Out PV).bind fun v2 S3 => ob (ixOf S3 p1 v2) fun v4 => .ok v4 S3 : Out PV) fun v5 S6 => .rt v5 S6)
  | _ => .stuck
theorem q29 (call : Nat → List PV → Store → Out PV) (vs : List PV) (S : Store) : bodyF G.gls call t29 vs S = s29 call vs S := by
  match vs with
  | [] => kernel_rfl
  | [p0] => kernel_rfl
  | [p0, p1] => kernel_rfl
  | p0 :: p1 :: _ :: _ => kernel_rfl
def s30 (call : Nat → List PV → Store → Out PV) (vs : List PV) (S : Store) : Out PV := match vs with
  | [p0] => endF false S (ofE [some p0] ((ob (cmpop .Is p0 .non S) fun b1 => match (b1 : Bool) with | true => (.ok (.bl b1) S) | false => (ob (isTy "bool" p0) fun b2 => .ok (.bl b2) S) : Out PV).bind fun v3 S4 => .ok v3 S4 : Out PV) fun v5 S6 => match truth v5 with | some true => (ofE [some p0] ((ob (cmpop .Is p0 .non S6) fun b7 => match (b7 : Bool) with | true => (.ok (.int 0) S6) | false => (.ok (.int 1) S6) : Out PV).bind fun v8 S9 => .ok v8 S9 : Out PV) fun v10 S11 => .rt v10 S11) | some false => (ofE [some p0] ((ob (isTy "int" p0) fun b12 => match (b12 : Bool) with | true => (.ok (.bl b12) S6) | false => (ob (isTy "str" p0) fun b13 => .ok (.bl b13) S6) : Out PV).bind fun v14 S15 => .ok v14 S15 : Out PV) fun v16 S17 => match truth v16 with | some true => (ofE [some p0] ((ob (isTy "int" p0) fun b18 => match (b18 : Bool) with | true => (.ok (.int 2) S17) | false => (.ok (.int 3) S17) : Out PV).bind fun v19 S20 => .ok v19 S20 : Out PV) fun v21 S22 => .rt v21 S22) | some false => (ofE [some p0] ((ob (isTy "tuple" p0) fun b23 => match (b23 : Bool) with | true => (.ok (.int 4) S17) | false => ((ob (isTy "list" p0) fun b24 => match (b24 : Bool) with | true => (.ok (.int 5) S17) | false => (.ok (.int 6) S17) : Out PV).bind fun v25 S26 => .ok v25 S26) : Out PV).bind fun v27 S28 => .ok v27 S28 : Out PV) fun v29 S30 => .rt v29 S30) | none => .stuck) | none => .stuck)
  | _ => .stuck
theorem q30 (call : Nat → List PV → Store → Out PV) (vs : List PV) (S : Store) : bodyF G.gls call t30 vs S = s30 call vs S := by
  match vs with
  | [] => kernel_rfl
  | [p0] => kernel_rfl
  | p0 :: _ :: _ => kernel_rfl
def s31 (call : Nat → List PV → Store → Out PV) (vs : List PV) (S : Store) : Out PV := match vs with
  | [p0, p1] => endF false S (ofE [some p0, some p1, none, none, none] ((call 30 [p1] S : Out PV).bind fun v1 S2 => .ok v1 S2 : Out PV) fun v3 S4 => ofE [some p0, some p1, some v3, none, none] (((call 30 [p0] S4 : Out PV).bind fun v5 S6 => ob (cmpop .NotEq v5 v3 S6) fun b7 => match (b7 : Bool) with | true => (.ok (.bl b7) S6) | false => (ob (cmpop .Eq v3 (.int 6) S6) fun b8 => .ok (.bl b8) S6) : Out PV).bind fun v9 S10 => .ok v9 S10 : Out PV) fun v11 S12 => match truth v11 with | some true => (.rt (.bl false) S12) | some false => (ofE [some p0, some p1, some v3, none, none] (match decide (([(.int 4), (.int 5)] : List PV).length ≤ LIM) with | true => (ob (cmpop .In v3 (.tup [(.int 4), (.int 5)]) S12) fun b15 => .ok (.bl b15) S12) | false => .stuck : Out PV) fun v16 S17 => match truth v16 with | some true => (ofE [some p0, some p1, some v3, none, none] ((ob (bfun .len [p0] S17) fun v18 => ob (bfun .len [p1] S17) fun v19 => ob (cmpop .Eq v18 v19 S17) fun b20 => match (b20 : Bool) with | true => ((noExc (ob (itOf S17 p0) fun xs21 => ob (itOf S17 p1) fun ys22 => loopC (fun x23 S24 => match (x23 : PV) with | .tup xs25 => (match decide (xs25.length = 2) with | true => (match xs25 with | x26 :: xs27 => (match xs27 with | x28 :: xs29 => (match xs29 with | [] => ((call 31 [x26, x28] S24 : Out PV).bind fun v30 S31 => ob (truth v30) fun v32 => match (!v32 : Bool) with | true => (.ok (some (.int 1)) S31) | false => (.ok none S31)) | _ => .stuck) | _ => .stuck) | _ => .stuck) | false => .stuck) | _ => .stuck) (zipL xs21.1 ys22.1, xs21.2 ++ ys22.2).2 (zipL xs21.1 ys22.1, xs21.2 ++ ys22.2).1 S17) : Out (List PV)).bind fun ys33 S34 => match decide (ys33.length ≤ LIM) with | true => (match decide (([] : List PV).length ≤ LIM) with | true => (ob (cmpop .Eq (.lst ys33) (.lst []) S34) fun b35 => .ok (.bl b35) S34) | false => .stuck) | false => .stuck) | false => (.ok (.bl b20) S17) : Out PV).bind fun v36 S37 => .ok v36 S37 : Out PV) fun v38 S39 => .rt v38 S39) | some false => (ofE [some p0, some p1, some v3, none, none] (ob (cmpop .Eq p0 p1 S17) fun b40 => .ok (.bl b40) S17 : Out PV) fun v41 S42 => .rt v41 S42) | none => .stuck) | none => .stuck)
  | _ => .stuck
theorem q31 (call : Nat → List PV → Store → Out PV) (vs : List PV) (S : Store) : bodyF G.gls call t31 vs S = s31 call vs S := by
  match vs with
  | [] => kernel_rfl
  | [p0] => kernel_rfl
  | [p0, p1] => kernel_rfl
  | p0 :: p1 :: _ :: _ => kernel_rfl
def s32 (call : Nat → List PV → Store → Out PV) (vs : List PV) (S : Store) : Out PV := match vs with
  | [p0, p1, p2] => endF false S (ofE [some p0, some p1, some p2, none, none] (((call 28 [p0, (.int 3)] S : Out PV).bind fun v1 S2 => ob (cmpop .Eq v1 (.int 0) S2) fun b3 => match (b3 : Bool) with | true => (ob (binop .Add p2 (.int 1) S2) fun v4 => (call 28 [p0, v4] S2 : Out PV).bind fun v5 S6 => .ok v5 S6) | false => (.ok (.int 0) S2) : Out PV).bind fun v7 S8 => .ok v7 S8 : Out PV) fun v9 S10 => ofE [some p0, some p1, some p2, some v9, none] ((noExc (ob (r1Of p2) fun xs11 => loopC (fun x12 S13 => (ob (cmpop .Lt x12 v9 S13) fun b14 => match (b14 : Bool) with | true => (.ok (.int 0) S13) | false => ((call 28 [p0, p1] S13 : Out PV).bind fun v15 S16 => .ok v15 S16) : Out PV).bind fun v17 S18 => .ok (some v17) S18) xs11.2 xs11.1 S10) : Out (List PV)).bind fun ys19 S20 => match decide (ys19.length ≤ LIM) with | true => (ob (bfun .tuple [.lst ys19] S20) fun v21 => .ok v21 S20) | false => .stuck : Out PV) fun v22 S23 => .rt v22 S23)
  | _ => .stuck
theorem q32 (call : Nat → List PV → Store → Out PV) (vs : List PV) (S : Store) : bodyF G.gls call t32 vs S = s32 call vs S := by
  match vs with
  | [] => kernel_rfl
  | [p0] => kernel_rfl
  | [p0, p1] => kernel_rfl
  | [p0, p1, p2] => kernel_rfl
  | p0 :: p1 :: p2 :: _ :: _ => kernel_rfl
def s33_l0 (call : Nat → List PV → Store → Out PV) (x19 : PV) (e20 : Zv.Env) (S21 : Store) : SOut := ofE e20 (.ok (List.set e20 5 (some x19)) S21 : Out Zv.Env) fun e22 S23 => ofE e22 (ob (look e22 4) fun v24 => (noExc (ob (look e22 0) fun v25 => ob (r1Of v25) fun xs26 => loopC (fun x27 S28 => ob (look (List.set (wipeE e22 [6]) 6 (some x27)) 5) fun v29 => ob (look (List.set (wipeE e22 [6]) 6 (some x27)) 6) fun v30 => match decide (([v30] : List PV).length ≤ LIM) with | true => (ob (binop .Add v29 (.tup [v30]) S28) fun v31 => .ok (some v31) S28) | false => .stuck) xs26.2 xs26.1 S23) : Out (List PV)).bind fun ys32 S33 => match decide (ys32.length ≤ LIM) with | true => (ob (binop .Add v24 (.lst ys32) S33) fun v34 => .ok v34 S33) | false => .stuck : Out PV) fun v35 S36 => ofE e22 (.ok (List.set e22 4 (some v35)) S36 : Out Zv.Env) fun e37 S38 => .nx e37 S38
def s33_l1 (call : Nat → List PV → Store → Out PV) (x6 : PV) (e7 : Zv.Env) (S8 : Store) : SOut := ofE e7 (.ok (List.set e7 3 (some x6)) S8 : Out Zv.Env) fun e9 S10 => ofE e9 (match decide (([] : List PV).length ≤ LIM) with | true => (.ok (.lst []) S10) | false => .stuck : Out PV) fun v11 S12 => ofE e9 (.ok (List.set e9 4 (some v11)) S12 : Out Zv.Env) fun e13 S14 => ofE e13 (ob (look e13 2) fun v15 => ob (itOf S14 v15) fun xs16 => .ok xs16 S14 : Out (List PV × Guard)) fun xs17 S18 => (forL (s33_l0 call) xs17.2 xs17.1 e13 S18).then_ fun e39 S40 => ofE e39 (ob (look e39 4) fun v41 => .ok v41 S40 : Out PV) fun v42 S43 => ofE e39 (.ok (List.set e39 2 (some v42)) S43 : Out Zv.Env) fun e44 S45 => .nx e44 S45
def s33 (call : Nat → List PV → Store → Out PV) (vs : List PV) (S : Store) : Out PV := match vs with
  | [p0, p1] => endF false S (ofE [some p0, some p1, none, none, none, none, none] (match decide (([] : List PV).length ≤ LIM) with | true => (match decide (([.tup []] : List PV).length ≤ LIM) with | true => (.ok (.lst [.tup []]) S) | false => .stuck) | false => .stuck : Out PV) fun v1 S2 => ofE [some p0, some p1, some v1, none, none, none, none] (ob (r1Of p1) fun xs3 => .ok xs3 S2 : Out (List PV × Guard)) fun xs4 S5 => (forL (s33_l1 call) xs4.2 xs4.1 [some p0, some p1, some v1, none, none, none, none] S5).then_ fun e46 S47 => ofE e46 (ob (look e46 2) fun v48 => ob (bfun .tuple [v48] S47) fun v49 => .ok v49 S47 : Out PV) fun v50 S51 => .rt v50 S51)
  | _ => .stuck
theorem q33 (call : Nat → List PV → Store → Out PV) (vs : List PV) (S : Store) : bodyF G.gls call t33 vs S = s33 call vs S := by
  match vs with
  | [] => kernel_rfl
  | [p0] => kernel_rfl
  | [p0, p1] => kernel_rfl
  | p0 :: p1 :: _ :: _ => kernel_rfl
def s34_l0 (call : Nat → List PV → Store → Out PV) (x6 : PV) (e7 : Zv.Env) (S8 : Store) : SOut := ofE e7 (.ok (List.set e7 4 (some x6)) S8 : Out Zv.Env) fun e9 S10 => ofE e9 (ob (look e9 2) fun v11 => ob (bfun .int [v11] S10) fun v12 => ob (look e9 0) fun v13 => ob (binop .Mod v12 v13 S10) fun v14 => match decide (([v14] : List PV).length ≤ LIM) with | true => (ob (look e9 3) fun v15 => ob (binop .Add (.tup [v14]) v15 S10) fun v16 => ob (look e9 2) fun v17 => ob (look e9 0) fun v18 => ob (binop .FloorDiv v17 v18 S10) fun v19 => .ok [v16, v19] S10) | false => .stuck : Out (List PV)) fun vs20 S21 => ofE e9 (match vs20 with | x22 :: xs23 => (match xs23 with | x24 :: xs25 => (match xs25 with | [] => .ok (List.set (List.set e9 3 (some x22)) 2 (some x24)) S21 | _ => .stuck) | _ => .stuck) | _ => .stuck : Out Zv.Env) fun e26 S27 => .nx e26 S27
def s34 (call : Nat → List PV → Store → Out PV) (vs : List PV) (S : Store) : Out PV := match vs with
  | [p0, p1, p2] => endF false S (ofE [some p0, some p1, some p2, none, none] (match decide (([] : List PV).length ≤ LIM) with | true => (.ok (.tup []) S) | false => .stuck : Out PV) fun v1 S2 => ofE [some p0, some p1, some p2, some v1, none] (ob (r1Of p1) fun xs3 => .ok xs3 S2 : Out (List PV × Guard)) fun xs4 S5 => (forL (s34_l0 call) xs4.2 xs4.1 [some p0, some p1, some p2, some v1, none] S5).then_ fun e28 S29 => ofE e28 (ob (look e28 3) fun v30 => .ok v30 S29 : Out PV) fun v31 S32 => .rt v31 S32)
  | _ => .stuck
theorem q34 (call : Nat → List PV → Store → Out PV) (vs : List PV) (S : Store) : bodyF G.gls call t34 vs S = s34 call vs S := by
  match vs with
  | [] => kernel_rfl
  | [p0] => kernel_rfl
  | [p0, p1] => kernel_rfl
  | [p0, p1, p2] => kernel_rfl
  | p0 :: p1 :: p2 :: _ :: _ => kernel_rfl
def s35_l0 (call : Nat → List PV → Store → Out PV) (x6 : PV) (e7 : Zv.Env) (S8 : Store) : SOut := ofE e7 (.ok (List.set e7 3 (some x6)) S8 : Out Zv.Env) fun e9 S10 => ofE e9 (ob (look e9 2) fun v11 => ob (look e9 0) fun v12 => ob (binop .Mult v11 v12 S10) fun v13 => .ok v13 S10 : Out PV) fun v14 S15 => ofE e9 (.ok (List.set e9 2 (some v14)) S15 : Out Zv.Env) fun e16 S17 => .nx e16 S17
def s35 (call : Nat → List PV → Store → Out PV) (vs : List PV) (S : Store) : Out PV := match vs with
  | [p0, p1] => endF false S (ofE [some p0, some p1, some (.int 1), none] (ob (r1Of p1) fun xs3 => .ok xs3 S : Out (List PV × Guard)) fun xs4 S5 => (forL (s35_l0 call) xs4.2 xs4.1 [some p0, some p1, some (.int 1), none] S5).then_ fun e18 S19 => ofE e18 (ob (look e18 2) fun v20 => .ok v20 S19 : Out PV) fun v21 S22 => .rt v21 S22)
  | _ => .stuck
theorem q35 (call : Nat → List PV → Store → Out PV) (vs : List PV) (S : Store) : bodyF G.gls call t35 vs S = s35 call vs S := by
  match vs with
  | [] => kernel_rfl
  | [p0] => kernel_rfl
  | [p0, p1] => kernel_rfl
  | p0 :: p1 :: _ :: _ => kernel_rfl
def s36 (call : Nat → List PV → Store → Out PV) (vs : List PV) (S : Store) : Out PV := match vs with
  | [p0] => endF false S (ofE [some p0, none, none] ((noExc (ob (itOf S p0) fun xs1 => loopC (fun x2 S3 => match (x2 : PV) with | .tup xs4 => (match decide (xs4.length = 2) with | true => (match xs4 with | x5 :: xs6 => (match xs6 with | x7 :: xs8 => (match xs8 with | [] => (ob (cmpop .NotEq x7 (.int 0) S3) fun b9 => match (b9 : Bool) with | true => (.ok (some x5) S3) | false => (.ok none S3)) | _ => .stuck) | _ => .stuck) | _ => .stuck) | false => .stuck) | _ => .stuck) (enumL 0 xs1.1, xs1.2).2 (enumL 0 xs1.1, xs1.2).1 S) : Out (List PV)).bind fun ys10 S11 => match decide (ys10.length ≤ LIM) with | true => (match decide (([.non] : List PV).length ≤ LIM) with | true => (ob (binop .Add (.lst ys10) (.lst [.non]) S11) fun v12 => ob (ixOf S11 v12 (.int 0)) fun v13 => .ok v13 S11) | false => .stuck) | false => .stuck : Out PV) fun v14 S15 => .rt v14 S15)
  | _ => .stuck
theorem q36 (call : Nat → List PV → Store → Out PV) (vs : List PV) (S : Store) : bodyF G.gls call t36 vs S = s36 call vs S := by
  match vs with
  | [] => kernel_rfl
  | [p0] => kernel_rfl
  | p0 :: _ :: _ => kernel_rfl
def s37 (call : Nat → List PV → Store → Out PV) (vs : List PV) (S : Store) : Out PV := match vs with
  | [] => endF false S (ofE [none, none, none, none, none, none, none] ((noExc (ob (negOf (.int 1)) fun v1 => match decide (([(.int 1)] : List PV).length ≤ LIM) with | true => (match decide (([(.int 0), (.int 3), (.int 4), v1, (.bl true), (.bl false), (.str "1"), .non, .tup [(.int 1)]] : List PV).length ≤ LIM) with | true => (ob (itOf S (.tup [(.int 0), (.int 3), (.int 4), v1, (.bl true), (.bl false), (.str "1"), .non, .tup [(.int 1)]])) fun xs2 => loopC (fun x3 S4 => (call 0 [x3, (.int 0), (.int 3)] S4 : Out PV).bind fun v5 S6 => .ok (some v5) S6) xs2.2 xs2.1 S) | false => .stuck) | false => .stuck) : Out (List PV)).bind fun ys7 S8 => match decide (ys7.length ≤ LIM) with | true => ((call 1 [(.int 3), (.int 3), (.int 3)] S8 : Out PV).bind fun v9 S10 => match decide (([v9] : List PV).length ≤ LIM) with | true => (ob (binop .Add (.lst ys7) (.lst [v9]) S10) fun v11 => .ok v11 S10) | false => .stuck) | false => .stuck : Out PV) fun v12 S13 => ofE [some v12, none, none, none, none, none, none] (match decide (([(.bl true), (.bl true)] : List PV).length ≤ LIM) with | true => (match decide (([(.bl false)] : List PV).length ≤ LIM) with | true => (ob (binop .Mult (.lst [(.bl false)]) (.int 7) S13) fun v14 => ob (binop .Add (.lst [(.bl true), (.bl true)]) v14 S13) fun v15 => match decide (([.non] : List PV).length ≤ LIM) with | true => (ob (binop .Add v15 (.lst [.non]) S13) fun v16 => (call 31 [v12, v16] S13 : Out PV).bind fun v17 S18 => ob (truth v17) fun v19 => .ok (.bl (!v19)) S18) | false => .stuck) | false => .stuck) | false => .stuck : Out PV) fun v20 S21 => match truth v20 with | some true => (.rt (.bl false) S21) | some false => (ofE [some v12, none, none, none, none, none, none] ((noExc (match decide (([] : List PV).length ≤ LIM) with | true => (match decide (([(.int 1)] : List PV).length ≤ LIM) with | true => (match decide (([(.int 1), (.int 2)] : List PV).length ≤ LIM) with | true => (match decide (([(.int 1), (.int 2), (.int 3)] : List PV).length ≤ LIM) with | true => (match decide (([(.int 1)] : List PV).length ≤ LIM) with | true => (match decide (([.tup [], .tup [(.int 1)], .tup [(.int 1), (.int 2)], .tup [(.int 1), (.int 2), (.int 3)], .lst [(.int 1)], (.str "a"), .non] : List PV).length ≤ LIM) with | true => (ob (itOf S21 (.tup [.tup [], .tup [(.int 1)], .tup [(.int 1), (.int 2)], .tup [(.int 1), (.int 2), (.int 3)], .lst [(.int 1)], (.str "a"), .non])) fun xs24 => loopC (fun x25 S26 => (call 2 [x25, (.int 1), (.int 2)] S26 : Out PV).bind fun v27 S28 => .ok (some v27) S28) xs24.2 xs24.1 S21) | false => .stuck) | false => .stuck) | false => .stuck) | false => .stuck) | false => .stuck) | false => .stuck) : Out (List PV)).bind fun ys29 S30 => match decide (ys29.length ≤ LIM) with | true => (.ok (.lst ys29) S30) | false => .stuck : Out PV) fun v31 S32 => ofE [some v31, none, none, none, none, none, none] ((noExc (match decide (([(.int 0), (.int 5)] : List PV).length ≤ LIM) with | true => (match decide (([(.int 0), (.int 6)] : List PV).length ≤ LIM) with | true => (match decide (([(.int 0), (.bl true)] : List PV).length ≤ LIM) with | true => (match decide (([(.int 0), (.int 1)] : List PV).length ≤ LIM) with | true => (match decide (([(.int 0)] : List PV).length ≤ LIM) with | true => (match decide (([(.int 0), (.int 1), (.int 2)] : List PV).length ≤ LIM) with | true => (match decide (([.tup [(.int 0), (.int 5)], .tup [(.int 0), (.int 6)], .tup [(.int 0), (.bl true)], .lst [(.int 0), (.int 1)], .tup [(.int 0)], .tup [(.int 0), (.int 1), (.int 2)], .non] : List PV).length ≤ LIM) with | true => (ob (itOf S32 (.tup [.tup [(.int 0), (.int 5)], .tup [(.int 0), (.int 6)], .tup [(.int 0), (.bl true)], .lst [(.int 0), (.int 1)], .tup [(.int 0)], .tup [(.int 0), (.int 1), (.int 2)], .non])) fun xs33 => loopC (fun x34 S35 => (call 3 [x34, (.int 2), (.int 0), (.int 5)] S35 : Out PV).bind fun v36 S37 => .ok (some v36) S37) xs33.2 xs33.1 S32) | false => .stuck) | false => .stuck) | false => .stuck) | false => .stuck) | false => .stuck) | false => .stuck) | false => .stuck) : Out (List PV)).bind fun ys38 S39 => match decide (ys38.length ≤ LIM) with | true => (ob (binop .Add v31 (.lst ys38) S39) fun v40 => match decide (([] : List PV).length ≤ LIM) with | true => ((call 3 [.tup [], (.int 0), (.int 0), (.int 1)] S39 : Out PV).bind fun v41 S42 => match decide (([v41] : List PV).length ≤ LIM) with | true => (ob (binop .Add v40 (.lst [v41]) S42) fun v43 => .ok v43 S42) | false => .stuck) | false => .stuck) | false => .stuck : Out PV) fun v44 S45 => ofE [some v44, none, none, none, none, none, none] (match decide (([(.bl false), (.bl true), (.bl true), (.bl false), (.bl false), (.bl false), (.bl false), (.bl true)] : List PV).length ≤ LIM) with | true => (match decide (([(.bl false)] : List PV).length ≤ LIM) with | true => (ob (binop .Mult (.lst [(.bl false)]) (.int 6) S45) fun v46 => ob (binop .Add (.lst [(.bl false), (.bl true), (.bl true), (.bl false), (.bl false), (.bl false), (.bl false), (.bl true)]) v46 S45) fun v47 => match decide (([(.bl true)] : List PV).length ≤ LIM) with | true => (ob (binop .Add v47 (.lst [(.bl true)]) S45) fun v48 => (call 31 [v44, v48] S45 : Out PV).bind fun v49 S50 => ob (truth v49) fun v51 => .ok (.bl (!v51)) S50) | false => .stuck) | false => .stuck) | false => .stuck : Out PV) fun v52 S53 => match truth v52 with | some true => (.rt (.bl false) S53) | some false => (ofE [some v44, none, none, none, none, none, none] ((noExc (match decide (([] : List PV).length ≤ LIM) with | true => (match decide (([(.int 1)] : List PV).length ≤ LIM) with | true => (match decide (([(.int 1), (.int 2)] : List PV).length ≤ LIM) with | true => (match decide (([(.int 1), (.int 1)] : List PV).length ≤ LIM) with | true => (match decide (([(.int 2), (.int 1)] : List PV).length ≤ LIM) with | true => (match decide (([(.str "a"), (.str "b")] : List PV).length ≤ LIM) with | true => (match decide (([(.int 0), (.int 1)] : List PV).length ≤ LIM) with | true => (match decide (([(.int 1), (.int 0)] : List PV).length ≤ LIM) with | true => (match decide (([.tup [(.int 0), (.int 1)], .tup [(.int 1), (.int 0)]] : List PV).length ≤ LIM) with | true => (match decide (([(.int 1), (.int 3), (.int 2)] : List PV).length ≤ LIM) with | true => (match decide (([.tup [], .tup [(.int 1)], .tup [(.int 1), (.int 2)], .tup [(.int 1), (.int 1)], .tup [(.int 2), (.int 1)], .tup [(.str "a"), (.str "b")], .tup [.tup [(.int 0), (.int 1)], .tup [(.int 1), (.int 0)]], .tup [(.int 1), (.int 3), (.int 2)]] : List PV).length ≤ LIM) with | true => (ob (itOf S53 (.tup [.tup [], .tup [(.int 1)], .tup [(.int 1), (.int 2)], .tup [(.int 1), (.int 1)], .tup [(.int 2), (.int 1)], .tup [(.str "a"), (.str "b")], .tup [.tup [(.int 0), (.int 1)], .tup [(.int 1), (.int 0)]], .tup [(.int 1), (.int 3), (.int 2)]])) fun xs56 => loopC (fun x57 S58 => (call 4 [x57] S58 : Out PV).bind fun v59 S60 => .ok (some v59) S60) xs56.2 xs56.1 S53) | false => .stuck) | false => .stuck) | false => .stuck) | false => .stuck) | false => .stuck) | false => .stuck) | false => .stuck) | false => .stuck) | false => .stuck) | false => .stuck) | false => .stuck) : Out (List PV)).bind fun ys61 S62 => match decide (ys61.length ≤ LIM) with | true => (.ok (.lst ys61) S62) | false => .stuck : Out PV) fun v63 S64 => ofE [some v63, none, none, none, none, none, none] (match decide (([(.bl true), (.bl true), (.bl true), (.bl false), (.bl false), (.bl true), (.bl true), (.bl false)] : List PV).length ≤ LIM) with | true => ((call 31 [v63, .lst [(.bl true), (.bl true), (.bl true), (.bl false), (.bl false), (.bl true), (.bl true), (.bl false)]] S64 : Out PV).bind fun v65 S66 => ob (truth v65) fun v67 => .ok (.bl (!v67)) S66) | false => .stuck : Out PV) fun v68 S69 => match truth v68 with | some true => (.rt (.bl false) S69) | some false => (ofE [some v63, none, none, none, none, none, none] ((call 7 [(.int 2), (.int 10)] S69 : Out PV).bind fun v72 S73 => (call 7 [(.int 0), (.int 0)] S73 : Out PV).bind fun v74 S75 => ob (negOf (.int 3)) fun v76 => (call 7 [v76, (.int 3)] S75 : Out PV).bind fun v77 S78 => ob (binop .Pow (.int 10) (.int 50) S78) fun v79 => ob (binop .Pow (.int 10) (.int 50) S78) fun v80 => ob (binop .Mult v79 v80 S78) fun v81 => ob (binop .Sub (.int 1) v81 S78) fun v82 => (call 7 [v82, (.int 1)] S78 : Out PV).bind fun v83 S84 => (call 7 [(.int 7), (.int 600)] S84 : Out PV).bind fun v85 S86 => (call 35 [(.int 7), (.int 600)] S86 : Out PV).bind fun v87 S88 => ob (cmpop .Eq v85 v87 S88) fun b89 => match decide (([v72, v74, v77, v83, .bl b89] : List PV).length ≤ LIM) with | true => (.ok (.lst [v72, v74, v77, v83, .bl b89]) S88) | false => .stuck : Out PV) fun v90 S91 => ofE [some v90, none, none, none, none, none, none] (ob (negOf (.int 27)) fun v92 => ob (binop .Pow (.int 10) (.int 50) S91) fun v93 => ob (binop .Pow (.int 10) (.int 50) S91) fun v94 => ob (binop .Mult v93 v94 S91) fun v95 => ob (binop .Sub (.int 1) v95 S91) fun v96 => match decide (([(.int 1024), (.int 1), v92, v96, (.bl true)] : List PV).length ≤ LIM) with | true => ((call 31 [v90, .lst [(.int 1024), (.int 1), v92, v96, (.bl true)]] S91 : Out PV).bind fun v97 S98 => ob (truth v97) fun v99 => .ok (.bl (!v99)) S98) | false => .stuck : Out PV) fun v100 S101 => match truth v100 with | some true => (.rt (.bl false) S101) | some false => (ofE [some v90, none, none, none, none, none, none] (match decide (([(.int 1), (.bl true)] : List PV).length ≤ LIM) with | true => (match decide (([(.int 0), (.bl false)] : List PV).length ≤ LIM) with | true => (match decide (([] : List PV).length ≤ LIM) with | true => (match decide (([] : List PV).length ≤ LIM) with | true => (match decide (([.tup [], .lst []] : List PV).length ≤ LIM) with | true => (match decide (([(.bl true)] : List PV).length ≤ LIM) with | true => (match decide (([(.int 1), .tup [(.bl true)]] : List PV).length ≤ LIM) with | true => (match decide (([(.int 1)] : List PV).length ≤ LIM) with | true => (match decide (([(.int 1), .tup [(.int 1)]] : List PV).length ≤ LIM) with | true => (match decide (([.tup [(.int 1), .tup [(.bl true)]], .tup [(.int 1), .tup [(.int 1)]]] : List PV).length ≤ LIM) with | true => (match decide (([(.int 1), (.int 2)] : List PV).length ≤ LIM) with | true => (match decide (([(.int 1), (.int 2)] : List PV).length ≤ LIM) with | true => (match decide (([.lst [(.int 1), (.int 2)], .lst [(.int 1), (.int 2)]] : List PV).length ≤ LIM) with | true => (match decide (([(.int 1), (.int 2)] : List PV).length ≤ LIM) with | true => (match decide (([(.int 1), (.int 2), (.int 3)] : List PV).length ≤ LIM) with | true => (match decide (([.tup [(.int 1), (.int 2)], .tup [(.int 1), (.int 2), (.int 3)]] : List PV).length ≤ LIM) with | true => (match decide (([(.str "a"), (.str "a")] : List PV).length ≤ LIM) with | true => (match decide (([.non, (.int 0)] : List PV).length ≤ LIM) with | true => (match decide (([.non, (.str "b")] : List PV).length ≤ LIM) with | true => (match decide (([.non, (.str "b")] : List PV).length ≤ LIM) with | true => (match decide (([.tup [.non, (.str "b")], .tup [.non, (.str "b")]] : List PV).length ≤ LIM) with | true => (match decide (([.tup [(.int 1), (.bl true)], .tup [(.int 0), (.bl false)], .tup [.tup [], .lst []], .tup [.tup [(.int 1), .tup [(.bl true)]], .tup [(.int 1), .tup [(.int 1)]]], .tup [.lst [(.int 1), (.int 2)], .lst [(.int 1), (.int 2)]], .tup [.tup [(.int 1), (.int 2)], .tup [(.int 1), (.int 2), (.int 3)]], .tup [(.str "a"), (.str "a")], .tup [.non, (.int 0)], .tup [.tup [.non, (.str "b")], .tup [.non, (.str "b")]]] : List PV).length ≤ LIM) with | true => (.ok (.lst [.tup [(.int 1), (.bl true)], .tup [(.int 0), (.bl false)], .tup [.tup [], .lst []], .tup [.tup [(.int 1), .tup [(.bl true)]], .tup [(.int 1), .tup [(.int 1)]]], .tup [.lst [(.int 1), (.int 2)], .lst [(.int 1), (.int 2)]], .tup [.tup [(.int 1), (.int 2)], .tup [(.int 1), (.int 2), (.int 3)]], .tup [(.str "a"), (.str "a")], .tup [.non, (.int 0)], .tup [.tup [.non, (.str "b")], .tup [.non, (.str "b")]]]) S101) | false => .stuck) | false => .stuck) | false => .stuck) | false => .stuck) | false => .stuck) | false => .stuck) | false => .stuck) | false => .stuck) | false => .stuck) | false => .stuck) | false => .stuck) | false => .stuck) | false => .stuck) | false => .stuck) | false => .stuck) | false => .stuck) | false => .stuck) | false => .stuck) | false => .stuck) | false => .stuck) | false => .stuck) | false => .stuck : Out PV) fun v104 S105 => ofE [some v90, some v104, none, none, none, none, none] (match decide (([(.int 2)] : List PV).length ≤ LIM) with | true => (match decide (([(.int 1), .lst [(.int 2)]] : List PV).length ≤ LIM) with | true => (match decide (([(.int 2)] : List PV).length ≤ LIM) with | true => (match decide (([(.int 1), .tup [(.int 2)]] : List PV).length ≤ LIM) with | true => (match decide (([.tup [(.int 1), .lst [(.int 2)]], .tup [(.int 1), .tup [(.int 2)]]] : List PV).length ≤ LIM) with | true => (match decide (([(.int 1)] : List PV).length ≤ LIM) with | true => (match decide (([.tup [(.int 1)]] : List PV).length ≤ LIM) with | true => (match decide (([(.int 1)] : List PV).length ≤ LIM) with | true => (match decide (([.lst [(.int 1)]] : List PV).length ≤ LIM) with | true => (match decide (([.lst [.tup [(.int 1)]], .lst [.lst [(.int 1)]]] : List PV).length ≤ LIM) with | true => (match decide (([(.int 3)] : List PV).length ≤ LIM) with | true => (match decide (([(.int 2), .tup [(.int 3)]] : List PV).length ≤ LIM) with | true => (match decide (([(.int 1), .lst [(.int 2), .tup [(.int 3)]]] : List PV).length ≤ LIM) with | true => (match decide (([(.int 3)] : List PV).length ≤ LIM) with | true => (match decide (([(.int 2), .tup [(.int 3)]] : List PV).length ≤ LIM) with | true => (match decide (([(.int 1), .lst [(.int 2), .tup [(.int 3)]]] : List PV).length ≤ LIM) with | true => (match decide (([.tup [(.int 1), .lst [(.int 2), .tup [(.int 3)]]], .tup [(.int 1), .lst [(.int 2), .tup [(.int 3)]]]] : List PV).length ≤ LIM) with | true => (match decide (([.tup [.tup [(.int 1), .lst [(.int 2)]], .tup [(.int 1), .tup [(.int 2)]]], .tup [.lst [.tup [(.int 1)]], .lst [.lst [(.int 1)]]], .tup [.tup [(.int 1), .lst [(.int 2), .tup [(.int 3)]]], .tup [(.int 1), .lst [(.int 2), .tup [(.int 3)]]]]] : List PV).length ≤ LIM) with | true => (ob (binop .Add v104 (.lst [.tup [.tup [(.int 1), .lst [(.int 2)]], .tup [(.int 1), .tup [(.int 2)]]], .tup [.lst [.tup [(.int 1)]], .lst [.lst [(.int 1)]]], .tup [.tup [(.int 1), .lst [(.int 2), .tup [(.int 3)]]], .tup [(.int 1), .lst [(.int 2), .tup [(.int 3)]]]]]) S105) fun v106 => .ok v106 S105) | false => .stuck) | false => .stuck) | false => .stuck) | false => .stuck) | false => .stuck) | false => .stuck) | false => .stuck) | false => .stuck) | false => .stuck) | false => .stuck) | false => .stuck) | false => .stuck) | false => .stuck) | false => .stuck) | false => .stuck) | false => .stuck) | false => .stuck) | false => .stuck : Out PV) fun v107 S108 => ofE [some v90, some v107, none, none, none, none, none] (match decide (([(.bl false), (.bl false), (.bl false), (.bl false), (.bl true), (.bl false), (.bl true), (.bl false), (.bl true), (.bl false), (.bl false), (.bl true)] : List PV).length ≤ LIM) with | true => (.ok (.lst [(.bl false), (.bl false), (.bl false), (.bl false), (.bl true), (.bl false), (.bl true), (.bl false), (.bl true), (.bl false), (.bl false), (.bl true)]) S108) | false => .stuck : Out PV) fun v109 S110 => ofE [some v90, some v107, some v109, none, none, none, none] ((noExc (ob (itOf S110 v107) fun xs111 => loopC (fun x112 S113 => match (x112 : PV) with | .tup xs114 => (match decide (xs114.length = 2) with | true => (match xs114 with | x115 :: xs116 => (match xs116 with | x117 :: xs118 => (match xs118 with | [] => ((call 6 [x115, x117] S113 : Out PV).bind fun v119 S120 => .ok (some v119) S120) | _ => .stuck) | _ => .stuck) | _ => .stuck) | false => .stuck) | _ => .stuck) xs111.2 xs111.1 S110) : Out (List PV)).bind fun ys121 S122 => match decide (ys121.length ≤ LIM) with | true => ((call 31 [.lst ys121, v109] S122 : Out PV).bind fun v123 S124 => .ok v123 S124) | false => .stuck : Out PV) fun v125 S126 => .rt v125 S126) | none => .stuck) | none => .stuck) | none => .stuck) | none => .stuck)
  | _ => .stuck
theorem q37 (call : Nat → List PV → Store → Out PV) (vs : List PV) (S : Store) : bodyF G.gls call t37 vs S = s37 call vs S := by
  match vs with
  | [] => kernel_rfl
  | _ :: _ => kernel_rfl
def s38 (call : Nat → List PV → Store → Out PV) (vs : List PV) (S : Store) : Out PV := match vs with
  | [] => endF false S (ofE [none, none, none] ((noExc (ob (negOf (.int 2)) fun v1 => match decide (([(.int 2)] : List PV).length ≤ LIM) with | true => (match decide (([(.int 2), (.int 3), (.int 5), (.int 7), (.int 1), (.int 4), (.int 9), (.int 11), (.int 0), v1, (.bl true), (.str "2"), .non, .tup [(.int 2)]] : List PV).length ≤ LIM) with | true => (ob (itOf S (.tup [(.int 2), (.int 3), (.int 5), (.int 7), (.int 1), (.int 4), (.int 9), (.int 11), (.int 0), v1, (.bl true), (.str "2"), .non, .tup [(.int 2)]])) fun xs2 => loopC (fun x3 S4 => (call 8 [x3] S4 : Out PV).bind fun v5 S6 => .ok (some v5) S6) xs2.2 xs2.1 S) | false => .stuck) | false => .stuck) : Out (List PV)).bind fun ys7 S8 => match decide (ys7.length ≤ LIM) with | true => (.ok (.lst ys7) S8) | false => .stuck : Out PV) fun v9 S10 => ofE [some v9, none, none] (match decide (([(.bl true)] : List PV).length ≤ LIM) with | true => (ob (binop .Mult (.lst [(.bl true)]) (.int 4) S10) fun v11 => match decide (([(.bl false)] : List PV).length ≤ LIM) with | true => (ob (binop .Mult (.lst [(.bl false)]) (.int 10) S10) fun v12 => ob (binop .Add v11 v12 S10) fun v13 => (call 31 [v9, v13] S10 : Out PV).bind fun v14 S15 => ob (truth v14) fun v16 => .ok (.bl (!v16)) S15) | false => .stuck) | false => .stuck : Out PV) fun v17 S18 => match truth v17 with | some true => (.rt (.bl false) S18) | some false => (ofE [some v9, none, none] (ob (negOf (.int 1)) fun v21 => (call 12 [(.int 5), v21] S18 : Out PV).bind fun v22 S23 => (call 12 [(.int 7), (.int 14)] S23 : Out PV).bind fun v24 S25 => ob (binop .Pow (.int 10) (.int 60) S25) fun v26 => (call 12 [(.int 2), v26] S25 : Out PV).bind fun v27 S28 => ob (binop .Pow (.int 10) (.int 60) S28) fun v29 => ob (negOf v29) fun v30 => (call 12 [(.int 3), v30] S28 : Out PV).bind fun v31 S32 => ob (binop .Pow (.int 10) (.int 60) S32) fun v33 => (call 12 [(.int 7), v33] S32 : Out PV).bind fun v34 S35 => ob (negOf (.int 3)) fun v36 => (call 12 [(.int 2), v36] S35 : Out PV).bind fun v37 S38 => match decide (([v22, v24, v27, v31, v34, v37] : List PV).length ≤ LIM) with | true => (.ok (.lst [v22, v24, v27, v31, v34, v37]) S38) | false => .stuck : Out PV) fun v39 S40 => ofE [some v39, none, none] ((call 14 [(.int 7), (.int 3)] S40 : Out PV).bind fun v41 S42 => (call 14 [(.int 7), (.int 6)] S42 : Out PV).bind fun v43 S44 => (call 14 [(.int 5), (.int 2)] S44 : Out PV).bind fun v45 S46 => (call 14 [(.int 5), (.int 4)] S46 : Out PV).bind fun v47 S48 => (call 14 [(.int 3), (.int 2)] S48 : Out PV).bind fun v49 S50 => (call 14 [(.int 2), (.int 1)] S50 : Out PV).bind fun v51 S52 => match decide (([v41, v43, v45, v47, v49, v51] : List PV).length ≤ LIM) with | true => (ob (binop .Add v39 (.lst [v41, v43, v45, v47, v49, v51]) S52) fun v53 => .ok v53 S52) | false => .stuck : Out PV) fun v54 S55 => ofE [some v54, none, none] (match decide (([(.int 4), (.int 0), (.int 0), (.int 2), (.int 1), (.int 1), (.int 5), (.int 6), (.int 3), (.int 4), (.int 2), (.int 1)] : List PV).length ≤ LIM) with | true => ((call 31 [v54, .lst [(.int 4), (.int 0), (.int 0), (.int 2), (.int 1), (.int 1), (.int 5), (.int 6), (.int 3), (.int 4), (.int 2), (.int 1)]] S55 : Out PV).bind fun v56 S57 => ob (truth v56) fun v58 => .ok (.bl (!v58)) S57) | false => .stuck : Out PV) fun v59 S60 => match truth v59 with | some true => (.rt (.bl false) S60) | some false => (ofE [some v54, none, none] (match decide (([(.int 1), (.int 2)] : List PV).length ≤ LIM) with | true => (match decide (([(.int 2), (.int 2)] : List PV).length ≤ LIM) with | true => ((call 21 [(.int 3), .tup [(.int 1), (.int 2)], .tup [(.int 2), (.int 2)]] S60 : Out PV).bind fun v63 S64 => match decide (([] : List PV).length ≤ LIM) with | true => (match decide (([] : List PV).length ≤ LIM) with | true => ((call 21 [(.int 7), .tup [], .tup []] S64 : Out PV).bind fun v65 S66 => match decide (([(.int 1), (.int 4)] : List PV).length ≤ LIM) with | true => ((call 22 [(.int 5), (.int 3), .tup [(.int 1), (.int 4)]] S66 : Out PV).bind fun v67 S68 => match decide (([(.int 1), (.int 4)] : List PV).length ≤ LIM) with | true => ((call 22 [(.int 5), (.int 0), .tup [(.int 1), (.int 4)]] S68 : Out PV).bind fun v69 S70 => match decide (([] : List PV).length ≤ LIM) with | true => ((call 22 [(.int 2), (.int 1), .tup []] S70 : Out PV).bind fun v71 S72 => match decide (([v63, v65, v67, v69, v71] : List PV).length ≤ LIM) with | true => (.ok (.lst [v63, v65, v67, v69, v71]) S72) | false => .stuck) | false => .stuck) | false => .stuck) | false => .stuck) | false => .stuck) | false => .stuck) | false => .stuck) | false => .stuck : Out PV) fun v73 S74 => ofE [some v73, none, none] (match decide (([(.int 0), (.int 1)] : List PV).length ≤ LIM) with | true => (match decide (([] : List PV).length ≤ LIM) with | true => (match decide (([(.int 3), (.int 2)] : List PV).length ≤ LIM) with | true => (match decide (([(.int 0), (.int 0)] : List PV).length ≤ LIM) with | true => (match decide (([] : List PV).length ≤ LIM) with | true => (match decide (([.tup [(.int 0), (.int 1)], .tup [], .tup [(.int 3), (.int 2)], .tup [(.int 0), (.int 0)], .tup []] : List PV).length ≤ LIM) with | true => ((call 31 [v73, .lst [.tup [(.int 0), (.int 1)], .tup [], .tup [(.int 3), (.int 2)], .tup [(.int 0), (.int 0)], .tup []]] S74 : Out PV).bind fun v75 S76 => ob (truth v75) fun v77 => .ok (.bl (!v77)) S76) | false => .stuck) | false => .stuck) | false => .stuck) | false => .stuck) | false => .stuck) | false => .stuck : Out PV) fun v78 S79 => match truth v78 with | some true => (.rt (.bl false) S79) | some false => (ofE [some v73, none, none] (match decide (([(.int 0), (.int 3), (.int 1)] : List PV).length ≤ LIM) with | true => ((call 24 [(.int 5), .tup [(.int 0), (.int 3), (.int 1)]] S79 : Out PV).bind fun v82 S83 => match decide (([(.int 0), (.int 0)] : List PV).length ≤ LIM) with | true => ((call 24 [(.int 5), .tup [(.int 0), (.int 0)]] S83 : Out PV).bind fun v84 S85 => match decide (([] : List PV).length ≤ LIM) with | true => ((call 24 [(.int 2), .tup []] S85 : Out PV).bind fun v86 S87 => match decide (([(.int 6)] : List PV).length ≤ LIM) with | true => ((call 24 [(.int 7), .tup [(.int 6)]] S87 : Out PV).bind fun v88 S89 => match decide (([(.int 0), (.int 0), (.int 0), (.int 0), (.int 0), (.int 0), (.int 0), (.int 1)] : List PV).length ≤ LIM) with | true => ((call 24 [(.int 2), .tup [(.int 0), (.int 0), (.int 0), (.int 0), (.int 0), (.int 0), (.int 0), (.int 1)]] S89 : Out PV).bind fun v90 S91 => match decide (([v82, v84, v86, v88, v90] : List PV).length ≤ LIM) with | true => (.ok (.lst [v82, v84, v86, v88, v90]) S91) | false => .stuck) | false => .stuck) | false => .stuck) | false => .stuck) | false => .stuck) | false => .stuck : Out PV) fun v92 S93 => ofE [some v92, none, none] ((call 26 [(.int 2), (.int 2)] S93 : Out PV).bind fun v94 S95 => (call 26 [(.int 7), (.int 0)] S95 : Out PV).bind fun v96 S97 => (call 26 [(.int 3), (.int 1)] S97 : Out PV).bind fun v98 S99 => match decide (([v94, v96, v98] : List PV).length ≤ LIM) with | true => (ob (binop .Add v92 (.lst [v94, v96, v98]) S99) fun v100 => .ok v100 S99) | false => .stuck : Out PV) fun v101 S102 => ofE [some v101, none, none] (match decide (([(.int 0), (.int 0)] : List PV).length ≤ LIM) with | true => (match decide (([(.int 0), (.int 1)] : List PV).length ≤ LIM) with | true => (match decide (([(.int 1), (.int 0)] : List PV).length ≤ LIM) with | true => (match decide (([(.int 1), (.int 1)] : List PV).length ≤ LIM) with | true => (match decide (([.tup [(.int 0), (.int 0)], .tup [(.int 0), (.int 1)], .tup [(.int 1), (.int 0)], .tup [(.int 1), (.int 1)]] : List PV).length ≤ LIM) with | true => (match decide (([] : List PV).length ≤ LIM) with | true => (match decide (([.tup []] : List PV).length ≤ LIM) with | true => (match decide (([(.int 0)] : List PV).length ≤ LIM) with | true => (match decide (([(.int 1)] : List PV).length ≤ LIM) with | true => (match decide (([(.int 2)] : List PV).length ≤ LIM) with | true => (match decide (([.tup [(.int 0)], .tup [(.int 1)], .tup [(.int 2)]] : List PV).length ≤ LIM) with | true => (match decide (([(.int 1), .non, .non, (.int 0), (.int 7), .tup [.tup [(.int 0), (.int 0)], .tup [(.int 0), (.int 1)], .tup [(.int 1), (.int 0)], .tup [(.int 1), (.int 1)]], .tup [.tup []], .tup [.tup [(.int 0)], .tup [(.int 1)], .tup [(.int 2)]]] : List PV).length ≤ LIM) with | true => ((call 31 [v101, .lst [(.int 1), .non, .non, (.int 0), (.int 7), .tup [.tup [(.int 0), (.int 0)], .tup [(.int 0), (.int 1)], .tup [(.int 1), (.int 0)], .tup [(.int 1), (.int 1)]], .tup [.tup []], .tup [.tup [(.int 0)], .tup [(.int 1)], .tup [(.int 2)]]]] S102 : Out PV).bind fun v103 S104 => ob (truth v103) fun v105 => .ok (.bl (!v105)) S104) | false => .stuck) | false => .stuck) | false => .stuck) | false => .stuck) | false => .stuck) | false => .stuck) | false => .stuck) | false => .stuck) | false => .stuck) | false => .stuck) | false => .stuck) | false => .stuck : Out PV) fun v106 S107 => match truth v106 with | some true => (.rt (.bl false) S107) | some false => (ofE [some v101, none, none] (match decide (([(.int 0), (.int 2)] : List PV).length ≤ LIM) with | true => (match decide (([(.int 0), (.int 3)] : List PV).length ≤ LIM) with | true => (match decide (([(.int 0), (.int 2)] : List PV).length ≤ LIM) with | true => (match decide (([(.int 0), (.bl true)] : List PV).length ≤ LIM) with | true => (match decide (([(.int 0)] : List PV).length ≤ LIM) with | true => (match decide (([(.int 0), (.int 1), (.int 2)] : List PV).length ≤ LIM) with | true => (ob (negOf (.int 1)) fun v110 => match decide (([(.int 0), v110] : List PV).length ≤ LIM) with | true => (match decide (([(.int 0), .non] : List PV).length ≤ LIM) with | true => (match decide (([.tup [(.int 0), (.int 2)], .tup [(.int 0), (.int 3)], .lst [(.int 0), (.int 2)], .tup [(.int 0), (.bl true)], .tup [(.int 0)], .tup [(.int 0), (.int 1), (.int 2)], .tup [(.int 0), v110], .non, (.str "01"), .tup [(.int 0), .non], (.int 5)] : List PV).length ≤ LIM) with | true => (.ok (.lst [.tup [(.int 0), (.int 2)], .tup [(.int 0), (.int 3)], .lst [(.int 0), (.int 2)], .tup [(.int 0), (.bl true)], .tup [(.int 0)], .tup [(.int 0), (.int 1), (.int 2)], .tup [(.int 0), v110], .non, (.str "01"), .tup [(.int 0), .non], (.int 5)]) S107) | false => .stuck) | false => .stuck) | false => .stuck) | false => .stuck) | false => .stuck) | false => .stuck) | false => .stuck) | false => .stuck) | false => .stuck : Out PV) fun v111 S112 => ofE [some v101, some v111, none] ((noExc (ob (itOf S112 v111) fun xs113 => loopC (fun x114 S115 => (call 15 [(.int 3), (.int 2), x114] S115 : Out PV).bind fun v116 S117 => .ok (some v116) S117) xs113.2 xs113.1 S112) : Out (List PV)).bind fun ys118 S119 => match decide (ys118.length ≤ LIM) with | true => (match decide (([] : List PV).length ≤ LIM) with | true => ((call 15 [(.int 2), (.int 0), .tup []] S119 : Out PV).bind fun v120 S121 => match decide (([(.int 6)] : List PV).length ≤ LIM) with | true => (ob (binop .Mult (.tup [(.int 6)]) (.int 8) S121) fun v122 => (call 15 [(.int 7), (.int 8), v122] S121 : Out PV).bind fun v123 S124 => match decide (([(.int 6)] : List PV).length ≤ LIM) with | true => (ob (binop .Mult (.tup [(.int 6)]) (.int 9) S124) fun v125 => (call 15 [(.int 7), (.int 8), v125] S124 : Out PV).bind fun v126 S127 => match decide (([v120, v123, v126] : List PV).length ≤ LIM) with | true => (ob (binop .Add (.lst ys118) (.lst [v120, v123, v126]) S127) fun v128 => .ok v128 S127) | false => .stuck) | false => .stuck) | false => .stuck) | false => .stuck) | false => .stuck : Out PV) fun v129 S130 => ofE [some v129, some v111, none] (match decide (([(.bl true)] : List PV).length ≤ LIM) with | true => (match decide (([(.bl false)] : List PV).length ≤ LIM) with | true => (ob (binop .Mult (.lst [(.bl false)]) (.int 10) S130) fun v131 => ob (binop .Add (.lst [(.bl true)]) v131 S130) fun v132 => match decide (([(.bl true), (.bl true), (.bl false)] : List PV).length ≤ LIM) with | true => (ob (binop .Add v132 (.lst [(.bl true), (.bl true), (.bl false)]) S130) fun v133 => (call 31 [v129, v133] S130 : Out PV).bind fun v134 S135 => .ok v134 S135) | false => .stuck) | false => .stuck) | false => .stuck : Out PV) fun v136 S137 => .rt v136 S137) | none => .stuck) | none => .stuck) | none => .stuck) | none => .stuck)
  | _ => .stuck
theorem q38 (call : Nat → List PV → Store → Out PV) (vs : List PV) (S : Store) : bodyF G.gls call t38 vs S = s38 call vs S := by
  match vs with
  | [] => kernel_rfl
  | _ :: _ => kernel_rfl
def s39 (call : Nat → List PV → Store → Out PV) (vs : List PV) (S : Store) : Out PV := match vs with
  | [p0, p1] => endF false S (ofE [some p0, some p1, none, none, none, none, none, none, none, none, none, none, none, none, none, none] ((call 28 [p0, (.int 9)] S : Out PV).bind fun v1 S2 => (call 28 [p0, p1] S2 : Out PV).bind fun v3 S4 => match decide (([v1, v3] : List PV).length ≤ LIM) with | true => (.ok (.tup [v1, v3]) S4) | false => .stuck : Out PV) fun v5 S6 => ofE [some p0, some p1, none, none, none, none, none, none, none, none, none, none, none, none, none, none] (match (v5 : PV) with | .tup xs7 => (match decide (xs7.length = 2) with | true => (match xs7 with | x8 :: xs9 => (match xs9 with | x10 :: xs11 => (match xs11 with | [] => (.ok [some p0, some p1, none, none, none, some x8, some x10, none, none, none, none, none, none, none, none, none] S6) | _ => .stuck) | _ => .stuck) | _ => .stuck) | false => .stuck) | _ => .stuck : Out Zv.Env) fun e12 S13 => ofE e12 (ob (look e12 0) fun v14 => ob (look e12 1) fun v15 => ob (look e12 5) fun v16 => (call 32 [v14, v15, v16] S13 : Out PV).bind fun v17 S18 => ob (look e12 0) fun v19 => ob (look e12 1) fun v20 => ob (look e12 5) fun v21 => (call 32 [v19, v20, v21] S18 : Out PV).bind fun v22 S23 => .ok [v17, v22] S23 : Out (List PV)) fun vs24 S25 => ofE e12 (match vs24 with | x26 :: xs27 => (match xs27 with | x28 :: xs29 => (match xs29 with | [] => .ok (List.set (List.set e12 7 (some x26)) 8 (some x28)) S25 | _ => .stuck) | _ => .stuck) | _ => .stuck : Out Zv.Env) fun e30 S31 => ofE e30 ((noExc (ob (look e30 7) fun v32 => ob (look e30 8) fun v33 => ob (itOf S31 v32) fun xs34 => ob (itOf S31 v33) fun ys35 => loopC (fun x36 S37 => match (x36 : PV) with | .tup xs38 => (match decide (xs38.length = 2) with | true => (match xs38 with | x39 :: xs40 => (match xs40 with | x41 :: xs42 => (match xs42 with | [] => (ob (look (List.set (List.set (wipeE e30 [14, 15]) 14 (some x39)) 15 (some x41)) 14) fun v43 => ob (look (List.set (List.set (wipeE e30 [14, 15]) 14 (some x39)) 15 (some x41)) 15) fun v44 => ob (binop .Add v43 v44 S37) fun v45 => ob (bfun .int [v45] S37) fun v46 => ob (look (List.set (List.set (wipeE e30 [14, 15]) 14 (some x39)) 15 (some x41)) 1) fun v47 => ob (binop .Mod v46 v47 S37) fun v48 => .ok (some v48) S37) | _ => .stuck) | _ => .stuck) | _ => .stuck) | false => .stuck) | _ => .stuck) (zipL xs34.1 ys35.1, xs34.2 ++ ys35.2).2 (zipL xs34.1 ys35.1, xs34.2 ++ ys35.2).1 S31) : Out (List PV)).bind fun ys49 S50 => match decide (ys49.length ≤ LIM) with | true => (ob (bfun .tuple [.lst ys49] S50) fun v51 => (noExc (ob (look e30 7) fun v52 => ob (itOf S50 v52) fun xs53 => loopC (fun x54 S55 => ob (look (List.set (wipeE e30 [14]) 14 (some x54)) 6) fun v56 => ob (look (List.set (wipeE e30 [14]) 14 (some x54)) 14) fun v57 => ob (binop .Mult v56 v57 S55) fun v58 => ob (bfun .int [v58] S55) fun v59 => ob (look (List.set (wipeE e30 [14]) 14 (some x54)) 1) fun v60 => ob (binop .Mod v59 v60 S55) fun v61 => .ok (some v61) S55) xs53.2 xs53.1 S50) : Out (List PV)).bind fun ys62 S63 => match decide (ys62.length ≤ LIM) with | true => (ob (bfun .tuple [.lst ys62] S63) fun v64 => match decide (([v51, v64] : List PV).length ≤ LIM) with | true => (.ok (.lst [v51, v64]) S63) | false => .stuck) | false => .stuck) | false => .stuck : Out PV) fun v65 S66 => ofE e30 (.ok (List.set e30 2 (some v65)) S66 : Out Zv.Env) fun e67 S68 => ofE e67 (ob (look e67 1) fun v69 => ob (look e67 7) fun v70 => ob (look e67 8) fun v71 => (call 21 [v69, v70, v71] S68 : Out PV).bind fun v72 S73 => ob (look e67 1) fun v74 => ob (look e67 6) fun v75 => ob (look e67 7) fun v76 => (call 22 [v74, v75, v76] S73 : Out PV).bind fun v77 S78 => ob (look e67 1) fun v79 => ob (look e67 7) fun v80 => (call 24 [v79, v80] S78 : Out PV).bind fun v81 S82 => ob (look e67 1) fun v83 => ob (look e67 5) fun v84 => ob (look e67 7) fun v85 => (call 15 [v83, v84, v85] S82 : Out PV).bind fun v86 S87 => match decide (([v72, v77, v81, v86] : List PV).length ≤ LIM) with | true => (ob (look e67 2) fun v88 => ob (look e67 7) fun v89 => (call 36 [v89] S87 : Out PV).bind fun v90 S91 => match decide (([v90, (.bl true)] : List PV).length ≤ LIM) with | true => (ob (binop .Add v88 (.lst [v90, (.bl true)]) S91) fun v92 => (call 31 [.lst [v72, v77, v81, v86], v92] S91 : Out PV).bind fun v93 S94 => ob (truth v93) fun v95 => .ok (.bl (!v95)) S94) | false => .stuck) | false => .stuck : Out PV) fun v96 S97 => match truth v96 with | some true => (.rt (.bl false) S97) | some false => (ofE e67 (ob (look e67 0) fun v100 => ob (look e67 1) fun v101 => ob (binop .Sub v101 (.int 1) S97) fun v102 => (call 28 [v100, v102] S97 : Out PV).bind fun v103 S104 => ob (binop .Add (.int 1) v103 S104) fun v105 => .ok v105 S104 : Out PV) fun v106 S107 => ofE e67 (.ok (List.set e67 3 (some v106)) S107 : Out Zv.Env) fun e108 S109 => ofE e108 (ob (look e108 1) fun v110 => ob (look e108 3) fun v111 => (call 14 [v110, v111] S109 : Out PV).bind fun v112 S113 => ob (look e108 0) fun v114 => ob (binop .Pow (.int 10) (.int 9) S113) fun v115 => (call 28 [v114, v115] S113 : Out PV).bind fun v116 S117 => ob (binop .Pow (.int 10) (.int 8) S117) fun v118 => ob (binop .Mult (.int 5) v118 S117) fun v119 => ob (binop .Sub v116 v119 S117) fun v120 => ob (look e108 0) fun v121 => (call 28 [v121, (.int 51)] S117 : Out PV).bind fun v122 S123 => (call 35 [(.int 10), v122] S123 : Out PV).bind fun v124 S125 => ob (binop .Mult v120 v124 S125) fun v126 => ob (look e108 0) fun v127 => (call 28 [v127, (.int 1000)] S125 : Out PV).bind fun v128 S129 => ob (binop .Add v126 v128 S129) fun v130 => .ok [v112, v130] S129 : Out (List PV)) fun vs131 S132 => ofE e108 (match vs131 with | x133 :: xs134 => (match xs134 with | x135 :: xs136 => (match xs136 with | [] => .ok (List.set (List.set e108 9 (some x133)) 10 (some x135)) S132 | _ => .stuck) | _ => .stuck) | _ => .stuck : Out Zv.Env) fun e137 S138 => ofE e137 ((ob (look e137 9) fun v139 => (call 30 [v139] S138 : Out PV).bind fun v140 S141 => ob (cmpop .NotEq v140 (.int 2) S141) fun b142 => match (b142 : Bool) with | true => (.ok (.bl b142) S141) | false => (((ob (look e137 9) fun v143 => match cmpop .Lt (.int 0) v143 S141 with | some true => (ob (look e137 1) fun v144 => ob (cmpop .Lt v143 v144 S141) fun b145 => .ok (.bl b145) S141) | some false => .ok (.bl false) S141 | none => .stuck : Out PV).bind fun v146 S147 => ob (truth v146) fun v148 => match (!v148 : Bool) with | true => (.ok (.bl (!v148)) S147) | false => ((ob (look e137 9) fun v149 => ob (look e137 3) fun v150 => ob (binop .Mult v149 v150 S147) fun v151 => ob (bfun .int [v151] S147) fun v152 => ob (look e137 1) fun v153 => ob (binop .Mod v152 v153 S147) fun v154 => ob (cmpop .NotEq v154 (.int 1) S147) fun b155 => match (b155 : Bool) with | true => (.ok (.bl b155) S147) | false => (ob (look e137 1) fun v156 => ob (look e137 10) fun v157 => (call 12 [v156, v157] S147 : Out PV).bind fun v158 S159 => ob (look e137 10) fun v160 => ob (bfun .int [v160] S159) fun v161 => ob (look e137 1) fun v162 => ob (binop .Mod v161 v162 S159) fun v163 => (call 31 [v158, v163] S159 : Out PV).bind fun v164 S165 => ob (truth v164) fun v166 => .ok (.bl (!v166)) S165) : Out PV).bind fun v167 S168 => .ok v167 S168) : Out PV).bind fun v169 S170 => .ok v169 S170) : Out PV).bind fun v171 S172 => .ok v171 S172 : Out PV) fun v173 S174 => match truth v173 with | some true => (.rt (.bl false) S174) | some false => (ofE e137 (ob (look e137 0) fun v177 => ob (look e137 5) fun v178 => ob (binop .Add v178 (.int 1) S174) fun v179 => (call 28 [v177, v179] S174 : Out PV).bind fun v180 S181 => ob (look e137 0) fun v182 => ob (look e137 1) fun v183 => ob (negOf (.int 1)) fun v184 => match decide (([(.int 0)] : List PV).length ≤ LIM) with | true => (ob (look e137 1) fun v185 => ob (binop .Sub v185 (.int 1) S181) fun v186 => match decide (([.non, (.bl true), v183, v184, (.str "0"), .tup [(.int 0)], v186] : List PV).length ≤ LIM) with | true => ((call 29 [v182, .lst [.non, (.bl true), v183, v184, (.str "0"), .tup [(.int 0)], v186]] S181 : Out PV).bind fun v187 S188 => .ok [v180, v187] S188) | false => .stuck) | false => .stuck : Out (List PV)) fun vs189 S190 => ofE e137 (match vs189 with | x191 :: xs192 => (match xs192 with | x193 :: xs194 => (match xs194 with | [] => .ok (List.set (List.set e137 11 (some x191)) 12 (some x193)) S190 | _ => .stuck) | _ => .stuck) | _ => .stuck : Out Zv.Env) fun e195 S196 => ofE e195 (ob (look e195 7) fun v197 => ob (look e195 11) fun v198 => ob (intOf v198) fun i199 => ob (slOf S196 v197 none (some i199)) fun v200 => ob (look e195 12) fun v201 => match decide (([v201] : List PV).length ≤ LIM) with | true => (ob (binop .Add v200 (.tup [v201]) S196) fun v202 => ob (look e195 7) fun v203 => ob (look e195 11) fun v204 => ob (intOf v204) fun i205 => ob (slOf S196 v203 (some i205) none) fun v206 => ob (binop .Add v202 v206 S196) fun v207 => ob (look e195 7) fun v208 => ob (look e195 11) fun v209 => ob (intOf v209) fun i210 => ob (slOf S196 v208 none (some i210)) fun v211 => ob (look e195 12) fun v212 => match decide (([v212] : List PV).length ≤ LIM) with | true => (ob (binop .Add v211 (.tup [v212]) S196) fun v213 => ob (look e195 7) fun v214 => ob (look e195 11) fun v215 => ob (binop .Add v215 (.int 1) S196) fun v216 => ob (intOf v216) fun i217 => ob (slOf S196 v214 (some i217) none) fun v218 => ob (binop .Add v213 v218 S196) fun v219 => ob (look e195 7) fun v220 => ob (bfun .list [v220] S196) fun v221 => ob (look e195 7) fun v222 => ob (look e195 7) fun v223 => ob (binop .Add v222 v223 S196) fun v224 => match decide (([v207, v219, v221, v224] : List PV).length ≤ LIM) with | true => (.ok (.lst [v207, v219, v221, v224]) S196) | false => .stuck) | false => .stuck) | false => .stuck : Out PV) fun v225 S226 => ofE e195 (.ok (List.set e195 4 (some v225)) S226 : Out Zv.Env) fun e227 S228 => ofE e227 ((noExc (ob (look e227 4) fun v229 => ob (itOf S228 v229) fun xs230 => loopC (fun x231 S232 => (ob (look (List.set (wipeE e227 [13]) 13 (some x231)) 13) fun v233 => (call 30 [v233] S232 : Out PV).bind fun v234 S235 => ob (cmpop .Eq v234 (.int 4) S235) fun b236 => match (b236 : Bool) with | true => ((ob (look (List.set (wipeE e227 [13]) 13 (some x231)) 13) fun v237 => ob (bfun .len [v237] S235) fun v238 => ob (look (List.set (wipeE e227 [13]) 13 (some x231)) 5) fun v239 => ob (cmpop .Eq v238 v239 S235) fun b240 => match (b240 : Bool) with | true => ((noExc (ob (look (List.set (wipeE e227 [13]) 13 (some x231)) 13) fun v241 => ob (itOf S235 v241) fun xs242 => loopC (fun x243 S244 => (ob (look (List.set (wipeE (List.set (wipeE e227 [13]) 13 (some x231)) [3]) 3 (some x243)) 3) fun v245 => (call 30 [v245] S244 : Out PV).bind fun v246 S247 => ob (cmpop .NotEq v246 (.int 2) S247) fun b248 => match (b248 : Bool) with | true => (.ok (.bl b248) S247) | false => ((ob (look (List.set (wipeE (List.set (wipeE e227 [13]) 13 (some x231)) [3]) 3 (some x243)) 3) fun v249 => match cmpop .LtE (.int 0) v249 S247 with | some true => (ob (look (List.set (wipeE (List.set (wipeE e227 [13]) 13 (some x231)) [3]) 3 (some x243)) 1) fun v250 => ob (cmpop .Lt v249 v250 S247) fun b251 => .ok (.bl b251) S247) | some false => .ok (.bl false) S247 | none => .stuck : Out PV).bind fun v252 S253 => ob (truth v252) fun v254 => .ok (.bl (!v254)) S253) : Out PV).bind fun v255 S256 => match truth v255 with | some true => (.ok (some (.int 1)) S256) | some false => (.ok none S256) | none => .stuck) xs242.2 xs242.1 S235) : Out (List PV)).bind fun ys257 S258 => match decide (ys257.length ≤ LIM) with | true => (match decide (([] : List PV).length ≤ LIM) with | true => (ob (cmpop .Eq (.lst ys257) (.lst []) S258) fun b259 => .ok (.bl b259) S258) | false => .stuck) | false => .stuck) | false => (.ok (.bl b240) S235) : Out PV).bind fun v260 S261 => .ok v260 S261) | false => (.ok (.bl b236) S235) : Out PV).bind fun v262 S263 => .ok (some v262) S263) xs230.2 xs230.1 S228) : Out (List PV)).bind fun ys264 S265 => match decide (ys264.length ≤ LIM) with | true => (.ok (.lst ys264) S265) | false => .stuck : Out PV) fun v266 S267 => ofE e227 (.ok (List.set e227 2 (some v266)) S267 : Out Zv.Env) fun e268 S269 => ofE e268 ((noExc (ob (look e268 4) fun v270 => ob (itOf S269 v270) fun xs271 => loopC (fun x272 S273 => ob (look (List.set (wipeE e268 [13]) 13 (some x272)) 1) fun v274 => ob (look (List.set (wipeE e268 [13]) 13 (some x272)) 5) fun v275 => ob (look (List.set (wipeE e268 [13]) 13 (some x272)) 13) fun v276 => (call 15 [v274, v275, v276] S273 : Out PV).bind fun v277 S278 => .ok (some v277) S278) xs271.2 xs271.1 S269) : Out (List PV)).bind fun ys279 S280 => match decide (ys279.length ≤ LIM) with | true => (ob (look e268 2) fun v281 => (call 31 [.lst ys279, v281] S280 : Out PV).bind fun v282 S283 => .ok v282 S283) | false => .stuck : Out PV) fun v284 S285 => .rt v284 S285) | none => .stuck) | none => .stuck)
  | _ => .stuck
theorem q39 (call : Nat → List PV → Store → Out PV) (vs : List PV) (S : Store) : bodyF G.gls call t39 vs S = s39 call vs S := by
  match vs with
  | [] => kernel_rfl
  | [p0] => kernel_rfl
  | [p0, p1] => kernel_rfl
  | p0 :: p1 :: _ :: _ => kernel_rfl
def s40 (call : Nat → List PV → Store → Out PV) (vs : List PV) (S : Store) : Out PV := match vs with
  | [p0, p1] => endF false S (ofE [some p0, some p1, none, none, none] (ob (dixOf [(2, 9), (3, 6), (5, 4), (7, 4)] p1) fun v1 => (call 28 [p0, v1] S : Out PV).bind fun v2 S3 => .ok v2 S3 : Out PV) fun v4 S5 => ofE [some p0, some p1, some v4, none, none] ((call 26 [p1, v4] S5 : Out PV).bind fun v6 S7 => (call 33 [p1, v4] S7 : Out PV).bind fun v8 S9 => (call 31 [v6, v8] S9 : Out PV).bind fun v10 S11 => ob (truth v10) fun v12 => .ok (.bl (!v12)) S11 : Out PV) fun v13 S14 => match truth v13 with | some true => (.rt (.bl false) S14) | some false => (ofE [some p0, some p1, some v4, none, none] (match decide (([(.int 2), (.int 8)] : List PV).length ≤ LIM) with | true => (match decide (([(.int 3), (.int 8)] : List PV).length ≤ LIM) with | true => (match decide (([(.int 5), (.int 6)] : List PV).length ≤ LIM) with | true => (match decide (([(.int 7), (.int 5)] : List PV).length ≤ LIM) with | true => (match decide (([.tup [(.int 2), (.int 8)], .tup [(.int 3), (.int 8)], .tup [(.int 5), (.int 6)], .tup [(.int 7), (.int 5)]] : List PV).length ≤ LIM) with | true => ((call 29 [p0, .lst [.tup [(.int 2), (.int 8)], .tup [(.int 3), (.int 8)], .tup [(.int 5), (.int 6)], .tup [(.int 7), (.int 5)]]] S14 : Out PV).bind fun v17 S18 => .ok v17 S18) | false => .stuck) | false => .stuck) | false => .stuck) | false => .stuck) | false => .stuck : Out PV) fun v19 S20 => ofE [some p0, some p1, some v4, none, none] (match (v19 : PV) with | .tup xs21 => (match decide (xs21.length = 2) with | true => (match xs21 with | x22 :: xs23 => (match xs23 with | x24 :: xs25 => (match xs25 with | [] => (.ok [some p0, some x22, some x24, none, none] S20) | _ => .stuck) | _ => .stuck) | _ => .stuck) | false => .stuck) | _ => .stuck : Out Zv.Env) fun e26 S27 => ofE e26 (ob (look e26 1) fun v28 => ob (look e26 2) fun v29 => (call 26 [v28, v29] S27 : Out PV).bind fun v30 S31 => ob (look e26 0) fun v32 => ob (look e26 1) fun v33 => ob (look e26 2) fun v34 => (call 35 [v33, v34] S31 : Out PV).bind fun v35 S36 => (call 28 [v32, v35] S36 : Out PV).bind fun v37 S38 => .ok [v30, v37] S38 : Out (List PV)) fun vs39 S40 => ofE e26 (match vs39 with | x41 :: xs42 => (match xs42 with | x43 :: xs44 => (match xs44 with | [] => .ok (List.set (List.set e26 3 (some x41)) 4 (some x43)) S40 | _ => .stuck) | _ => .stuck) | _ => .stuck : Out Zv.Env) fun e45 S46 => ofE e45 ((ob (look e45 3) fun v47 => (call 30 [v47] S46 : Out PV).bind fun v48 S49 => ob (cmpop .NotEq v48 (.int 4) S49) fun b50 => match (b50 : Bool) with | true => (.ok (.bl b50) S49) | false => (ob (look e45 3) fun v51 => ob (bfun .len [v51] S49) fun v52 => ob (look e45 1) fun v53 => ob (look e45 2) fun v54 => (call 35 [v53, v54] S49 : Out PV).bind fun v55 S56 => ob (cmpop .NotEq v52 v55 S56) fun b57 => .ok (.bl b57) S56) : Out PV).bind fun v58 S59 => .ok v58 S59 : Out PV) fun v60 S61 => match truth v60 with | some true => (.rt (.bl false) S61) | some false => (ofE e45 (ob (look e45 3) fun v64 => ob (look e45 4) fun v65 => ob (ixOf S61 v64 v65) fun v66 => ob (look e45 3) fun v67 => ob (ixOf S61 v67 (.int 0)) fun v68 => ob (look e45 3) fun v69 => ob (negOf (.int 1)) fun v70 => ob (ixOf S61 v69 v70) fun v71 => match decide (([v66, v68, v71] : List PV).length ≤ LIM) with | true => (ob (look e45 1) fun v72 => ob (look e45 2) fun v73 => ob (look e45 4) fun v74 => (call 34 [v72, v73, v74] S61 : Out PV).bind fun v75 S76 => match decide (([(.int 0)] : List PV).length ≤ LIM) with | true => (ob (look e45 2) fun v77 => ob (binop .Mult (.tup [(.int 0)]) v77 S76) fun v78 => ob (look e45 1) fun v79 => ob (binop .Sub v79 (.int 1) S76) fun v80 => match decide (([v80] : List PV).length ≤ LIM) with | true => (ob (look e45 2) fun v81 => ob (binop .Mult (.tup [v80]) v81 S76) fun v82 => match decide (([v75, v78, v82] : List PV).length ≤ LIM) with | true => ((call 31 [.lst [v66, v68, v71], .lst [v75, v78, v82]] S76 : Out PV).bind fun v83 S84 => .ok v83 S84) | false => .stuck) | false => .stuck) | false => .stuck) | false => .stuck : Out PV) fun v85 S86 => .rt v85 S86) | none => .stuck) | none => .stuck)
  | _ => .stuck
theorem q40 (call : Nat → List PV → Store → Out PV) (vs : List PV) (S : Store) : bodyF G.gls call t40 vs S = s40 call vs S := by
  match vs with
  | [] => kernel_rfl
  | [p0] => kernel_rfl
  | [p0, p1] => kernel_rfl
  | p0 :: p1 :: _ :: _ => kernel_rfl
def s41_l0 (call : Nat → List PV → Store → Out PV) (x20 : PV) (e21 : Zv.Env) (S22 : Store) : SOut := ofE e21 (.ok (List.set e21 2 (some x20)) S22 : Out Zv.Env) fun e23 S24 => ofE e23 ((noExc (ob (r1Of (.int 8)) fun xs25 => loopC (fun x26 S27 => ob (look (List.set (wipeE e23 [3]) 3 (some x26)) 1) fun v28 => ob (look (List.set (wipeE e23 [3]) 3 (some x26)) 2) fun v29 => (call 39 [v28, v29] S27 : Out PV).bind fun v30 S31 => ob (truth v30) fun v32 => match (!v32 : Bool) with | true => (ob (look (List.set (wipeE e23 [3]) 3 (some x26)) 3) fun v33 => .ok (some v33) S31) | false => (.ok none S31)) xs25.2 xs25.1 S24) : Out (List PV)).bind fun ys34 S35 => match decide (ys34.length ≤ LIM) with | true => (match decide (([] : List PV).length ≤ LIM) with | true => (ob (cmpop .NotEq (.lst ys34) (.lst []) S35) fun b36 => .ok (.bl b36) S35) | false => .stuck) | false => .stuck : Out PV) fun v37 S38 => match truth v37 with | some true => (.rt (.bl false) S38) | some false => (.nx e23 S38) | none => .stuck
def s41 (call : Nat → List PV → Store → Out PV) (vs : List PV) (S : Store) : Out PV := match vs with
  | [p0] => endF false S (ofE [some p0, none, none, none] (((call 37 [] S : Out PV).bind fun v1 S2 => ob (truth v1) fun v3 => match (!v3 : Bool) with | true => (.ok (.bl (!v3)) S2) | false => ((call 38 [] S2 : Out PV).bind fun v4 S5 => ob (truth v4) fun v6 => .ok (.bl (!v6)) S5) : Out PV).bind fun v7 S8 => .ok v7 S8 : Out PV) fun v9 S10 => match truth v9 with | some true => (.rt (.bl false) S10) | some false => (ofE [some p0, none, none, none] ((call 27 [p0] S10 : Out PV).bind fun v13 S14 => .ok v13 S14 : Out PV) fun v15 S16 => ofE [some p0, some v15, none, none] (match decide (([(.int 2), (.int 3), (.int 5), (.int 7)] : List PV).length ≤ LIM) with | true => (ob (itOf S16 (.tup [(.int 2), (.int 3), (.int 5), (.int 7)])) fun xs17 => .ok xs17 S16) | false => .stuck : Out (List PV × Guard)) fun xs18 S19 => (forL (s41_l0 call) xs18.2 xs18.1 [some p0, some v15, none, none] S19).then_ fun e41 S42 => ofE e41 (ob (look e41 1) fun v43 => ob (look e41 1) fun v44 => match decide (([(.int 2), (.int 3), (.int 5), (.int 7)] : List PV).length ≤ LIM) with | true => ((call 29 [v44, .lst [(.int 2), (.int 3), (.int 5), (.int 7)]] S42 : Out PV).bind fun v45 S46 => (call 40 [v43, v45] S46 : Out PV).bind fun v47 S48 => .ok v47 S48) | false => .stuck : Out PV) fun v49 S50 => .rt v49 S50) | none => .stuck)
  | _ => .stuck
theorem q41 (call : Nat → List PV → Store → Out PV) (vs : List PV) (S : Store) : bodyF G.gls call t41 vs S = s41 call vs S := by
  match vs with
  | [] => kernel_rfl
  | [p0] => kernel_rfl
  | p0 :: _ :: _ => kernel_rfl
def disp (call : Nat → List PV → Store → Out PV) (f : Nat) (vs : List PV) (S : Store) : Out PV := match Nat.ble 42 f with | true => .stuck | false => (match Nat.ble 21 f with | true => (match Nat.ble 31 f with | true => (match Nat.ble 36 f with | true => (match Nat.ble 39 f with | true => (match Nat.ble 40 f with | true => (match Nat.ble 41 f with | true => (s41 call vs S) | false => (s40 call vs S)) | false => (s39 call vs S)) | false => (match Nat.ble 37 f with | true => (match Nat.ble 38 f with | true => (s38 call vs S) | false => (s37 call vs S)) | false => (s36 call vs S))) | false => (match Nat.ble 33 f with | true => (match Nat.ble 34 f with | true => (match Nat.ble 35 f with | true => (s35 call vs S) | false => (s34 call vs S)) | false => (s33 call vs S)) | false => (match Nat.ble 32 f with | true => (s32 call vs S) | false => (s31 call vs S)))) | false => (match Nat.ble 26 f with | true => (match Nat.ble 28 f with | true => (match Nat.ble 29 f with | true => (match Nat.ble 30 f with | true => (s30 call vs S) | false => (s29 call vs S)) | false => (s28 call vs S)) | false => (match Nat.ble 27 f with | true => (s27 call vs S) | false => (s26 call vs S))) | false => (match Nat.ble 23 f with | true => (match Nat.ble 24 f with | true => (match Nat.ble 25 f with | true => (s25 call vs S) | false => (s24 call vs S)) | false => (s23 call vs S)) | false => (match Nat.ble 22 f with | true => (s22 call vs S) | false => (s21 call vs S))))) | false => (match Nat.ble 10 f with | true => (match Nat.ble 15 f with | true => (match Nat.ble 18 f with | true => (match Nat.ble 19 f with | true => (match Nat.ble 20 f with | true => (s20 call vs S) | false => (s19 call vs S)) | false => (s18 call vs S)) | false => (match Nat.ble 16 f with | true => (match Nat.ble 17 f with | true => (s17 call vs S) | false => (s16 call vs S)) | false => (s15 call vs S))) | false => (match Nat.ble 12 f with | true => (match Nat.ble 13 f with | true => (match Nat.ble 14 f with | true => (s14 call vs S) | false => (s13 call vs S)) | false => (s12 call vs S)) | false => (match Nat.ble 11 f with | true => (s11 call vs S) | false => (s10 call vs S)))) | false => (match Nat.ble 5 f with | true => (match Nat.ble 7 f with | true => (match Nat.ble 8 f with | true => (match Nat.ble 9 f with | true => (s9 call vs S) | false => (s8 call vs S)) | false => (s7 call vs S)) | false => (match Nat.ble 6 f with | true => (s6 call vs S) | false => (s5 call vs S))) | false => (match Nat.ble 2 f with | true => (match Nat.ble 3 f with | true => (match Nat.ble 4 f with | true => (s4 call vs S) | false => (s3 call vs S)) | false => (s2 call vs S)) | false => (match Nat.ble 1 f with | true => (s1 call vs S) | false => (s0 call vs S))))))
def sh : Nat → Nat → List PV → Store → Out PV
  | 0, _, _, _ => .stuck
  | n + 1, f, vs, S => disp (sh n) f vs S
theorem sh_0 (n : Nat) (vs : List PV) (S : Store) : sh (n + 1) 0 vs S = s0 (sh n) vs S := rfl
theorem sh_1 (n : Nat) (vs : List PV) (S : Store) : sh (n + 1) 1 vs S = s1 (sh n) vs S := rfl
theorem sh_2 (n : Nat) (vs : List PV) (S : Store) : sh (n + 1) 2 vs S = s2 (sh n) vs S := rfl
theorem sh_3 (n : Nat) (vs : List PV) (S : Store) : sh (n + 1) 3 vs S = s3 (sh n) vs S := rfl
theorem sh_4 (n : Nat) (vs : List PV) (S : Store) : sh (n + 1) 4 vs S = s4 (sh n) vs S := rfl
theorem sh_5 (n : Nat) (vs : List PV) (S : Store) : sh (n + 1) 5 vs S = s5 (sh n) vs S := rfl
theorem sh_6 (n : Nat) (vs : List PV) (S : Store) : sh (n + 1) 6 vs S = s6 (sh n) vs S := rfl
theorem sh_7 (n : Nat) (vs : List PV) (S : Store) : sh (n + 1) 7 vs S = s7 (sh n) vs S := rfl
theorem sh_8 (n : Nat) (vs : List PV) (S : Store) : sh (n + 1) 8 vs S = s8 (sh n) vs S := rfl
theorem sh_9 (n : Nat) (vs : List PV) (S : Store) : sh (n + 1) 9 vs S = s9 (sh n) vs S := rfl
theorem sh_10 (n : Nat) (vs : List PV) (S : Store) : sh (n + 1) 10 vs S = s10 (sh n) vs S := rfl
theorem sh_11 (n : Nat) (vs : List PV) (S : Store) : sh (n + 1) 11 vs S = s11 (sh n) vs S := rfl
theorem sh_12 (n : Nat) (vs : List PV) (S : Store) : sh (n + 1) 12 vs S = s12 (sh n) vs S := rfl
theorem sh_13 (n : Nat) (vs : List PV) (S : Store) : sh (n + 1) 13 vs S = s13 (sh n) vs S := rfl
theorem sh_14 (n : Nat) (vs : List PV) (S : Store) : sh (n + 1) 14 vs S = s14 (sh n) vs S := rfl
theorem sh_15 (n : Nat) (vs : List PV) (S : Store) : sh (n + 1) 15 vs S = s15 (sh n) vs S := rfl
theorem sh_16 (n : Nat) (vs : List PV) (S : Store) : sh (n + 1) 16 vs S = s16 (sh n) vs S := rfl
theorem sh_17 (n : Nat) (vs : List PV) (S : Store) : sh (n + 1) 17 vs S = s17 (sh n) vs S := rfl
theorem sh_18 (n : Nat) (vs : List PV) (S : Store) : sh (n + 1) 18 vs S = s18 (sh n) vs S := rfl
theorem sh_19 (n : Nat) (vs : List PV) (S : Store) : sh (n + 1) 19 vs S = s19 (sh n) vs S := rfl
theorem sh_20 (n : Nat) (vs : List PV) (S : Store) : sh (n + 1) 20 vs S = s20 (sh n) vs S := rfl
theorem sh_21 (n : Nat) (vs : List PV) (S : Store) : sh (n + 1) 21 vs S = s21 (sh n) vs S := rfl
theorem sh_22 (n : Nat) (vs : List PV) (S : Store) : sh (n + 1) 22 vs S = s22 (sh n) vs S := rfl
theorem sh_23 (n : Nat) (vs : List PV) (S : Store) : sh (n + 1) 23 vs S = s23 (sh n) vs S := rfl
theorem sh_24 (n : Nat) (vs : List PV) (S : Store) : sh (n + 1) 24 vs S = s24 (sh n) vs S := rfl
theorem sh_25 (n : Nat) (vs : List PV) (S : Store) : sh (n + 1) 25 vs S = s25 (sh n) vs S := rfl
theorem sh_26 (n : Nat) (vs : List PV) (S : Store) : sh (n + 1) 26 vs S = s26 (sh n) vs S := rfl
theorem sh_27 (n : Nat) (vs : List PV) (S : Store) : sh (n + 1) 27 vs S = s27 (sh n) vs S := rfl
theorem sh_28 (n : Nat) (vs : List PV) (S : Store) : sh (n + 1) 28 vs S = s28 (sh n) vs S := rfl
theorem sh_29 (n : Nat) (vs : List PV) (S : Store) : sh (n + 1) 29 vs S = s29 (sh n) vs S := rfl
theorem sh_30 (n : Nat) (vs : List PV) (S : Store) : sh (n + 1) 30 vs S = s30 (sh n) vs S := rfl
theorem sh_31 (n : Nat) (vs : List PV) (S : Store) : sh (n + 1) 31 vs S = s31 (sh n) vs S := rfl
theorem sh_32 (n : Nat) (vs : List PV) (S : Store) : sh (n + 1) 32 vs S = s32 (sh n) vs S := rfl
theorem sh_33 (n : Nat) (vs : List PV) (S : Store) : sh (n + 1) 33 vs S = s33 (sh n) vs S := rfl
theorem sh_34 (n : Nat) (vs : List PV) (S : Store) : sh (n + 1) 34 vs S = s34 (sh n) vs S := rfl
theorem sh_35 (n : Nat) (vs : List PV) (S : Store) : sh (n + 1) 35 vs S = s35 (sh n) vs S := rfl
theorem sh_36 (n : Nat) (vs : List PV) (S : Store) : sh (n + 1) 36 vs S = s36 (sh n) vs S := rfl
theorem sh_37 (n : Nat) (vs : List PV) (S : Store) : sh (n + 1) 37 vs S = s37 (sh n) vs S := rfl
theorem sh_38 (n : Nat) (vs : List PV) (S : Store) : sh (n + 1) 38 vs S = s38 (sh n) vs S := rfl
theorem sh_39 (n : Nat) (vs : List PV) (S : Store) : sh (n + 1) 39 vs S = s39 (sh n) vs S := rfl
theorem sh_40 (n : Nat) (vs : List PV) (S : Store) : sh (n + 1) 40 vs S = s40 (sh n) vs S := rfl
theorem sh_41 (n : Nat) (vs : List PV) (S : Store) : sh (n + 1) 41 vs S = s41 (sh n) vs S := rfl
theorem disp_eq (call : Nat → List PV → Store → Out PV) (f : Nat) (vs : List PV) (S : Store) : (match G.fns f with
      | none => .stuck
      | some fn => bodyF G.gls call fn vs S) = disp call f vs S := by
  match f with
  | 0 => exact q0 call vs S
  | 1 => exact q1 call vs S
  | 2 => exact q2 call vs S
  | 3 => exact q3 call vs S
  | 4 => exact q4 call vs S
  | 5 => exact q5 call vs S
  | 6 => exact q6 call vs S
  | 7 => exact q7 call vs S
  | 8 => exact q8 call vs S
  | 9 => exact q9 call vs S
  | 10 => exact q10 call vs S
  | 11 => exact q11 call vs S
  | 12 => exact q12 call vs S
  | 13 => exact q13 call vs S
  | 14 => exact q14 call vs S
  | 15 => exact q15 call vs S
  | 16 => exact q16 call vs S
  | 17 => exact q17 call vs S
  | 18 => exact q18 call vs S
  | 19 => exact q19 call vs S
  | 20 => exact q20 call vs S
  | 21 => exact q21 call vs S
  | 22 => exact q22 call vs S
  | 23 => exact q23 call vs S
  | 24 => exact q24 call vs S
  | 25 => exact q25 call vs S
  | 26 => exact q26 call vs S
  | 27 => exact q27 call vs S
  | 28 => exact q28 call vs S
  | 29 => exact q29 call vs S
  | 30 => exact q30 call vs S
  | 31 => exact q31 call vs S
  | 32 => exact q32 call vs S
  | 33 => exact q33 call vs S
  | 34 => exact q34 call vs S
  | 35 => exact q35 call vs S
  | 36 => exact q36 call vs S
  | 37 => exact q37 call vs S
  | 38 => exact q38 call vs S
  | 39 => exact q39 call vs S
  | 40 => exact q40 call vs S
  | 41 => exact q41 call vs S
  | n + 42 =>
    have e : Nat.ble 42 (n + 42) = true := Nat.ble_eq_true_of_le (by omega)
    show Out.stuck = _
    unfold disp
    rw [e]
theorem callFn_sh (n f : Nat) (vs : List PV) (S : Store) : callFn G n f vs S = sh n f vs S := sh_eq G sh (fun _ _ _ => rfl) (fun n f vs S => (disp_eq (sh n) f vs S).symm) n f vs S
end Xk00
end
section
set_option Elab.async false
set_option linter.all false
set_option maxRecDepth 100000
set_option maxHeartbeats 1000000
namespace Xk00
open PySem Zv
theorem r0 (n : Nat) (S : Store) {v : PV} (hv : v.isV = true) (lo hi : Int) : sh (n + 1) 0 [v, .int lo, .int hi] S = .ok (.bl (isW lo hi v)) S := by
  rw [sh_0]
  cases v <;> first | cases hv | skip
  case int i =>
    simp only [s0, isTy, ob_some, cmpop, okb, bind_ok, ofE_ok, endF_rt, endF_nx, isW]
    by_cases h : lo ≤ i <;> simp [h]
  all_goals simp [s0, isTy, ob_some, cmpop, okb, bind_ok, ofE_ok, endF_rt, endF_nx, isW]
theorem r1 (n : Nat) (S : Store) {v : PV} (hv : v.isV = true) {lo hi : Int} (h : isW lo hi v = true) : sh (n + 2) 1 [v, .int lo, .int hi] S = .ok .non S := by
  rw [sh_1]
  simp [s1, r0 n S hv, h, okb, bind_ok, ob_some, truth_bl, ofE_ok, endF_rt, endF_nx]
theorem r2 (n : Nat) (S : Store) {v : PV} (hv : v.isV = true) (lo hi : Int) : sh (n + 1) 2 [v, .int lo, .int hi] S = .ok (.bl (isTup lo hi v)) S := by
  rw [sh_2]
  cases v <;> first | cases hv | skip
  case tup xs =>
    simp only [s2, isTy, ob_some, cmpop, okb, bind_ok, ofE_ok, endF_rt, endF_nx, isTup, bfun, itemsOf]
    by_cases h : lo ≤ (xs.length : Int) <;> simp [h]
  all_goals simp [s2, isTy, ob_some, cmpop, okb, bind_ok, ofE_ok, endF_rt, endF_nx, isTup]
theorem r3 (n : Nat) (S : Store) {v : PV} (hv : v.isV = true) (hx : ∀ xs, v = .tup xs → xs.length ≤ LIM ∧ ∀ x ∈ xs, x.isV = true) (m lo hi : Int) :
    sh (n + 2) 3 [v, .int m, .int lo, .int hi] S = .ok (.bl (areW m lo hi v)) S := by
  rw [sh_3]
  have key : ∀ b, isTup m m v = b → (s3 (sh (n + 1)) [v, .int m, .int lo, .int hi] S = .ok (.bl (areW m lo hi v)) S) := by
    intro b hb
    cases b with
    | false =>
      have : areW m lo hi v = false := by
        cases v <;> first | rfl | skip
        simp only [isTup] at hb
        simp only [areW, hb, Bool.false_and]
      simp [s3, r2 n S hv, hb, this, okb, bind_ok, truth_bl, ofE_ok, endF_rt, endF_nx]
    | true =>
      cases v <;> first | (cases hb; done) | skip
      rename_i xs
      obtain ⟨hl, hx⟩ := hx xs rfl
      have e := loopC_map (S := S) (step := fun x4 S5 => (sh (n + 1) 0 [x4, .int lo, .int hi] S5 : Out PV).bind fun v6 S7 => .ok (some v6) S7) (f := fun x => .bl (isW lo hi x)) xs (fun x hm => by simp [r0 n S (hx x hm), okb, bind_ok])
      have : areW m lo hi (.tup xs) = xs.all (isW lo hi) := by
        simp only [isTup] at hb
        simp only [areW, hb, Bool.true_and]
      simp [s3, r2 n S hv, hb, this, okb, bind_ok, truth_bl, ofE_ok, endF_rt, endF_nx, itOf, ob_some, e, noExc_ok, hl, bfun, seqOf, allB_map]
  exact key _ rfl
def PR (p : Int) : Prop := p = 2 ∨ p = 3 ∨ p = 5 ∨ p = 7
theorem r8 (n : Nat) (S : Store) {p : Int} (hp : PR p) : sh (n + 2) 8 [.int p] S = .ok (.bl true) S := by
  rw [sh_8]
  rcases hp with rfl | rfl | rfl | rfl <;> simp [s8, r0 n S (v := .int _) rfl, isW, okb, bind_ok, truth_bl, ofE_ok, endF_rt, endF_nx, ob_some, cmpop, c2, itemsOf, flat, PV.isData, areData, PV.deep, deeps, guardO, PV.eqv]
theorem r9 (n : Nat) (S : Store) {p : Int} (hp : PR p) : sh (n + 3) 9 [.int p] S = .ok .non S := by
  rw [sh_9]; simp [s9, r8 n S hp, okb, bind_ok, truth_bl, ofE_ok, endF_rt, endF_nx, ob_some]
theorem r10 (n : Nat) (S : Store) {m : Int} (h0 : 0 ≤ m) (h8 : m ≤ 8) : sh (n + 3) 10 [.int m] S = .ok .non S := by
  rw [sh_10]; simp [s10, c3, r1 n S (v := .int m) rfl (lo := 0) (hi := 8) (by simp [isW, h0, h8]), okb, bind_ok, ofE_ok, endF_rt, endF_nx]
theorem r11 (n : Nat) (S : Store) {p : Int} (hp : 0 < p) (i : Int) : sh (n + 1) 11 [.int p, .int i] S = .ok (.int (i % p)) S := by
  rw [sh_11]; simp [s11, bfun, ob_some, binop, guardO, hp, ofE_ok, endF_rt, endF_nx]
theorem r12 (n : Nat) (S : Store) {p : Int} (hp : PR p) {i : Int} (h1 : -(10 ^ 60) ≤ i) (h2 : i ≤ 10 ^ 60) : sh (n + 4) 12 [.int p, .int i] S = .ok (.int (i % p)) S := by
  rw [sh_12]
  have h0 : 0 < p := by rcases hp with rfl | rfl | rfl | rfl <;> decide
  have e1 := r1 (n + 1) S (v := .int i) rfl (lo := -1000000000000000000000000000000000000000000000000000000000000) (hi := 1000000000000000000000000000000000000000000000000000000000000) (by simp [isW]; omega)
  simp [s12, r9 n S hp, c4, negOf, e1, r11 (n + 2) S h0]
def areV (p : Int) (v : PV) : Prop := ∃ xs : List Int, v = vec xs ∧ xs.length ≤ 8 ∧ ∀ x ∈ xs, 0 ≤ x ∧ x < p
theorem ints_isV (xs : List Int) : ∀ x ∈ xs.map PV.int, x.isV = true := by
  intro x hx; obtain ⟨i, _, rfl⟩ := List.mem_map.mp hx; rfl
theorem ints_W {p : Int} {xs : List Int} (h : ∀ x ∈ xs, 0 ≤ x ∧ x < p) : (xs.map PV.int).all (isW 0 (p - 1)) = true := by
  rw [List.all_eq_true]
  intro x hx; obtain ⟨i, hi, rfl⟩ := List.mem_map.mp hx
  have := h i hi
  simp [isW, this.1]; omega
theorem lim8 {k : Nat} (h : k ≤ 8) : k ≤ LIM := Nat.le_trans h (by decide)
theorem r16 (n : Nat) (S : Store) {p : Int} {xs : List Int} (h8 : xs.length ≤ 8) (h : ∀ x ∈ xs, 0 ≤ x ∧ x < p) : sh (n + 3) 16 [.int p, vec xs] S = .ok (.bl true) S := by
  rw [sh_16]
  have e1 : isTup 0 8 (vec xs) = true := by simp [isTup, vec]; omega
  have e3 := r3 n S (v := vec xs) rfl (fun ys e => by cases e; exact ⟨by simp; exact lim8 h8, ints_isV xs⟩) xs.length 0 (p - 1)
  have e4 : areW xs.length 0 (p - 1) (vec xs) = true := by simp only [areW, vec, ints_W h]; simp
  rw [e4] at e3
  have e5 : bfun .len [vec xs] S = some (.int xs.length) := by simp [bfun, vec, itemsOf]
  simp [s16, c3, r2 (n + 1) S (v := vec xs) rfl, e1, e5, binop, e3]
theorem r17 (n : Nat) (S : Store) {p : Int} {xs : List Int} (h8 : xs.length ≤ 8) (h : ∀ x ∈ xs, 0 ≤ x ∧ x < p) : sh (n + 4) 17 [.int p, vec xs] S = .ok .non S := by
  rw [sh_17]; simp [s17, r16 n S h8 h, okb, bind_ok, truth_bl, ofE_ok, endF_rt, endF_nx, ob_some]
theorem r18 (n : Nat) (S : Store) {p : Int} {xs : List Int} (h8 : xs.length ≤ 8) (h : ∀ x ∈ xs, 0 ≤ x ∧ x < p) : sh (n + 3) 18 [.int p, .int xs.length, vec xs] S = .ok .non S := by
  rw [sh_18]
  have e3 := r3 n S (v := vec xs) rfl (fun ys e => by cases e; exact ⟨by simp; exact lim8 h8, ints_isV xs⟩) xs.length 0 (p - 1)
  have e4 : areW xs.length 0 (p - 1) (vec xs) = true := by simp only [areW, vec, ints_W h]; simp
  rw [e4] at e3
  simp [s18, e3, binop, okb, bind_ok, truth_bl, ofE_ok, endF_rt, endF_nx, ob_some]
theorem r15 (n : Nat) (S : Store) {p : Int} (hp : PR p) {m : Int} (h0 : 0 ≤ m) (h8 : m ≤ 8) {v : PV} (hv : v.isV = true) (hx : ∀ xs, v = .tup xs → xs.length ≤ LIM ∧ ∀ x ∈ xs, x.isV = true) :
    sh (n + 4) 15 [.int p, .int m, v] S = .ok (.bl (areW m 0 (p - 1) v)) S := by
  rw [sh_15]; simp [s15, r9 n S hp, r10 n S h0 h8, r3 (n + 1) S hv hx, okb, bind_ok, ofE_ok, endF_rt, endF_nx, ob_some, binop]
def sumL (p : Int) : List Int → List Int → List Int
  | a :: r, b :: s => (a + b) % p :: sumL p r s
  | _, _ => []
def sumF (p : Int) : PV → PV
  | .tup [.int a, .int b] => .int ((a + b) % p)
  | _ => .non
def timF (p r : Int) : PV → PV
  | .int x => .int ((r * x) % p)
  | _ => .non
theorem zip_sum (p : Int) : ∀ xs ys : List Int, (zipL (xs.map .int) (ys.map .int)).map (sumF p) = (sumL p xs ys).map .int
  | [], _ => by simp [zipL, sumL]
  | _ :: _, [] => by simp [zipL, sumL]
  | a :: r, b :: s => by simp [zipL, sumL, zip_sum p r s, sumF]
theorem zip_mem : ∀ (xs ys : List Int) (z : PV), z ∈ zipL (xs.map .int) (ys.map .int) → ∃ a b : Int, z = .tup [.int a, .int b]
  | [], _, _, h => by simp [zipL] at h
  | _ :: _, [], _, h => by simp [zipL] at h
  | a :: r, b :: s, z, h => by
    simp only [List.map, zipL] at h
    cases h with
    | head => exact ⟨a, b, rfl⟩
    | tail _ h => exact zip_mem r s z h
theorem sumL_len (p : Int) : ∀ xs ys : List Int, xs.length = ys.length → (sumL p xs ys).length = xs.length
  | [], _, _ => by simp [sumL]
  | _ :: _, [], h => by simp at h
  | a :: r, b :: s, h => by simp at h; simp [sumL, sumL_len p r s h]
theorem sumL_le (p : Int) : ∀ xs ys : List Int, (sumL p xs ys).length ≤ xs.length
  | [], _ => by simp [sumL]
  | _ :: _, [] => by simp [sumL]
  | a :: r, b :: s => by simp [sumL]; exact sumL_le p r s
theorem r19 (n : Nat) (S : Store) {p : Int} (hp : 0 < p) {xs ys : List Int} (h8 : xs.length ≤ 8) : sh (n + 2) 19 [.int p, vec xs, vec ys] S = .ok (vec (sumL p xs ys)) S := by
  rw [sh_19]
  simp only [s19, vec, itOf, ob_some, List.append_nil]
  rw [loopC_map (f := sumF p)]
  · rw [zip_sum]
    have := sumL_le p xs ys
    simp [noExc_ok, okb, bind_ok, bfun, itemsOf, seqOf, ofE_ok, endF_rt, endF_nx, lim8 (Nat.le_trans this h8), ob_some]
  · intro z hz
    obtain ⟨a, b, rfl⟩ := zip_mem xs ys z hz
    simp [binop, ob_some, r11 n S hp, okb, bind_ok, sumF]
theorem r20 (n : Nat) (S : Store) {p : Int} (hp : 0 < p) {r : Int} (hr : r.natAbs < 2 ^ 64) {xs : List Int} (h8 : xs.length ≤ 8) : sh (n + 2) 20 [.int p, .int r, vec xs] S = .ok (vec (xs.map fun x => (r * x) % p)) S := by
  rw [sh_20]
  simp only [s20, vec, itOf, ob_some, List.append_nil]
  rw [loopC_map (f := timF p r)]
  · simp [noExc_ok, okb, bind_ok, bfun, itemsOf, seqOf, ofE_ok, endF_rt, endF_nx, lim8 h8, ob_some, Function.comp_def, timF]
  · intro z hz
    obtain ⟨a, _, rfl⟩ := List.mem_map.mp hz
    have : mulOk r a = true := by simp [mulOk, hr]
    simp [binop, ob_some, r11 n S hp, okb, bind_ok, this, guardO, timF]
theorem pr0 {p : Int} (hp : PR p) : 0 < p := by rcases hp with rfl | rfl | rfl | rfl <;> decide
theorem pr7 {p : Int} (hp : PR p) : p ≤ 7 := by rcases hp with rfl | rfl | rfl | rfl <;> decide
theorem r21 (n : Nat) (S : Store) {p : Int} (hp : PR p) {xs ys : List Int} (h8 : xs.length ≤ 8) (h : ∀ x ∈ xs, 0 ≤ x ∧ x < p) (hl : ys.length = xs.length) (h' : ∀ x ∈ ys, 0 ≤ x ∧ x < p) :
    sh (n + 5) 21 [.int p, vec xs, vec ys] S = .ok (vec (sumL p xs ys)) S := by
  have e := r18 (n + 1) S (p := p) (xs := ys) (by omega) h'
  rw [hl] at e
  have e5 : bfun .len [vec xs] S = some (.int xs.length) := by simp [bfun, vec, itemsOf]
  rw [sh_21]; simp [s21, r9 (n + 1) S hp, r17 n S h8 h, e5, e, r19 (n + 2) S (pr0 hp) (xs := xs) (ys := ys) h8]
theorem r22 (n : Nat) (S : Store) {p : Int} (hp : PR p) {r : Int} (hr0 : 0 ≤ r) (hr : r < p) {xs : List Int} (h8 : xs.length ≤ 8) (h : ∀ x ∈ xs, 0 ≤ x ∧ x < p) :
    sh (n + 5) 22 [.int p, .int r, vec xs] S = .ok (vec (xs.map fun x => (r * x) % p)) S := by
  have := pr7 hp
  have e1 := r1 (n + 2) S (v := .int r) rfl (lo := 0) (hi := p - 1) (by simp [isW, hr0]; omega)
  rw [sh_22]; simp [s22, r9 (n + 1) S hp, r17 n S h8 h, okb, bind_ok, ofE_ok, binop, ob_some, e1, r20 (n + 2) S (pr0 hp) (r := r) (by omega) h8, endF_rt, endF_nx]
/-- the head -/
def headI (i : Nat) : List Int → PV
  | [] => .non
  | x :: r => if x = 0 then headI (i + 1) r else .int i
def headsI (i : Nat) : List Int → List PV
  | [] => []
  | x :: r => if x = 0 then headsI (i + 1) r else .int i :: headsI (i + 1) r
def headF : PV → Option PV
  | .tup [.int a, .int b] => if b = 0 then none else some (PV.int a)
  | _ => none
theorem heads_fm : ∀ (xs : List Int) (i : Nat), (enumL i (xs.map .int)).filterMap headF = headsI i xs
  | [], _ => rfl
  | x :: r, i => by
    by_cases h : x = 0 <;> simp [enumL, headsI, h, heads_fm r (i + 1), headF]
theorem enum_mem : ∀ (xs : List Int) (i : Nat) (z : PV), z ∈ enumL i (xs.map .int) → ∃ a b : Int, z = .tup [.int a, .int b]
  | [], _, _, h => by simp [enumL] at h
  | x :: r, i, z, h => by
    simp only [List.map, enumL] at h
    cases h with
    | head => exact ⟨i, x, rfl⟩
    | tail _ h => exact enum_mem r (i + 1) z h
theorem heads_len : ∀ (xs : List Int) (i : Nat), (headsI i xs).length ≤ xs.length
  | [], _ => by simp [headsI]
  | x :: r, i => by
    have := heads_len r (i + 1)
    by_cases h : x = 0 <;> simp [headsI, h] <;> omega
theorem heads_hd : ∀ (xs : List Int) (i : Nat), (headsI i xs ++ [.non])[0]? = some (headI i xs)
  | [], _ => rfl
  | x :: r, i => by by_cases h : x = 0 <;> simp [headsI, headI, h] <;> simpa using heads_hd r (i + 1)
end Xk00

end
section
set_option Elab.async false
set_option linter.all false
set_option maxRecDepth 100000
set_option maxHeartbeats 1000000
namespace Xk00
open PySem Zv
theorem eq_nil (ys : List PV) (S : Store) (h : areData ys = true) (h2 : deeps ys ≤ 59) : cmpop .Eq (.lst ys) (.lst []) S = some ys.isEmpty := by
  cases ys with
  | nil => rfl
  | cons y r =>
    simp only [cmpop, flat, eqO, PV.isData, h, PV.deep, deeps, guardO, PV.eqv, eqvs, areData]
    simp only [areData] at h
    simp only [deeps] at h2
    simp [h, h2]
theorem ne_nil (ys : List PV) (S : Store) (h : areData ys = true) (h2 : deeps ys ≤ 59) : cmpop .NotEq (.lst ys) (.lst []) S = some (!ys.isEmpty) := by
  have := eq_nil ys S h h2
  simp only [cmpop] at *
  rw [this]; rfl
theorem heads_data : ∀ (xs : List Int) (i : Nat), areData (headsI i xs) = true ∧ deeps (headsI i xs) = 0
  | [], _ => ⟨rfl, rfl⟩
  | x :: r, i => by
    have := heads_data r (i + 1)
    by_cases h : x = 0 <;> simp [headsI, h, areData, deeps, PV.isData, PV.deep, this]
theorem head_step (S : Store) {xs : List Int} {i : Nat} : ∀ z ∈ enumL i (xs.map .int), ∃ a b : Int, z = .tup [.int a, .int b] ∧ cmpop .NotEq (.int b) (.int 0) S = some (!decide (b = 0)) := by
  intro z hz
  obtain ⟨a, b, rfl⟩ := enum_mem xs i z hz
  exact ⟨a, b, rfl, rfl⟩
theorem heads_at : ∀ (xs : List Int) (i : Nat), (headsI i xs).isEmpty = false → (headsI i xs)[0]? = some (headI i xs)
  | [], _, h => by simp [headsI] at h
  | x :: r, i, h => by
    by_cases e : x = 0
    · simp only [headsI, headI, e, if_true] at *; exact heads_at r (i + 1) h
    · simp [headsI, headI, e]
theorem heads_non : ∀ (xs : List Int) (i : Nat), (headsI i xs).isEmpty = true → headI i xs = .non
  | [], _, h => rfl
  | x :: r, i, h => by
    by_cases e : x = 0
    · simp only [headsI, headI, e, if_true] at *; exact heads_non r (i + 1) h
    · simp [headsI, headI, e] at h
theorem ix0 (S : Store) {ys : List PV} {v : PV} (h : ys[0]? = some v) : ixOf S (.lst ys) (.int 0) = some v := by
  cases ys with
  | nil => simp at h
  | cons y r => simp [ixOf, itemsOf, seqOf, at_]; simpa using h
theorem r23 (n : Nat) (S : Store) {xs : List Int} (h8 : xs.length ≤ 8) : sh (n + 1) 23 [vec xs] S = .ok (headI 0 xs) S := by
  rw [sh_23]
  simp only [s23, vec, itOf, ob_some]
  rw [loopC_fmap (f := headF)]
  · rw [heads_fm]
    obtain ⟨d1, d2⟩ := heads_data xs 0
    have l := heads_len xs 0
    simp only [noExc_ok, okb', lim8 (Nat.le_trans l h8), decide_true, ofE_ok, List.length_nil, Nat.zero_le]
    rw [ne_nil _ _ d1 (by omega)]
    cases q : (headsI 0 xs).isEmpty with
    | true => simp [heads_non xs 0 q]
    | false => simp [ix0 S (heads_at xs 0 q)]
  · intro z hz
    obtain ⟨a, b, rfl, e⟩ := head_step S z hz
    simp only [List.length_cons, List.length_nil, e, ob_some, headF]
    by_cases h : b = 0 <;> simp [h]
theorem r24 (n : Nat) (S : Store) {p : Int} (hp : PR p) {xs : List Int} (h8 : xs.length ≤ 8) (h : ∀ x ∈ xs, 0 ≤ x ∧ x < p) : sh (n + 5) 24 [.int p, vec xs] S = .ok (headI 0 xs) S := by
  rw [sh_24]; simp [s24, r9 (n + 1) S hp, r17 n S h8 h, r23 (n + 3) S h8]
theorem r36 (n : Nat) (S : Store) {xs : List Int} (h8 : xs.length ≤ 8) : sh (n + 1) 36 [vec xs] S = .ok (headI 0 xs) S := by
  rw [sh_36]
  simp only [s36, vec, itOf, ob_some]
  rw [loopC_fmap (f := headF)]
  · rw [heads_fm]
    have l := heads_len xs 0
    have l2 : (headsI 0 xs).length + 1 ≤ LIM := Nat.le_trans (Nat.add_le_add_right (Nat.le_trans l h8) 1) (by decide)
    simp [noExc_ok, lim8 (Nat.le_trans l h8), binop, seqOf, guardO, l2, ix0 S (heads_hd xs 0), show 1 ≤ LIM by decide]
  · intro z hz
    obtain ⟨a, b, rfl, e⟩ := head_step S z hz
    simp only [List.length_cons, List.length_nil, e, ob_some, headF]
    by_cases h : b = 0 <;> simp [h]
/-- a draw -/
theorem r28 (n : Nat) {S : Store} (hS : Cup S) {m : Int} (h0 : 0 < m) (hm : m.natAbs < BIGB) :
    ∃ r S', sh (n + 1) 28 [.loc 0, .int m] S = .ok (.int r) S' ∧ 0 ≤ r ∧ r < m ∧ Cup S' := by
  obtain ⟨a, b, rfl, ha, hb, hb2⟩ := hS
  have hd : divOk m = true := by simp [divOk, h0, hm]
  rw [sh_28]
  by_cases h : 0 < a
  · refine ⟨a % m, [.l [.int (a / m), .int b]], ?_, Int.emod_nonneg _ (by omega), Int.emod_lt_of_pos _ h0, _, _, rfl, Int.ediv_nonneg ha (by omega), hb, hb2⟩
    simp [s28, ixOf, itemsOf, seqOf, at_, cmpop, h, bfun, binop, h0, guardO, hd, PV.clean, look, endF, finK]
  · refine ⟨((((b * 31051 + 8053) % 2147483549) * ((b * 31051 + 8053) % 2147483549 + 251)) % 2147483587 / 839) % m, [.l [.int a, .int ((b * 31051 + 8053) % 2147483549)]], ?_, Int.emod_nonneg _ (by omega), Int.emod_lt_of_pos _ h0, _, _, rfl, ha, by omega, by omega⟩
    · have q1 : mulOk b 31051 = true := by simp [mulOk]
      have hq : ∀ c : Int, 0 ≤ c → c < 2147483549 → mulOk c (c + 251) = true := by
        intro c h1 h2
        have : c.natAbs < 2 ^ 64 := by omega
        simp [mulOk, this]
      have q2 := hq ((b * 31051 + 8053) % 2147483549) (Int.emod_nonneg _ (by decide)) (Int.emod_lt_of_pos _ (by decide))
      have q3 : divOk 839 = true := by simp [divOk]; decide
      simp [s28, ixOf, itemsOf, seqOf, at_, cmpop, h, bfun, binop, h0, guardO, PV.clean, look, q1, q2, q3, endF, finK]
theorem at_ok {len : Nat} {r : Int} (h0 : 0 ≤ r) (h1 : r < len) : at_ len r = some r.toNat := by simp [at_, h0, h1]
theorem ixT {xs : List PV} {v : PV} (S : Store) (hv : v = .tup xs ∨ v = .lst xs) {r : Int} (h0 : 0 ≤ r) (h1 : r < xs.length) : ∃ x ∈ xs, xs[r.toNat]? = some x ∧ ixOf S v (.int r) = some x := by
  have hl : r.toNat < xs.length := by omega
  refine ⟨xs[r.toNat], List.getElem_mem hl, List.getElem?_eq_getElem hl, ?_⟩
  rcases hv with rfl | rfl <;> simp [ixOf, itemsOf, seqOf, at_ok h0 h1, List.getElem?_eq_getElem hl]
theorem r29 (n : Nat) {S : Store} (hS : Cup S) {xs : List PV} {v : PV} (hv : v = .tup xs ∨ v = .lst xs) (h0 : xs ≠ []) (hm : xs.length ≤ LIM) :
    ∃ x S', sh (n + 2) 29 [.loc 0, v] S = .ok x S' ∧ x ∈ xs ∧ Cup S' := by
  have hl : 0 < xs.length := List.length_pos_iff.mpr h0
  have hB : LIM < BIGB := by decide +kernel
  obtain ⟨r, S', e, a1, a2, c⟩ := r28 n hS (m := xs.length) (by omega) (by simp; omega)
  obtain ⟨x, hx, _, e2⟩ := ixT S' hv a1 a2
  refine ⟨x, S', ?_, hx, c⟩
  have e5 : bfun .len [v] S = some (.int xs.length) := by rcases hv with rfl | rfl <;> simp [bfun, itemsOf, seqOf]
  rw [sh_29]; simp [s29, e5, e, e2, endF_cup hS c]
def okV (p : Int) (y : PV) : Prop := ∃ i : Int, y = .int i ∧ 0 ≤ i ∧ i < p
theorem vec_of {p : Int} : ∀ {ys : List PV}, (∀ y ∈ ys, okV p y) → ∃ xs : List Int, ys = xs.map .int ∧ ∀ x ∈ xs, 0 ≤ x ∧ x < p
  | [], _ => ⟨[], rfl, fun _ h => nomatch h⟩
  | y :: ys, h => by
    obtain ⟨i, rfl, a⟩ := h y (.head _)
    obtain ⟨xs, rfl, b⟩ := vec_of fun z hz => h z (.tail _ hz)
    exact ⟨i :: xs, rfl, fun x hx => by cases hx with | head => exact a | tail _ hx => exact b x hx⟩
theorem cmp_eqI (a b : Int) (S : Store) : cmpop .Eq (.int a) (.int b) S = some (decide (a = b)) := rfl
theorem cmp_ltI (a b : Int) (S : Store) : cmpop .Lt (.int a) (.int b) S = some (decide (a < b)) := rfl
theorem r32 (n : Nat) {S : Store} (hS : Cup S) {p : Int} (hp : PR p) {m : Int} (h0 : 0 ≤ m) (h8 : m ≤ 8) :
    ∃ xs S', sh (n + 2) 32 [.loc 0, .int p, .int m] S = .ok (vec xs) S' ∧ (xs.length : Int) = m ∧ (∀ x ∈ xs, 0 ≤ x ∧ x < p) ∧ Cup S' := by
  have hp0 := pr0 hp
  have hp7 := pr7 hp
  have hB : (100 : Nat) < BIGB := by decide +kernel
  obtain ⟨r, S1, e1, a1, a2, c1⟩ := r28 n hS (m := 3) (by decide) (by have : (100 : Nat) < BIGB := hB; omega)
  -- how many 0s
  have hA : ∃ (k : Int) (S2 : Store), ((sh (n + 1) 28 [.loc 0, .int 3] S).bind fun v1 S2 => ob (cmpop .Eq v1 (.int 0) S2) fun b3 => match (b3 : Bool) with | true => (ob (binop .Add (.int m) (.int 1) S2) fun v4 => (sh (n + 1) 28 [.loc 0, v4] S2 : Out PV).bind fun v5 S6 => .ok v5 S6) | false => (.ok (.int 0) S2) : Out PV) = .ok (.int k) S2 ∧ Cup S2 := by
    rw [e1]
    by_cases h : r = 0
    · obtain ⟨r2, S2, e2, _, _, c2⟩ := r28 n c1 (m := m + 1) (by omega) (by omega)
      exact ⟨r2, S2, by simp [cmp_eqI, h, binop, e2], c2⟩
    · exact ⟨0, S1, by simp [cmp_eqI, h], c1⟩
  obtain ⟨k, S2, eA, c2⟩ := hA
  obtain ⟨ys, S3, e3, l3, p3, c3⟩ := cinv (step := fun x12 S13 => (ob (cmpop .Lt x12 (.int k) S13) fun b14 => match (b14 : Bool) with | true => (.ok (.int 0) S13) | false => ((sh (n + 1) 28 [.loc 0, .int p] S13 : Out PV).bind fun v15 S16 => .ok v15 S16) : Out PV).bind fun v17 S18 => .ok (some v17) S18) Cup (okV p) (rangeL 0 m.toNat) S2 c2 (by
    intro x hx S hS
    obtain ⟨i, rfl, _, _⟩ := rng_mem _ _ _ hx
    by_cases h : i < k
    · exact ⟨.int 0, S, by simp [cmp_ltI, h], ⟨0, rfl, by omega, hp0⟩, hS⟩
    · obtain ⟨r2, S2, e2, b1, b2, c2⟩ := r28 n hS (m := p) hp0 (by omega)
      exact ⟨.int r2, S2, by simp [cmp_ltI, h, e2], ⟨r2, rfl, b1, b2⟩, c2⟩)
  obtain ⟨xs, rfl, hx⟩ := vec_of p3
  rw [rng_len] at l3
  refine ⟨xs, S3, ?_, by simp at l3; omega, hx, c3⟩
  have sm : small m = true := by simp [small]; omega
  have l4 : (xs.map PV.int).length ≤ LIM := lim8 (by omega)
  rw [sh_32]
  refine st_ofE (a := .int k) (S := S2) ((bind_ok' _).trans eA) ?_
  refine st_ofE (a := vec xs) (S := S3) ?_ (endF_cup hS c3 _ _)
  simp only [r1Of, sm, guardO, ob_some]
  refine st_bind (st_no e3) ?_
  simp only [l4, decide_true, bfun, itemsOf, seqOf, ob_some, vec]
/-- the number of a kind -/
def srt : PV → Int
  | .non => 0
  | .bl _ => 1
  | .int _ => 2
  | .str _ => 3
  | .tup _ => 4
  | .lst _ => 5
  | _ => 6
theorem r30 (n : Nat) (S : Store) {v : PV} (hv : v.isV = true) : sh (n + 1) 30 [v] S = .ok (.int (srt v)) S := by
  rw [sh_30]
  cases v <;> first | cases hv | skip
  all_goals simp [s30, cmpop, isTy, srt]
end Xk00

end
section
set_option Elab.async false
set_option linter.all false
set_option maxRecDepth 100000
set_option maxHeartbeats 1000000
namespace Xk00
open PySem Zv
theorem data_isV : ∀ {v : PV}, v.isData = true → v.isV = true := by
  intro v h; cases v <;> first | rfl | cases h
theorem and_tt {a b : Bool} (h : (a && b) = true) : a = true ∧ b = true := by simpa using h
theorem data_mem : ∀ {xs : List PV}, areData xs = true → ∀ x ∈ xs, x.isData = true
  | x :: xs, h, y, hy => by
    simp only [areData, Bool.and_eq_true] at h
    cases hy with
    | head => exact h.1
    | tail _ hy => exact data_mem h.2 y hy
theorem deep_mem : ∀ {xs : List PV}, ∀ x ∈ xs, x.deep ≤ deeps xs
  | x :: xs, y, hy => by
    simp only [deeps]
    cases hy with
    | head => exact Nat.le_max_left _ _
    | tail _ hy => exact Nat.le_trans (deep_mem y hy) (Nat.le_max_right _ _)
mutual
theorem eqv_refl : ∀ {v : PV}, v.isData = true → v.eqv v = true
  | .non, _ => rfl
  | .bl b, _ => by cases b <;> rfl
  | .int i, _ => by simp [PV.eqv]
  | .str x, _ => by simp [PV.eqv]
  | .tup xs, h => by simp only [PV.eqv]; exact eqvs_refl (by simpa [PV.isData] using h)
  | .lst xs, h => by simp only [PV.eqv]; exact eqvs_refl (by simpa [PV.isData] using h)
theorem eqvs_refl : ∀ {xs : List PV}, areData xs = true → eqvs xs xs = true
  | [], _ => rfl
  | x :: xs, h => by
    simp only [areData, Bool.and_eq_true] at h
    simp [eqvs, eqv_refl h.1, eqvs_refl h.2]
end
theorem cmp_same {v : PV} (S : Store) (h : v.isData = true) (hd : v.deep ≤ 60) : cmpop .Eq v v S = some true := by
  have e : flat S v = v := by cases v <;> first | rfl | cases h
  simp [cmpop, e, eqO, h, hd, guardO, eqv_refl h]
theorem zip_same : ∀ (xs : List PV) (z : PV), z ∈ zipL xs xs → ∃ x ∈ xs, z = .tup [x, x]
  | [], _, h => nomatch h
  | x :: xs, z, h => by
    simp only [zipL] at h
    cases h with
    | head => exact ⟨x, .head _, rfl⟩
    | tail _ h => obtain ⟨y, a, b⟩ := zip_same xs z h; exact ⟨y, .tail _ a, b⟩
theorem fm_none : ∀ (xs : List PV), xs.filterMap (fun _ => (none : Option PV)) = [] := by
  intro xs; induction xs <;> simp_all
theorem r31 : ∀ (d : Nat) (n : Nat) (S : Store) {v : PV}, v.isData = true → v.deep ≤ d → d ≤ 60 → sh (n + d + 2) 31 [v, v] S = .ok (.bl true) S
  | d, n, S, v, h, hd, hdd => by
    rw [sh_31]
    have hv := data_isV h
    have e0 := r30 (n + d) S hv
    have scal : srt v ≠ 4 → srt v ≠ 5 → srt v ≠ 6 → s31 (sh (n + d + 1)) [v, v] S = .ok (.bl true) S := by
      intro q4 q5 q6
      have ein : cmpop .In (.int (srt v)) (.tup [.int 4, .int 5]) S = some false := by
        simp [cmpop, itemsOf, flat, PV.isData, areData, PV.deep, deeps, guardO, PV.eqv, Ne.symm q4, Ne.symm q5]
      have ene : cmpop .NotEq (.int (srt v)) (.int (srt v)) S = some false := by simp [cmpop, flat, eqO, PV.isData, PV.deep, guardO, PV.eqv]
      have e6 : cmpop .Eq (.int (srt v)) (.int 6) S = some false := by simp [cmp_eqI, q6]
      have e7 := cmp_same S h (by omega)
      simp [s31, e0, ene, e6, ein, e7, show 2 ≤ LIM by decide]
    have seq : ∀ xs : List PV, v = .tup xs ∨ v = .lst xs → s31 (sh (n + d + 1)) [v, v] S = .ok (.bl true) S := by
      intro xs q
      have hda : areData xs = true := by rcases q with rfl | rfl <;> simpa [PV.isData] using h
      have hdd : deeps xs + 1 ≤ d := by rcases q with rfl | rfl <;> simpa [PV.deep] using hd
      obtain ⟨k, rfl⟩ : ∃ k, d = k + 1 := ⟨d - 1, by omega⟩
      have hs : srt v = 4 ∨ srt v = 5 := by rcases q with rfl | rfl <;> simp [srt]
      have ein : cmpop .In (.int (srt v)) (.tup [.int 4, .int 5]) S = some true := by
        rcases hs with hs | hs <;> rw [hs] <;> rfl
      have ene : cmpop .NotEq (.int (srt v)) (.int (srt v)) S = some false := by simp [cmpop, flat, eqO, PV.isData, PV.deep, guardO, PV.eqv]
      have e6 : cmpop .Eq (.int (srt v)) (.int 6) S = some false := by rcases hs with hs | hs <;> rw [hs] <;> rfl
      have el : bfun .len [v] S = some (.int xs.length) := by rcases q with rfl | rfl <;> simp [bfun, itemsOf, seqOf]
      have ell : cmpop .Eq (.int xs.length) (.int xs.length) S = some true := by simp [cmp_eqI]
      have ei : itOf S v = some (xs, []) := by rcases q with rfl | rfl <;> rfl
      simp only [s31, e0, okb', bind_ok2, ofE_ok, ene, e6, ob_some, truth_bl, List.length_cons, List.length_nil, show decide (0 + 1 + 1 ≤ LIM) = true by decide, ein, el, ell, ei, List.append_nil]
      rw [loopC_fmap (f := fun _ => none)]
      · simp [fm_none, eq_nil [] S rfl (by decide)]
      · intro z hz
        obtain ⟨x, hx, rfl⟩ := zip_same xs z hz
        have e := r31 k n S (data_mem hda x hx) (Nat.le_trans (deep_mem x hx) (by omega)) (by omega)
        rw [show n + (k + 1) + 1 = n + k + 2 by omega]
        simp [e]
    cases v <;> first | (cases h; done) | skip
    case tup xs => exact seq xs (.inl rfl)
    case lst xs => exact seq xs (.inr rfl)
    all_goals exact scal (by simp [srt]) (by simp [srt]) (by simp [srt])
end Xk00

end
section
set_option Elab.async false
set_option linter.all false
set_option maxRecDepth 100000
set_option maxHeartbeats 1000000
namespace Xk00
open PySem Zv
/-- a number multiplied -/
theorem r7 (n : Nat) (S : Store) {p m : Int} (hp0 : 0 ≤ p) (hp : p ≤ 100) (h0 : 0 ≤ m) (h1 : m ≤ 600) : sh (n + 3) 7 [.int p, .int m] S = .ok (.int (p ^ m.toNat)) S := by
  rw [sh_7]
  have e1 := r1 n S (v := .int p) rfl (lo := 1 - 10000000000000000000000000000000000000000000000000000000000000000000000000000000000000000000000000000) (hi := 10000000000000000000000000000000000000000000000000000000000000000000000000000000000000000000000000000 - 1) (by simp [isW]; omega)
  have e2 := r1 n S (v := .int m) rfl (lo := 0) (hi := 600) (by simp [isW]; omega)
  simp only [s7, c0, c1, binop, ob_some, e1, e2, bind_ok2, ofE_ok, r1Of, sm_ok h0 (by omega), guardO]
  refine st_loop (J := fun i σ S' => S' = S ∧ ∃ o, σ = [some (.int p), some (.int m), some (.int (p ^ i)), o]) ⟨rfl, none, by simp⟩ ?_ ?_
  · rintro i x σ S' hx ⟨rfl, o, rfl⟩
    refine ⟨_, _, ?_, rfl, some x, rfl⟩
    simp [s7_l0, look, List.set, binop, mulOk_r (show p.natAbs < 2 ^ 64 by omega), guardO, Int.pow_succ]
  · rintro σ S' ⟨rfl, o, rfl⟩
    simp [look, rng_len]
theorem r35 (n : Nat) (S : Store) {p m : Int} (hp0 : 0 ≤ p) (hp : p ≤ 100) (h0 : 0 ≤ m) (h1 : m ≤ 600) : sh (n + 1) 35 [.int p, .int m] S = .ok (.int (p ^ m.toNat)) S := by
  rw [sh_35]
  simp only [s35, ob_some, bind_ok2, ofE_ok, r1Of, sm_ok h0 (by omega), guardO]
  refine st_loop (J := fun i σ S' => S' = S ∧ ∃ o, σ = [some (.int p), some (.int m), some (.int (p ^ i)), o]) ⟨rfl, none, by simp⟩ ?_ ?_
  · rintro i x σ S' hx ⟨rfl, o, rfl⟩
    refine ⟨_, _, ?_, rfl, some x, rfl⟩
    simp [s35_l0, look, List.set, binop, mulOk_r (show p.natAbs < 2 ^ 64 by omega), guardO, Int.pow_succ]
  · rintro σ S' ⟨rfl, o, rfl⟩
    simp [look, rng_len]
/-- all vectors -/
def more (p : Int) (row : List Int) : List (List Int) := (List.range p.toNat).map fun (r : Nat) => row ++ [Int.ofNat r]
def allL (p : Int) : Nat → List (List Int)
  | 0 => [[]]
  | m + 1 => (allL p m).flatMap (more p)
def vecs (xs : List (List Int)) : List PV := xs.map vec
theorem more_len (p : Int) (row : List Int) : (more p row).length = p.toNat := by simp [more]
theorem flat_len {α β : Type} (f : α → List β) (c : Nat) : ∀ (xs : List α), (∀ x ∈ xs, (f x).length = c) → (xs.flatMap f).length = xs.length * c
  | [], _ => by simp
  | x :: xs, h => by
    rw [List.flatMap_cons, List.length_append, h x (.head _), flat_len f c xs fun y hy => h y (.tail _ hy)]
    simp [Nat.add_mul]; omega
theorem allL_len (p : Int) : ∀ m, (allL p m).length = p.toNat ^ m
  | 0 => rfl
  | m + 1 => by rw [allL, flat_len _ p.toNat _ (fun x _ => more_len p x), allL_len p m, Nat.pow_succ]
theorem allL_row (p : Int) : ∀ m, ∀ row ∈ allL p m, row.length = m
  | 0, row, h => by simp [allL] at h; simp [h]
  | m + 1, row, h => by
    simp only [allL, List.mem_flatMap] at h
    obtain ⟨a, ha, hb⟩ := h
    simp only [more, List.mem_map] at hb
    obtain ⟨r, _, rfl⟩ := hb
    simp [allL_row p m a ha]
theorem rng_map : ∀ (n : Nat) (lo : Nat), rangeL lo n = (List.range' lo n).map fun (r : Nat) => PV.int r
  | 0, _ => rfl
  | n + 1, lo => by simp only [rangeL, List.range'_succ, List.map_cons]; rw [← rng_map n (lo + 1)]; rfl
theorem rangeL0 (n : Nat) : rangeL 0 n = (List.range n).map fun (r : Nat) => PV.int r := by
  rw [List.range_eq_range']; exact rng_map n 0
def addR : PV → PV → PV
  | .tup xs, z => .tup (xs ++ [z])
  | v, _ => v
theorem more_vec (p : Int) (row : List Int) : (rangeL 0 p.toNat).map (addR (vec row)) = vecs (more p row) := by
  rw [rangeL0]; simp [vecs, more, vec, addR, Function.comp_def]
theorem flat_vecs (p : Int) (xs : List (List Int)) : (vecs xs).flatMap (fun row => (rangeL 0 p.toNat).map (addR row)) = vecs (xs.flatMap (more p)) := by
  simp only [vecs, List.flatMap_map, List.map_flatMap]
  congr 1; funext row
  exact more_vec p row
theorem pow_le_lim {p : Int} (hp : PR p) {m : Nat} (hm : p.toNat ^ m ≤ 20000) {i : Nat} (hi : i ≤ m) : p.toNat ^ i ≤ LIM := by
  have : p.toNat ^ i ≤ p.toNat ^ m := Nat.pow_le_pow_right (by rcases hp with rfl | rfl | rfl | rfl <;> decide) hi
  exact Nat.le_trans this (Nat.le_trans hm (by decide))
theorem add_row {row : List Int} (S : Store) {z : PV} (h : row.length ≤ 8) : binop .Add (vec row) (.tup [z]) S = some (addR (vec row) z) := by
  have : row.length + 1 ≤ LIM := Nat.le_trans (Nat.add_le_add_right h 1) (by decide)
  simp [binop, vec, addR, guardO, this]
theorem vecs_len (xs : List (List Int)) : (vecs xs).length = xs.length := by simp [vecs]
theorem r25 (n : Nat) (S : Store) {p m : Int} (hp : PR p) (h0 : 0 ≤ m) (h8 : m ≤ 8) (hl : p.toNat ^ m.toNat ≤ 20000) :
    sh (n + 1) 25 [.int p, .int m] S = .ok (.lst (vecs (allL p m.toNat))) S := by
  rw [sh_25]
  simp only [s25, ob_some, bind_ok2, ofE_ok, r1Of, sm_ok h0 (by omega), guardO, List.length_nil, List.length_cons, Nat.zero_le, decide_true, show (decide (0 + 1 ≤ LIM)) = true by decide]
  refine st_loop (J := fun i σ S' => S' = S ∧ ∃ o, σ = [some (.int p), some (.int m), some (.lst (vecs (allL p i))), o, none, none]) ⟨rfl, none, rfl⟩ ?_ ?_
  · rintro i x σ S' hx ⟨rfl, o, rfl⟩
    obtain ⟨rfl, hi⟩ := rng_get hx
    have hp7 := pr7 hp
    refine ⟨_, _, ?_, rfl, some (.int i), rfl⟩
    refine st_fin (a := [some (.int p), some (.int m), some (.lst (vecs (allL p i))), some (.int i), none, none]) (S := S') rfl ?_
    refine st_fin (a := .lst (vecs (allL p (i + 1)))) (S := S') ?_ ?_
    · simp only [look, ob_some, itOf]
      rw [loopC2_map (f := fun row => (rangeL 0 p.toNat).map (addR row))]
      · rw [flat_vecs]
        have : (vecs (allL p (i + 1))).length ≤ LIM := by rw [vecs_len, allL_len]; exact pow_le_lim hp hl hi
        simp only [noExc_ok, okb', show (List.flatMap (more p) (allL p i)) = allL p (i + 1) from rfl, this, decide_true]
      · intro row hrow
        simp only [vecs, List.mem_map] at hrow
        obtain ⟨r, hr, rfl⟩ := hrow
        have hr8 : r.length ≤ 8 := by rw [allL_row p i r hr]; omega
        simp only [wipeE, List.set, look, ob_some, r1Of, sm_ok (Int.le_of_lt (pr0 hp)) (show p ≤ 1000000 by omega), guardO]
        rw [loopC_map (f := addR (vec r))]
        intro z hz
        simp only [List.length_cons, List.length_nil, show (decide (0 + 1 ≤ LIM)) = true by decide, add_row S' hr8, ob_some]
    · simp [List.set]
  · rintro σ S' ⟨rfl, o, rfl⟩
    simp [look, rng_len]
theorem r26 (n : Nat) (S : Store) {p m : Int} (hp : PR p) (h0 : 0 ≤ m) (h8 : m ≤ 8) (hl : p.toNat ^ m.toNat ≤ 20000) :
    sh (n + 4) 26 [.int p, .int m] S = .ok (.tup (vecs (allL p m.toNat))) S := by
  have hp7 := pr7 hp
  have hp0 := pr0 hp
  have e : p ^ m.toNat = ((p.toNat ^ m.toNat : Nat) : Int) := by
    rw [Int.natCast_pow, Int.toNat_of_nonneg (by omega)]
  have ec : cmpop .Gt (.int (p ^ m.toNat)) c5 S = some false := by
    simp only [cmpop, c5, e]
    rw [show decide ((20000 : Int) < ((p.toNat ^ m.toNat : Nat) : Int)) = false from decide_eq_false (by omega)]
  rw [sh_26]
  simp [s26, r9 n S hp, r10 n S h0 h8, r7 n S (p := p) (m := m) (by omega) (by omega) h0 (by omega), ec, r25 (n + 2) S hp h0 h8 hl, bfun, itemsOf, seqOf]
end Xk00

end
section
set_option Elab.async false
set_option linter.all false
set_option maxRecDepth 100000
set_option maxHeartbeats 1000000
namespace Xk00
open PySem Zv
theorem take_flat {α β : Type} (f : α → List β) (xs : List α) (i : Nat) (h : i < xs.length) : (xs.take (i + 1)).flatMap f = (xs.take i).flatMap f ++ f xs[i] := by
  rw [List.take_succ_eq_append_getElem h, List.flatMap_append]; simp
theorem r33_in (n : Nat) (S : Store) {p : Int} (hp : PR p) {m : PV} {rows : List (List Int)} (hl : rows.length * p.toNat ≤ LIM) (hr : ∀ r ∈ rows, r.length ≤ 8) (v2 v3 : Option PV) (o6 : Option PV) :
    ∃ o, forL (s33_l0 (sh n)) [] (vecs rows) [some (.int p), some m, v2, v3, some (.lst []), o6, none] S = .nx [some (.int p), some m, v2, v3, some (.lst (vecs (rows.flatMap (more p)))), o, none] S := by
  have hp7 := pr7 hp
  have key := forL_inv (step := s33_l0 (sh n)) (J := fun i σ S' => S' = S ∧ ∃ o, σ = [some (.int p), some m, v2, v3, some (.lst (vecs ((rows.take i).flatMap (more p)))), o, none]) (vecs rows) 0 [some (.int p), some m, v2, v3, some (.lst []), o6, none] S ⟨rfl, o6, by simp [vecs]⟩ (by
    rintro i x σ S' hx ⟨rfl, o, rfl⟩
    simp only [Nat.zero_add] at *
    simp only [vecs, List.getElem?_map, Option.map_eq_some_iff] at hx
    obtain ⟨r, hx, rfl⟩ := hx
    obtain ⟨hi, rfl⟩ := List.getElem?_eq_some_iff.mp hx
    have hr8 := hr _ (List.getElem_mem hi)
    have l1 : (vecs (more p rows[i])).length ≤ LIM := by rw [vecs_len, more_len]; exact Nat.le_trans (show p.toNat ≤ 8 by omega) (by decide)
    have l2 : (vecs ((rows.take (i + 1)).flatMap (more p))).length ≤ LIM := by
      rw [vecs_len, flat_len _ p.toNat _ (fun x _ => more_len p x), List.length_take]
      refine Nat.le_trans (Nat.mul_le_mul_right _ ?_) hl
      omega
    refine ⟨_, _, ?_, rfl, some (vec rows[i]), rfl⟩
    refine st_fin (a := [some (.int p), some m, v2, v3, some (.lst (vecs ((rows.take i).flatMap (more p)))), some (vec rows[i]), none]) (S := S') rfl ?_
    refine st_fin (a := .lst (vecs ((rows.take (i + 1)).flatMap (more p)))) (S := S') ?_ ?_
    · simp only [look, ob_some, r1Of, sm_ok (Int.le_of_lt (pr0 hp)) (show p ≤ 1000000 by omega), guardO]
      rw [loopC_map (f := addR (vec rows[i]))]
      · rw [more_vec]
        rw [take_flat _ _ _ hi] at l2 ⊢
        have l3 : (vecs ((rows.take i).flatMap (more p))).length + (vecs (more p rows[i])).length ≤ LIM := by simpa [vecs] using l2
        simp only [noExc_ok, okb', l1, decide_true, binop, seqOf, guardO, l3, ob_some]
        simp [vecs]
      · intro z hz
        simp only [wipeE, List.set, look, ob_some, List.length_cons, List.length_nil, show (decide (0 + 1 ≤ LIM)) = true by decide, add_row S' hr8]
    · simp [List.set])
  obtain ⟨σ', S', e, rfl, o, rfl⟩ := key
  exact ⟨o, by rw [e]; simp [vecs_len, vecs]⟩
theorem r33 (n : Nat) (S : Store) {p m : Int} (hp : PR p) (h0 : 0 ≤ m) (h8 : m ≤ 8) (hl : p.toNat ^ m.toNat ≤ 20000) :
    sh (n + 1) 33 [.int p, .int m] S = .ok (.tup (vecs (allL p m.toNat))) S := by
  rw [sh_33]
  simp only [s33, ob_some, bind_ok2, ofE_ok, r1Of, sm_ok h0 (by omega), guardO, List.length_nil, List.length_cons, Nat.zero_le, decide_true, show (decide (0 + 1 ≤ LIM)) = true by decide]
  refine st_loop (J := fun i σ S' => S' = S ∧ ∃ o o4 o5, σ = [some (.int p), some (.int m), some (.lst (vecs (allL p i))), o, o4, o5, none]) ⟨rfl, none, none, none, rfl⟩ ?_ ?_
  · rintro i x σ S' hx ⟨rfl, o, o4, o5, rfl⟩
    obtain ⟨rfl, hi⟩ := rng_get hx
    have hp7 := pr7 hp
    obtain ⟨o', e⟩ := r33_in n S' hp (m := .int m) (rows := allL p i) (by
      have := pow_le_lim hp hl (i := i + 1) hi
      rw [allL_len]; rwa [Nat.pow_succ] at this) (fun r hr => by rw [allL_row p i r hr]; omega) (some (.lst (vecs (allL p i)))) (some (.int i)) o5
    refine ⟨_, _, ?_, rfl, some (.int i), some (.lst (vecs (allL p (i + 1)))), o', rfl⟩
    simp only [s33_l1, List.set, ofE_ok, List.length_nil, Nat.zero_le, decide_true, look, ob_some, itOf]
    rw [e]
    simp [SOut.then_, look, List.set, allL]
  · rintro σ S' ⟨rfl, o, o4, o5, rfl⟩
    simp [look, rng_len, bfun, itemsOf, seqOf]
/-- digits -/
def dg (p : Int) (num : Int) : Nat → List Int
  | 0 => []
  | i + 1 => (num / p ^ i) % p :: dg p num i
theorem dg_len (p num : Int) : ∀ i, (dg p num i).length = i
  | 0 => rfl
  | i + 1 => by simp [dg, dg_len p num i]
theorem dg_rev (p : Int) (hp : 0 < p) : ∀ (i : Nat) (num : Int), dg p num (i + 1) = dg p (num / p) i ++ [num % p]
  | 0, num => by simp [dg]
  | i + 1, num => by
    have e := dg_rev p hp i num
    have q : num / p ^ (i + 1) = num / p / p ^ i := by
      rw [Int.pow_succ', Int.mul_comm, Int.mul_comm, Int.ediv_ediv_of_nonneg (Int.le_of_lt hp)]
    calc dg p num (i + 1 + 1) = (num / p ^ (i + 1)) % p :: dg p num (i + 1) := rfl
      _ = (num / p / p ^ i) % p :: (dg p (num / p) i ++ [num % p]) := by rw [e, q]
      _ = dg p (num / p) (i + 1) ++ [num % p] := rfl
theorem flat_get {α β : Type} (f : α → List β) (c : Nat) (hc : 0 < c) : ∀ (xs : List α) (k : Nat), (∀ x ∈ xs, (f x).length = c) → (xs.flatMap f)[k]? = (xs[k / c]?).bind fun x => (f x)[k % c]?
  | [], k, _ => by simp
  | x :: xs, k, h => by
    rw [List.flatMap_cons]
    by_cases hk : k < c
    · rw [List.getElem?_append_left (by rw [h x (.head _)]; exact hk), Nat.div_eq_of_lt hk, Nat.mod_eq_of_lt hk]; rfl
    · have hk : c ≤ k := by omega
      rw [List.getElem?_append_right (by rw [h x (.head _)]; exact hk), h x (.head _), flat_get f c hc xs (k - c) fun y hy => h y (.tail _ hy)]
      have e1 : k / c = (k - c) / c + 1 := by rw [← Nat.sub_add_cancel hk, Nat.add_div_right _ hc]; simp
      have e2 : (k - c) % c = k % c := (Nat.mod_eq_sub_mod hk).symm
      rw [e1, e2, List.getElem?_cons_succ]
theorem allL_get {p : Int} (hp : 0 < p) : ∀ (m k : Nat), k < p.toNat ^ m → (allL p m)[k]? = some (dg p k m)
  | 0, k, h => by simp at h; subst h; rfl
  | m + 1, k, h => by
    have hp' : 0 < p.toNat := by omega
    rw [allL, flat_get _ p.toNat hp' _ _ fun x _ => more_len p x]
    have : k / p.toNat < p.toNat ^ m := Nat.div_lt_of_lt_mul (by rw [Nat.mul_comm, ← Nat.pow_succ]; exact h)
    rw [allL_get hp m _ this]
    have e1 : ((k / p.toNat : Nat) : Int) = (k : Int) / p := by rw [Int.natCast_ediv, Int.toNat_of_nonneg (by omega)]
    have e2 : ((k % p.toNat : Nat) : Int) = (k : Int) % p := by rw [Int.natCast_emod, Int.toNat_of_nonneg (by omega)]
    have hm := Nat.mod_lt k hp'
    simp only [Option.bind_some, more, List.getElem?_map, List.getElem?_range hm, Option.map_some]
    rw [dg_rev p hp, e1]
    congr 3
theorem r34 (n : Nat) (S : Store) {p m num : Int} (hp : PR p) (h0 : 0 ≤ m) (h8 : m ≤ 8) : sh (n + 1) 34 [.int p, .int m, .int num] S = .ok (vec (dg p num m.toNat)) S := by
  rw [sh_34]
  have hp7 := pr7 hp
  have hp0 := pr0 hp
  have hd : divOk p = true := by simp [divOk, hp0]; exact Nat.lt_of_le_of_lt (show p.natAbs ≤ 8 by omega) (by decide +kernel)
  simp only [s34, ob_some, bind_ok2, ofE_ok, r1Of, sm_ok h0 (by omega), guardO, List.length_nil, Nat.zero_le, decide_true]
  refine st_loop (J := fun i σ S' => S' = S ∧ ∃ o, σ = [some (.int p), some (.int m), some (.int (num / p ^ i)), some (vec (dg p num i)), o]) ⟨rfl, none, by simp [dg, vec]⟩ ?_ ?_
  · rintro i x σ S' hx ⟨rfl, o, rfl⟩
    obtain ⟨rfl, hi⟩ := rng_get hx
    refine ⟨_, _, ?_, rfl, some (.int i), rfl⟩
    have l : (dg p num i).length + 1 ≤ LIM := by rw [dg_len]; exact Nat.le_trans (show i + 1 ≤ 9 by omega) (by decide)
    have q : num / p ^ (i + 1) = num / p ^ i / p := by
      rw [Int.pow_succ, Int.ediv_ediv_of_nonneg (Int.pow_nonneg (Int.le_of_lt hp0))]
    have l' : 1 + (dg p num i).length ≤ LIM := by omega
    simp [s34_l0, look, List.set, bfun, binop, hp0, guardO, hd, show 1 ≤ LIM by decide, vec, l', dg, q]
  · rintro σ S' ⟨rfl, o, rfl⟩
    simp [look, rng_len]
/-- what undoes a rest -/
theorem r13 (n : Nat) (S : Store) {p r : Int} (hp : PR p) (h1 : 1 ≤ r) (h2 : r < p) : ∃ t : Int, sh (n + 2) 13 [.int p, .int r] S = .ok (.int t) S ∧ 0 < t ∧ t < p ∧ (t * r) % p = 1 := by
  have hp7 := pr7 hp
  have hp0 := pr0 hp
  have core : ∀ t : Int, ((rangeL 1 (p - 1).toNat).filterMap (fun x => match x with | .int i => if (i * r) % p = 1 then some x else none | _ => none))[0]? = some (.int t) → 0 < t ∧ t < p ∧ (t * r) % p = 1 → 
      ((rangeL 1 (p - 1).toNat).filterMap (fun x => match x with | .int i => if (i * r) % p = 1 then some x else none | _ => none)).length ≤ 8 → ∃ t : Int, sh (n + 2) 13 [.int p, .int r] S = .ok (.int t) S ∧ 0 < t ∧ t < p ∧ (t * r) % p = 1 := by
    intro t e q l
    refine ⟨t, ?_, q⟩
    rw [sh_13]
    have s2 : (small 1 && small p) = true := by simp [small]; omega
    simp only [s13, r2Of, s2, guardO, ob_some]
    rw [loopC_fmap (f := fun x => match x with | .int i => if (i * r) % p = 1 then some x else none | _ => none)]
    · simp only [noExc_ok, okb', lim8 l, decide_true, ix0 S e, ob_some, ofE_ok, endF_rt]
    · intro z hz
      obtain ⟨i, rfl, _, _⟩ := rng_mem _ _ _ hz
      have mo : mulOk i r = true := mulOk_r (by omega)
      simp only [binop, mo, guardO, ob_some, r11 n S hp0, okb', cmp_eqI]
      by_cases h : i * r % p = 1 <;> simp [h]
  rcases hp with rfl | rfl | rfl | rfl
  · obtain rfl : r = 1 := by omega
    exact core 1 rfl (by decide) (by decide)
  · obtain rfl | rfl : r = 1 ∨ r = 2 := by omega
    · exact core 1 rfl (by decide) (by decide)
    · exact core 2 rfl (by decide) (by decide)
  · obtain rfl | rfl | rfl | rfl : r = 1 ∨ r = 2 ∨ r = 3 ∨ r = 4 := by omega
    · exact core 1 rfl (by decide) (by decide)
    · exact core 3 rfl (by decide) (by decide)
    · exact core 2 rfl (by decide) (by decide)
    · exact core 4 rfl (by decide) (by decide)
  · obtain rfl | rfl | rfl | rfl | rfl | rfl : r = 1 ∨ r = 2 ∨ r = 3 ∨ r = 4 ∨ r = 5 ∨ r = 6 := by omega
    · exact core 1 rfl (by decide) (by decide)
    · exact core 4 rfl (by decide) (by decide)
    · exact core 5 rfl (by decide) (by decide)
    · exact core 2 rfl (by decide) (by decide)
    · exact core 3 rfl (by decide) (by decide)
    · exact core 6 rfl (by decide) (by decide)
theorem r14 (n : Nat) (S : Store) {p r : Int} (hp : PR p) (h1 : 1 ≤ r) (h2 : r < p) : ∃ t : Int, sh (n + 4) 14 [.int p, .int r] S = .ok (.int t) S ∧ 0 < t ∧ t < p ∧ (t * r) % p = 1 := by
  obtain ⟨t, e, q⟩ := r13 (n + 1) S hp h1 h2
  refine ⟨t, ?_, q⟩
  have ew : isW 1 (p - 1) (.int r) = true := by simp [isW]; omega
  rw [sh_14]
  simp [s14, r9 n S hp, binop, r0 (n + 2) S (v := .int r) rfl, ew, e]
end Xk00

end
section
set_option Elab.async false
set_option linter.all false
set_option maxRecDepth 100000
set_option maxHeartbeats 2000000
namespace Xk00
open PySem Zv
theorem small_big {k : Nat} (h : k ≤ 10 ^ 30) : k < BIGB := Nat.lt_of_le_of_lt h (by decide +kernel)
theorem cut_mem {α : Type} {xs : List α} {l h : Option Int} : ∀ x ∈ cut xs l h, x ∈ xs := fun x hx => List.mem_of_mem_drop (List.mem_of_mem_take hx)
theorem cut_len {α : Type} (xs : List α) (l h : Option Int) : (cut xs l h).length ≤ xs.length := by
  simp only [cut, List.length_take, List.length_drop]; omega
/-- whether a value is a vector, said otherwise -/
def badF (p : Int) (z : PV) : Option PV := if isW 0 (p - 1) z = true then none else some (.int 1)
theorem bad_data (p : Int) : ∀ zs : List PV, areData (zs.filterMap (badF p)) = true ∧ deeps (zs.filterMap (badF p)) = 0
  | [] => ⟨rfl, rfl⟩
  | z :: r => by
    have := bad_data p r
    by_cases h : isW 0 (p - 1) z = true <;> simp [badF, h, areData, deeps, PV.isData, PV.deep]
    · exact this
    · exact this
theorem bad_all (p : Int) : ∀ zs : List PV, (zs.filterMap (badF p)).isEmpty = zs.all (isW 0 (p - 1))
  | [] => rfl
  | z :: r => by
    have := bad_all p r
    cases h : isW 0 (p - 1) z <;> simp [badF, h]
    simpa [badF] using this
theorem isW_sort {lo hi : Int} {z : PV} (h : srt z ≠ 2) : isW lo hi z = false := by cases z <;> first | rfl | (simp [srt] at h)
theorem cmp_neI (a b : Int) (S : Store) : cmpop .NotEq (.int a) (.int b) S = some (!decide (a = b)) := rfl
theorem cmp_leI (a b : Int) (S : Store) : cmpop .LtE (.int a) (.int b) S = some (decide (a ≤ b)) := rfl
def lsts (f : PV → Bool) (vs : List PV) : List PV := vs.map fun v => .bl (f v)
theorem lsts_data (f : PV → Bool) : ∀ vs : List PV, areData (lsts f vs) = true ∧ deeps (lsts f vs) = 0
  | [] => ⟨rfl, rfl⟩
  | v :: r => by
    have := lsts_data f r
    simp only [lsts, List.map, areData, deeps, PV.isData, PV.deep] at *
    simp [this]
theorem vec_data (xs : List Int) : (vec xs).isData = true ∧ (vec xs).deep = 1 := by
  have : ∀ xs : List Int, areData (xs.map PV.int) = true ∧ deeps (xs.map PV.int) = 0 := by
    intro xs; induction xs with
    | nil => exact ⟨rfl, rfl⟩
    | cons x r ih => simp [areData, deeps, PV.isData, PV.deep, ih]
  simp [vec, PV.isData, PV.deep, this]
theorem head_data (xs : List Int) (i : Nat) : (headI i xs).isData = true ∧ (headI i xs).deep = 0 := by
  induction xs generalizing i with
  | nil => exact ⟨rfl, rfl⟩
  | cons x r ih => by_cases h : x = 0 <;> simp [headI, h, ih, PV.isData, PV.deep]
theorem r39 (n : Nat) {S : Store} (hS : Cup S) {p : Int} (hp : PR p) : ∃ S', sh (n + 10) 39 [.loc 0, .int p] S = .ok (.bl true) S' ∧ Cup S' := by
  have hp0 := pr0 hp
  have hp7 := pr7 hp
  have hp2 : 2 ≤ p := by rcases hp with rfl | rfl | rfl | rfl <;> decide
  obtain ⟨m, S1, e1, m0, m9, c1⟩ := r28 (n + 8) hS (m := 9) (by decide) (small_big (by decide))
  obtain ⟨r, S2, e2, r0', rp, c2⟩ := r28 (n + 8) c1 (m := p) hp0 (small_big (by omega))
  obtain ⟨xs, S3, e3, lx, hx, c3⟩ := r32 (n + 7) c2 hp m0 (by omega)
  obtain ⟨ys, S4, e4, ly, hy, c4⟩ := r32 (n + 7) c3 hp m0 (by omega)
  obtain ⟨o, S5, e5, o0, op, c5⟩ := r28 (n + 8) c4 (m := p - 1) (by omega) (small_big (by omega))
  obtain ⟨t, e6, t0, tp, tq⟩ := r14 (n + 5) S5 hp (r := 1 + o) (by omega) (by omega)
  obtain ⟨A, S6, e7, A0, A1, c6⟩ := r28 (n + 8) c5 (m := 1000000000) (by decide) (small_big (by decide))
  obtain ⟨B, S7, e8, B0, B1, c7⟩ := r28 (n + 8) c6 (m := 51) (by decide) (small_big (by decide))
  have e9 := r35 (n + 8) S7 (p := 10) (m := B) (by decide) (by decide) B0 (by omega)
  obtain ⟨C, S8, e10, C0, C1, c8⟩ := r28 (n + 8) c7 (m := 1000) (by decide) (small_big (by decide))
  obtain ⟨at', S9, e11, at0, at1, c9⟩ := r28 (n + 8) c8 (m := m + 1) (by omega) (small_big (by omega))
  obtain ⟨odd, S10, e12, hodd, c10⟩ := r29 (n + 7) c9 (xs := [.non, .bl true, .int p, .int (-1), .str "0", .tup [.int 0], .int (p - 1)]) (v := .lst [.non, .bl true, .int p, .int (-1), .str "0", .tup [.int 0], .int (p - 1)]) (.inr rfl) (by simp) (by simp; decide)
  have hoV : odd.isV = true := by
    simp only [List.mem_cons, List.not_mem_nil, or_false] at hodd
    rcases hodd with rfl | rfl | rfl | rfl | rfl | rfl | rfl <;> rfl
  refine ⟨S10, ?_, c10⟩
  have hx8 : xs.length ≤ 8 := by omega
  have hy8 : ys.length ≤ 8 := by omega
  have hL : ∀ k : Nat, k ≤ 100 → decide (k ≤ LIM) = true := fun k hk => decide_eq_true (Nat.le_trans hk (by decide))
  rw [sh_39]
  refine st_ofE (a := .tup [.int m, .int r]) (S := S2) (by simp [e1, e2, hL 2]) ?_
  refine st_ofE (a := [some (.loc 0), some (.int p), none, none, none, some (.int m), some (.int r), none, none, none, none, none, none, none, none, none]) (S := S2) rfl ?_
  refine st_ofE (a := [vec xs, vec ys]) (S := S4) (by simp [look, e3, e4]) ?_
  refine st_ofE (a := [some (.loc 0), some (.int p), none, none, none, some (.int m), some (.int r), some (vec xs), some (vec ys), none, none, none, none, none, none, none]) (S := S4) rfl ?_
  -- what is due
  have hsum := sumL_le p xs ys
  refine st_ofE (a := .lst [vec (sumL p xs ys), vec (xs.map fun x => (r * x) % p)]) (S := S4) ?_ ?_
  · simp only [look, ob_some, vec, itOf, List.append_nil]
    rw [loopC_map (f := sumF p)]
    · rw [zip_sum]
      simp only [noExc_ok, okb', List.length_map, hL (sumL p xs ys).length (by omega), bfun, itemsOf, seqOf, ob_some]
      rw [loopC_map (f := timF p r)]
      · simp [hL xs.length (by omega), hL 2, Function.comp_def, timF]
      · intro z hz
        obtain ⟨a, _, rfl⟩ := List.mem_map.mp hz
        have : mulOk r a = true := by simp [mulOk]; omega
        simp [look, wipeE, List.set, binop, this, guardO, bfun, hp0, timF]
    · intro z hz
      obtain ⟨a, b, rfl⟩ := zip_mem xs ys z hz
      simp [look, wipeE, List.set, binop, bfun, hp0, guardO, sumF]
  refine st_ofE (a := [some (.loc 0), some (.int p), some (.lst [vec (sumL p xs ys), vec (xs.map fun x => (r * x) % p)]), none, none, some (.int m), some (.int r), some (vec xs), some (vec ys), none, none, none, none, none, none, none]) (S := S4) rfl ?_
  refine st_ofE (a := .bl false) (S := S4) ?_ ?_
  · have q1 := r21 (n + 4) S4 hp hx8 hx (by omega : ys.length = xs.length) hy
    have q2 := r22 (n + 4) S4 hp r0' rp hx8 hx
    have q3 := r24 (n + 4) S4 hp hx8 hx
    have q4 := r15 (n + 5) S4 hp m0 (by omega) (v := vec xs) rfl (fun zs e => by cases e; exact ⟨by simp; exact lim8 hx8, ints_isV xs⟩)
    have w : areW m 0 (p - 1) (vec xs) = true := by simp only [areW, vec, ints_W hx]; simp; omega
    rw [w] at q4
    have q5 := r36 (n + 8) S4 hx8
    have dat : (PV.lst [vec (sumL p xs ys), vec (xs.map fun x => (r * x) % p), headI 0 xs, .bl true]).isData = true := by
      simp [PV.isData, areData, (vec_data _).1, (head_data _ _).1]
    have dep : (PV.lst [vec (sumL p xs ys), vec (xs.map fun x => (r * x) % p), headI 0 xs, .bl true]).deep ≤ 2 := by
      simp [PV.deep, deeps, (vec_data _).2, (head_data _ _).2]
    have q6 := r31 2 (n + 5) S4 dat dep (by decide)
    simp [look, q1, q2, q3, q4, q5, hL 4, hL 2, binop, seqOf, guardO, q6, show 2 + 2 ≤ LIM by decide]
  -- what undoes a rest, the rest of a number
  refine st_ofE (a := .int (1 + o)) (S := S5) (by simp [look, binop, e5]) ?_
  refine st_ofE (a := [some (.loc 0), some (.int p), some (.lst [vec (sumL p xs ys), vec (xs.map fun x => (r * x) % p)]), some (.int (1 + o)), none, some (.int m), some (.int r), some (vec xs), some (vec ys), none, none, none, none, none, none, none]) (S := S5) rfl ?_
  have hnum : ((A - 500000000) * 10 ^ B.toNat).natAbs ≤ 500000000 * 10 ^ 50 := by
    rw [Int.natAbs_mul]
    refine Nat.mul_le_mul (by omega) ?_
    rw [Int.natAbs_pow]
    exact Nat.pow_le_pow_right (by decide) (by omega)
  generalize hN : (A - 500000000) * 10 ^ B.toNat = N at hnum
  have mo1 : mulOk (A - 500000000) (10 ^ B.toNat) = true := by simp [mulOk]; omega
  refine st_ofE (a := [.int t, .int (N + C)]) (S := S8) ?_ ?_
  · have b1 : binop .Pow (.int 10) (.int 9) S5 = some (.int 1000000000) := rfl
    have b2 : binop .Pow (.int 10) (.int 8) S6 = some (.int 100000000) := rfl
    have b3 : binop .Mult (.int 5) (.int 100000000) S6 = some (.int 500000000) := rfl
    have b4 : binop .Sub (.int A) (.int 500000000) S6 = some (.int (A - 500000000)) := rfl
    have b5 : binop .Mult (.int (A - 500000000)) (.int (10 ^ B.toNat)) S7 = some (.int N) := by simp only [binop, mo1, guardO, hN]
    have b6 : binop .Add (.int N) (.int C) S8 = some (.int (N + C)) := rfl
    simp [look, e6, b1, b2, b3, b4, b5, b6, e7, e8, e9, e10]
  refine st_ofE (a := [some (.loc 0), some (.int p), some (.lst [vec (sumL p xs ys), vec (xs.map fun x => (r * x) % p)]), some (.int (1 + o)), none, some (.int m), some (.int r), some (vec xs), some (vec ys), some (.int t), some (.int (N + C)), none, none, none, none, none]) (S := S8) rfl ?_
  refine st_ofE (a := .bl false) (S := S8) ?_ ?_
  · have s1 := r30 (n + 8) S8 (v := .int t) rfl
    have s2 := r12 (n + 5) S8 hp (i := N + C) (by omega) (by omega)
    have s3 := r31 0 (n + 7) S8 (v := .int ((N + C) % p)) rfl (by simp [PV.deep]) (by decide)
    have mo2 : mulOk t (1 + o) = true := by simp [mulOk]; omega
    simp [look, s1, srt, cmp_neI, cmp_ltI, t0, tp, binop, mo2, guardO, bfun, hp0, tq, s2, s3]
  -- values near a vector
  refine st_ofE (a := [.int at', odd]) (S := S10) (by simp [look, binop, e11, negOf, hL 1, hL 7, e12]) ?_
  refine st_ofE (a := [some (.loc 0), some (.int p), some (.lst [vec (sumL p xs ys), vec (xs.map fun x => (r * x) % p)]), some (.int (1 + o)), none, some (.int m), some (.int r), some (vec xs), some (vec ys), some (.int t), some (.int (N + C)), some (.int at'), some odd, none, none, none]) (S := S10) rfl ?_
  let vA : PV := .tup ((cut (xs.map .int) none (some at') ++ [odd]) ++ cut (xs.map .int) (some at') none)
  let vB : PV := .tup ((cut (xs.map .int) none (some at') ++ [odd]) ++ cut (xs.map .int) (some (at' + 1)) none)
  have l1 := cut_len (xs.map PV.int) none (some at')
  have l2 := cut_len (xs.map PV.int) (some at') none
  have l3 := cut_len (xs.map PV.int) (some (at' + 1)) none
  have lL : LIM = 100000 := rfl
  rw [List.length_map] at l1 l2 l3
  refine st_ofE (a := .lst [vA, vB, .lst (xs.map .int), .tup (xs.map .int ++ xs.map .int)]) (S := S10) ?_ ?_
  · have b1 : binop .Add (.tup (cut (xs.map .int) none (some at'))) (.tup [odd]) S10 = some (.tup (cut (xs.map .int) none (some at') ++ [odd])) := by
      simp only [binop, guardO, List.length_cons, List.length_nil]
      rw [decide_eq_true (by omega)]
    have b2 : binop .Add (.tup (cut (xs.map .int) none (some at') ++ [odd])) (.tup (cut (xs.map .int) (some at') none)) S10 = some vA := by
      simp only [binop, guardO, List.length_append, List.length_cons, List.length_nil]
      rw [decide_eq_true (by omega)]
    have b3 : binop .Add (.tup (cut (xs.map .int) none (some at') ++ [odd])) (.tup (cut (xs.map .int) (some (at' + 1)) none)) S10 = some vB := by
      simp only [binop, guardO, List.length_append, List.length_cons, List.length_nil]
      rw [decide_eq_true (by omega)]
    have b4 : binop .Add (vec xs) (vec xs) S10 = some (.tup (xs.map .int ++ xs.map .int)) := by
      simp only [vec, binop, guardO, List.length_map]
      rw [decide_eq_true (by omega)]
    have b5 : binop .Add (.int at') (.int 1) S10 = some (.int (at' + 1)) := rfl
    have b6 : ∀ l h, slOf S10 (vec xs) l h = some (.tup (cut (xs.map .int) l h)) := fun _ _ => rfl
    have b7 : bfun .list [vec xs] S10 = some (.lst (xs.map .int)) := rfl
    have b8 : ∀ i, intOf (.int i) = some i := fun _ => rfl
    simp only [look, b1, b2, b3, b4, b5, b6, b7, b8, ob_some, List.length_cons, List.length_nil, hL 1 (by decide), hL 4 (by decide), Nat.zero_add, show 1 + 1 + 1 + 1 = 4 from rfl]
  refine st_ofE (a := [some (.loc 0), some (.int p), some (.lst [vec (sumL p xs ys), vec (xs.map fun x => (r * x) % p)]), some (.int (1 + o)), some (.lst [vA, vB, .lst (xs.map .int), .tup (xs.map .int ++ xs.map .int)]), some (.int m), some (.int r), some (vec xs), some (vec ys), some (.int t), some (.int (N + C)), some (.int at'), some odd, none, none, none]) (S := S10) rfl ?_
  have hvals : ∀ v ∈ [vA, vB, .lst (xs.map .int), .tup (xs.map .int ++ xs.map .int)], v.isV = true ∧ ∃ zs : List PV, (v = .tup zs ∨ v = .lst zs) ∧ zs.length ≤ LIM ∧ ∀ z ∈ zs, z.isV = true := by
    have cm : ∀ (l h : Option Int), ∀ z ∈ cut (xs.map PV.int) l h, z.isV = true := fun l h z hz => ints_isV xs z (cut_mem z hz)
    intro v hv
    simp only [List.mem_cons, List.not_mem_nil, or_false] at hv
    rcases hv with rfl | rfl | rfl | rfl
    · refine ⟨rfl, _, .inl rfl, by simp only [List.length_append, List.length_cons, List.length_nil]; omega, fun z hz => ?_⟩
      simp only [List.mem_append, List.mem_cons, List.not_mem_nil, or_false] at hz
      rcases hz with (hz | rfl) | hz
      · exact cm _ _ z hz
      · exact hoV
      · exact cm _ _ z hz
    · refine ⟨rfl, _, .inl rfl, by simp only [List.length_append, List.length_cons, List.length_nil]; omega, fun z hz => ?_⟩
      simp only [List.mem_append, List.mem_cons, List.not_mem_nil, or_false] at hz
      rcases hz with (hz | rfl) | hz
      · exact cm _ _ z hz
      · exact hoV
      · exact cm _ _ z hz
    · exact ⟨rfl, _, .inr rfl, by rw [List.length_map]; omega, ints_isV xs⟩
    · refine ⟨rfl, _, .inl rfl, by simp only [List.length_append, List.length_map]; omega, fun z hz => ?_⟩
      rcases List.mem_append.mp hz with hz | hz <;> exact ints_isV xs z hz
  have hvl : [vA, vB, .lst (xs.map .int), .tup (xs.map .int ++ xs.map .int)].length ≤ LIM := by simp; decide
  generalize [vA, vB, .lst (xs.map .int), .tup (xs.map .int ++ xs.map .int)] = vals at hvals hvl
  have hll : (lsts (areW m 0 (p - 1)) vals).length ≤ LIM := by simpa [lsts] using hvl
  refine st_ofE (a := .lst (lsts (areW m 0 (p - 1)) vals)) (S := S10) ?_ ?_
  · simp only [look, ob_some, itOf]
    rw [loopC_map (f := fun v => .bl (areW m 0 (p - 1) v))]
    · simp only [noExc_ok, okb', List.length_map, decide_eq_true hvl, lsts]
    · intro v hv
      obtain ⟨hV, zs, q, zl, hz⟩ := hvals v hv
      have s1 := r30 (n + 8) S10 hV
      rcases q with rfl | rfl
      · have s2 : bfun .len [.tup zs] S10 = some (.int zs.length) := rfl
        by_cases hm : (zs.length : Int) = m
        · have hw : areW m 0 (p - 1) (.tup zs) = zs.all (isW 0 (p - 1)) := by simp [areW, hm]
          simp only [look, wipeE, List.set, ob_some, s1, okb', srt, cmp_eqI, decide_true, s2, hm, itOf, bind_ok2]
          rw [loopC_fmap (f := badF p)]
          · obtain ⟨d1, d2⟩ := bad_data p zs
            have : (zs.filterMap (badF p)).length ≤ LIM := Nat.le_trans (List.length_filterMap_le _ _) zl
            simp only [noExc_ok, okb', decide_eq_true this, List.length_nil, Nat.zero_le, decide_true, eq_nil _ _ d1 (by omega : deeps (zs.filterMap (badF p)) ≤ 59), ob_some, bad_all, hw]
          · intro z hz'
            have z1 := r30 (n + 8) S10 (hz z hz')
            simp only [look, ob_some, z1, okb', cmp_neI]
            by_cases h2 : srt z = 2
            · cases z <;> first | (simp [srt] at h2; done) | skip
              rename_i i
              simp only [srt, decide_true, Bool.not_true, cmp_leI, badF, isW]
              by_cases h3 : 0 ≤ i
              · by_cases h4 : i < p
                · simp [h3, h4, cmp_ltI, show i ≤ p - 1 by omega]
                · simp [h3, h4, cmp_ltI, show ¬ i ≤ p - 1 by omega]
              · simp [h3]
            · simp [h2, badF, isW_sort h2]
        · have hw : areW m 0 (p - 1) (.tup zs) = false := by
            have : ¬ (m ≤ (zs.length : Int) ∧ (zs.length : Int) ≤ m) := by omega
            simp only [areW, Bool.and_eq_false_imp]
            intro h; simp at h; omega
          simp only [look, wipeE, List.set, ob_some, s1, okb', srt, cmp_eqI, decide_true, s2, hm, decide_false, bind_ok2, hw]
      · simp [look, wipeE, List.set, s1, srt, cmp_eqI, areW]
  refine st_ofE (a := [some (.loc 0), some (.int p), some (.lst (lsts (areW m 0 (p - 1)) vals)), some (.int (1 + o)), some (.lst vals), some (.int m), some (.int r), some (vec xs), some (vec ys), some (.int t), some (.int (N + C)), some (.int at'), some odd, none, none, none]) (S := S10) rfl ?_
  refine st_ofE (a := .bl true) (S := S10) ?_ (endF_cup hS c10 _ _)
  simp only [look, ob_some, itOf]
  rw [loopC_map (f := fun v => .bl (areW m 0 (p - 1) v))]
  · have hl : (List.map (fun v => PV.bl (areW m 0 (p - 1) v)) vals).length ≤ LIM := hll
    obtain ⟨d1, d2⟩ := lsts_data (areW m 0 (p - 1)) vals
    have e := r31 1 (n + 6) S10 (v := .lst (lsts (areW m 0 (p - 1)) vals)) (by simpa [PV.isData] using d1) (by simp [PV.deep, d2]) (by decide)
    simp only [noExc_ok, okb', decide_eq_true hl]
    exact (bind_ok' _).trans e
  · intro v hv
    obtain ⟨hV, zs, q, zl, hz⟩ := hvals v hv
    have e := r15 (n + 5) S10 hp m0 (by omega) hV (fun ws he => by
      rcases q with rfl | rfl
      · cases he; exact ⟨zl, hz⟩
      · cases he)
    simp only [look, wipeE, List.set, ob_some]
    exact st_bind e rfl
end Xk00

end
section
set_option Elab.async false
set_option linter.all false
set_option maxRecDepth 100000
set_option maxHeartbeats 2000000
namespace Xk00
open PySem Zv
theorem loopC_nones {step : PV → Store → Out (Option PV)} (I : Store → Prop) : ∀ (xs : List PV) (S : Store), I S →
    (∀ x ∈ xs, ∀ S, I S → ∃ S', step x S = .ok none S' ∧ I S') → ∃ S', loopC step [] xs S = .ok [] S' ∧ I S'
  | [], S, hS, _ => ⟨S, rfl, hS⟩
  | x :: xs, S, hS, h => by
    obtain ⟨S1, e1, i1⟩ := h x (.head _) S hS
    obtain ⟨S2, e2, i2⟩ := loopC_nones I xs S1 i1 fun y hy => h y (.tail _ hy)
    exact ⟨S2, by simp only [loopC, okG, e1, e2, Out.bind], i2⟩
theorem vecs_data : ∀ rows : List (List Int), areData (vecs rows) = true ∧ deeps (vecs rows) ≤ 1
  | [] => ⟨rfl, by decide⟩
  | r :: rs => by
    have h := vecs_data rs
    have h2 := vec_data r
    simp only [vecs, List.map, areData, deeps] at *
    simp [h, h2]
theorem dg_zero (p : Int) : ∀ m, dg p 0 m = List.replicate m 0
  | 0 => rfl
  | m + 1 => by simp [dg, dg_zero p m, List.replicate_succ]
theorem top_lt {p : Int} (hp : 0 < p) (m : Nat) : 0 < p ^ m := Int.pow_pos hp
theorem dg_top {p : Int} (hp : 0 < p) : ∀ (m j : Nat), m ≤ j → dg p (p ^ j - 1) m = List.replicate m (p - 1)
  | 0, _, _ => rfl
  | m + 1, j, h => by
    simp only [dg, List.replicate_succ, dg_top hp m j (by omega)]
    congr 1
    obtain ⟨d, rfl⟩ : ∃ d, j = m + 1 + d := ⟨j - (m + 1), by omega⟩
    have e : p ^ (m + 1 + d) - 1 = (p ^ m - 1) + p ^ m * (p ^ (d + 1) - 1) := by
      rw [Int.mul_sub, ← Int.pow_add, show m + (d + 1) = m + 1 + d by omega]; omega
    have hm := top_lt hp m
    rw [e, Int.add_mul_ediv_left _ _ (by omega), Int.ediv_eq_zero_of_lt (by omega) (by omega), Int.zero_add]
    have e2 : p ^ (d + 1) - 1 = (p - 1) + p * (p ^ d - 1) := by
      rw [Int.mul_sub, ← Int.pow_succ']; omega
    rw [e2, Int.add_mul_emod_self_left, Int.emod_eq_of_lt (by omega) (by omega)]
theorem rep_one (v : PV) : ∀ k, rep [v] k = List.replicate k v
  | 0 => rfl
  | k + 1 => by simp [rep, rep_one v k, List.replicate_succ]
theorem r40 (n : Nat) {S : Store} (hS : Cup S) {p : Int} (hp : PR p) : ∃ S', sh (n + 10) 40 [.loc 0, .int p] S = .ok (.bl true) S' ∧ Cup S' := by
  have hL : ∀ k : Nat, k ≤ 100 → decide (k ≤ LIM) = true := fun k hk => decide_eq_true (Nat.le_trans hk (by decide))
  obtain ⟨most, em, h1, h2, h3⟩ : ∃ most : Int, dixOf [(2, 9), (3, 6), (5, 4), (7, 4)] (.int p) = some (.int most) ∧ 0 < most ∧ most ≤ 9 ∧ ∀ k : Nat, (k : Int) < most → p.toNat ^ k ≤ 20000 := by
    rcases hp with rfl | rfl | rfl | rfl
    · exact ⟨9, rfl, by decide, by decide, fun k hk => Nat.le_trans (Nat.pow_le_pow_right (by decide) (show k ≤ 8 by omega)) (by decide)⟩
    · exact ⟨6, rfl, by decide, by decide, fun k hk => Nat.le_trans (Nat.pow_le_pow_right (by decide) (show k ≤ 5 by omega)) (by decide)⟩
    · exact ⟨4, rfl, by decide, by decide, fun k hk => Nat.le_trans (Nat.pow_le_pow_right (by decide) (show k ≤ 3 by omega)) (by decide)⟩
    · exact ⟨4, rfl, by decide, by decide, fun k hk => Nat.le_trans (Nat.pow_le_pow_right (by decide) (show k ≤ 3 by omega)) (by decide)⟩
  obtain ⟨m, S1, e1, m0, mm, c1⟩ := r28 (n + 8) hS (m := most) h1 (small_big (by omega))
  have hl := h3 m.toNat (by omega)
  obtain ⟨pm, S2, e2, hpm, c2⟩ := r29 (n + 7) c1 (xs := [.tup [.int 2, .int 8], .tup [.int 3, .int 8], .tup [.int 5, .int 6], .tup [.int 7, .int 5]]) (v := .lst [.tup [.int 2, .int 8], .tup [.int 3, .int 8], .tup [.int 5, .int 6], .tup [.int 7, .int 5]]) (.inr rfl) (by simp) (by simp; decide)
  obtain ⟨q, k, rfl, hq, k0, k8, kl⟩ : ∃ q k : Int, pm = .tup [.int q, .int k] ∧ PR q ∧ 1 ≤ k ∧ k ≤ 8 ∧ q.toNat ^ k.toNat ≤ 20000 := by
    simp only [List.mem_cons, List.not_mem_nil, or_false] at hpm
    rcases hpm with rfl | rfl | rfl | rfl
    · exact ⟨2, 8, rfl, .inl rfl, by decide, by decide, by decide⟩
    · exact ⟨3, 8, rfl, .inr (.inl rfl), by decide, by decide, by decide⟩
    · exact ⟨5, 6, rfl, .inr (.inr (.inl rfl)), by decide, by decide, by decide⟩
    · exact ⟨7, 5, rfl, .inr (.inr (.inr rfl)), by decide, by decide, by decide⟩
  have hq0 := pr0 hq
  have hq7 := pr7 hq
  have hcast : ((q.toNat ^ k.toNat : Nat) : Int) = q ^ k.toNat := by
    rw [Int.natCast_pow, Int.toNat_of_nonneg (by omega)]
  have hpos : 0 < q ^ k.toNat := Int.pow_pos hq0
  obtain ⟨at', S3, e3, a0, a1, c3⟩ := r28 (n + 8) c2 (m := q ^ k.toNat) hpos (small_big (by omega))
  refine ⟨S3, ?_, c3⟩
  rw [sh_40]
  refine st_ofE (a := .int m) (S := S1) (by simp [em, e1]) ?_
  refine st_ofE (a := .bl false) (S := S1) ?_ ?_
  · have q1 := r26 (n + 5) S1 hp m0 (by omega) hl
    have q2 := r33 (n + 8) S1 hp m0 (by omega) hl
    obtain ⟨d1, d2⟩ := vecs_data (allL p m.toNat)
    have q3 := r31 2 (n + 5) S1 (v := .tup (vecs (allL p m.toNat))) (by simpa [PV.isData] using d1) (by simp [PV.deep]; omega) (by decide)
    simp [q1, q2, q3]
  refine st_ofE (a := .tup [.int q, .int k]) (S := S2) (by simp [hL 2, hL 4, e2]) ?_
  refine st_ofE (a := [some (.loc 0), some (.int q), some (.int k), none, none]) (S := S2) rfl ?_
  have s1 := r26 (n + 5) S2 hq (by omega) k8 kl
  have s2 := r35 (n + 8) S2 (p := q) (m := k) (by omega) (by omega) (by omega) (by omega)
  have s3 := r35 (n + 8) S3 (p := q) (m := k) (by omega) (by omega) (by omega) (by omega)
  generalize hrows : allL q k.toNat = rows at s1
  have hlen : rows.length = q.toNat ^ k.toNat := by rw [← hrows, allL_len]
  refine st_ofE (a := [.tup (vecs rows), .int at']) (S := S3) (by simp [look, s1, s2, e3]) ?_
  refine st_ofE (a := [some (.loc 0), some (.int q), some (.int k), some (.tup (vecs rows)), some (.int at')]) (S := S3) rfl ?_
  refine st_ofE (a := .bl false) (S := S3) ?_ ?_
  · have t1 := r30 (n + 8) S3 (v := .tup (vecs rows)) rfl
    have t2 : bfun .len [.tup (vecs rows)] S3 = some (.int (q ^ k.toNat)) := by simp [bfun, itemsOf, vecs_len, hlen, hcast]
    simp [look, t1, srt, cmp_neI, t2, s3]
  refine st_ofE (a := .bl true) (S := S3) ?_ (endF_cup hS c3 _ _)
  have get : ∀ j : Nat, j < q.toNat ^ k.toNat → (vecs rows)[j]? = some (vec (dg q j k.toNat)) := by
    intro j hj
    rw [vecs, ← hrows, List.getElem?_map, allL_get hq0 _ _ hj]; rfl
  have i1 : ixOf S3 (.tup (vecs rows)) (.int at') = some (vec (dg q at' k.toNat)) := by
    have := get at'.toNat (by omega)
    simp only [ixOf, itemsOf, vecs_len, hlen, at_ok a0 (show at' < ((q.toNat ^ k.toNat : Nat) : Int) by omega), this]
    rw [Int.toNat_of_nonneg a0]
  have i2 : ixOf S3 (.tup (vecs rows)) (.int 0) = some (vec (List.replicate k.toNat 0)) := by
    have := get 0 (by omega)
    simp only [ixOf, itemsOf, vecs_len, hlen, at_ok (Int.le_refl 0) (show (0 : Int) < ((q.toNat ^ k.toNat : Nat) : Int) by omega)]
    simpa [dg_zero] using this
  have i3 : ixOf S3 (.tup (vecs rows)) (.int (-1)) = some (vec (List.replicate k.toNat (q - 1))) := by
    have := get (q.toNat ^ k.toNat - 1) (by omega)
    have e : ((q.toNat ^ k.toNat - 1 : Nat) : Int) = q ^ k.toNat - 1 := by omega
    rw [e, dg_top hq0 _ _ (Nat.le_refl _)] at this
    have e2 : at_ (vecs rows).length (-1) = some (q.toNat ^ k.toNat - 1) := by
      simp only [at_, vecs_len, hlen]
      rw [decide_eq_false (by decide), ]
      simp only []
      rw [decide_eq_true (show (0 : Int) ≤ -1 + ((q.toNat ^ k.toNat : Nat) : Int) by omega)]
      simp only []
      congr 1; omega
    simp only [ixOf, itemsOf, e2, this]
  have j1 := r34 (n + 8) S3 (num := at') hq (show 0 ≤ k by omega) k8
  have z1 : binop .Mult (.tup [.int 0]) (.int k) S3 = some (vec (List.replicate k.toNat 0)) := by
    have : repOk 1 k = true := by simp [repOk, LIM]; omega
    simp only [binop, List.length_cons, List.length_nil, this, guardO, rep_one, vec]
    simp
  have z2 : binop .Mult (.tup [.int (q - 1)]) (.int k) S3 = some (vec (List.replicate k.toNat (q - 1))) := by
    have : repOk 1 k = true := by simp [repOk, LIM]; omega
    simp only [binop, List.length_cons, List.length_nil, this, guardO, rep_one, vec]
    simp
  have z3 : binop .Sub (.int q) (.int 1) S3 = some (.int (q - 1)) := rfl
  have w := r31 2 (n + 5) S3 (v := .lst [vec (dg q at' k.toNat), vec (List.replicate k.toNat 0), vec (List.replicate k.toNat (q - 1))])
    (by simp [PV.isData, areData, (vec_data _).1]) (by simp [PV.deep, deeps, (vec_data _).2]) (by decide)
  have z4 : negOf (.int 1) = some (.int (-1)) := rfl
  simp only [look, ob_some, i1, i2, z4, i3, List.length_cons, List.length_nil, hL 1 (by decide), hL 3 (by decide), Nat.zero_add, show 1 + 1 + 1 = 3 from rfl, j1, okb', z1, z2, z3]
  exact (bind_ok' _).trans w
theorem cup_clean (a b : Int) : cleans [.int a, .int b] = true := rfl
theorem r27 (n : Nat) (ns : List Int) (h63 : ns.length ≤ 63) : ∃ S, sh (n + 1) 27 [.scr ns] [] = .ok (.loc 0) S ∧ Cup S := by
  obtain ⟨c, hc⟩ : ∃ c : Int, ((ns.map PV.int ++ [.int 0])[0]?) = some (.int c) := by
    cases ns with
    | nil => exact ⟨0, rfl⟩
    | cons x r => exact ⟨x, rfl⟩
  have l1 : (ns.map PV.int).length + 1 ≤ LIM := by rw [List.length_map]; exact Nat.le_trans (show ns.length + 1 ≤ 64 by omega) (by decide)
  have b1 : binop .Add (.lst (ns.map .int)) (.lst [.int 0]) [] = some (.lst (ns.map .int ++ [.int 0])) := by
    simp only [binop, seqOf, guardO, List.length_cons, List.length_nil, Nat.zero_add, decide_eq_true l1]
  have hc' : 0 ≤ (if c < 0 then -c else c) := by split <;> omega
  generalize hA : (if c < 0 then -c else c) = cell at hc'
  have b2 : bfun .abs [.int c] [] = some (.int cell) := by simp only [bfun, hA]
  have b3 : binop .Pow (.int 10) (.int 18) [] = some (.int (10 ^ 18)) := rfl
  have b4 : cmpop .GtE (.int cell) (.int (10 ^ 18)) [] = some (decide (10 ^ 18 ≤ cell)) := rfl
  have b5 : binop .FloorDiv (.int cell) (.int 79) [] = some (.int (cell / 79)) := by
    have : divOk 79 = true := by simp [divOk]; decide +kernel
    simp only [binop, this, guardO]
  have b6 : binop .Mult (.int cell) (.int 283) [] = some (.int (cell * 283)) := by simp [binop, mulOk, guardO]
  have b0 : bfun .list [.scr ns] [] = some (.lst (ns.map .int)) := rfl
  have hd : decide (0 + 1 ≤ LIM) = true := by decide
  have hd2 : decide (0 + 1 + 1 ≤ LIM) = true := by decide
  have hb : bfun .int [.int (cell * 283 + 3907)] [] = some (.int (cell * 283 + 3907)) := rfl
  have b7 : binop .Add (.int (cell * 283)) (.int 3907) [] = some (.int (cell * 283 + 3907)) := rfl
  have b8 : binop .Mod (.int (cell * 283 + 3907)) (.int 2077503259) [] = some (.int ((cell * 283 + 3907) % 2077503259)) := rfl
  have b9 : binop .Add (.int ((cell * 283 + 3907) % 2077503259)) (.int 197) [] = some (.int ((cell * 283 + 3907) % 2077503259 + 197)) := rfl
  have m1 := Int.emod_nonneg (cell * 283 + 3907) (show (2077503259 : Int) ≠ 0 by decide)
  have m2 := Int.emod_lt_of_pos (cell * 283 + 3907) (show (0 : Int) < 2077503259 by decide)
  rw [sh_27]
  simp only [s27, b0, ob_some, List.length_cons, List.length_nil, hd, b1, ix0 [] hc, b2, ofE_ok, b3, b4]
  by_cases hh : 10 ^ 18 ≤ cell
  · refine ⟨[.l [.int (cell / 79), .int ((cell * 283 + 3907) % 2077503259 + 197)]], ?_, _, _, rfl, Int.ediv_nonneg hc' (by decide), by omega, by omega⟩
    simp only [decide_eq_true hh, b5, ob_some, okb', b6, b7, hb, b8, b9, hd2, cup_clean, ofE_ok]
    rfl
  · refine ⟨[.l [.int 0, .int ((cell * 283 + 3907) % 2077503259 + 197)]], ?_, _, _, rfl, by omega, by omega, by omega⟩
    simp only [decide_eq_false hh, ob_some, okb', b6, b7, hb, b8, b9, hd2, cup_clean, ofE_ok]
    rfl
theorem r37 : sh 38 37 [] [] = .ok (.bl true) [] := by kernel_rfl
theorem r38 : sh 38 38 [] [] = .ok (.bl true) [] := by kernel_rfl
theorem r41_in (n : Nat) {p : Int} (hp : PR p) (v0 : Option PV) (o2 : Option PV) {S : Store} (hS : Cup S) : ∃ S', s41_l0 (sh (n + 10)) (.int p) [v0, some (.loc 0), o2, none] S = .nx [v0, some (.loc 0), some (.int p), none] S' ∧ Cup S' := by
  obtain ⟨S', e, c⟩ := loopC_nones (step := fun x26 S27 => ob (look (List.set (wipeE [v0, some (.loc 0), some (.int p), none] [3]) 3 (some x26)) 1) fun v28 => ob (look (List.set (wipeE [v0, some (.loc 0), some (.int p), none] [3]) 3 (some x26)) 2) fun v29 => (sh (n + 10) 39 [v28, v29] S27 : Out PV).bind fun v30 S31 => ob (truth v30) fun v32 => match (!v32 : Bool) with | true => (ob (look (List.set (wipeE [v0, some (.loc 0), some (.int p), none] [3]) 3 (some x26)) 3) fun v33 => .ok (some v33) S31) | false => (.ok none S31)) Cup (rangeL 0 8) S hS (by
    intro x hx S hS
    obtain ⟨S', e, c⟩ := r39 n hS hp
    exact ⟨S', by simp [look, wipeE, List.set, e], c⟩)
  refine ⟨S', ?_, c⟩
  refine st_fin (a := [v0, some (.loc 0), some (.int p), none]) (S := S) rfl ?_
  refine st_fin (a := .bl false) (S := S') ?_ rfl
  have sm : r1Of (.int 8) = some (rangeL 0 8, []) := rfl
  simp only [sm, ob_some]
  refine st_bind (st_no e) ?_
  rfl
theorem r41 (ns : List Int) (h63 : ns.length ≤ 63) : ∃ S, sh 39 41 [.scr ns] [] = .ok (.bl true) S := by
  obtain ⟨S1, e1, c1⟩ := r27 37 ns h63
  obtain ⟨S2, e2, c2⟩ := r41_in 28 (.inl rfl : PR 2) (some (.scr ns)) none c1
  obtain ⟨S3, e3, c3⟩ := r41_in 28 (.inr (.inl rfl) : PR 3) (some (.scr ns)) (some (.int 2)) c2
  obtain ⟨S4, e4, c4⟩ := r41_in 28 (.inr (.inr (.inl rfl)) : PR 5) (some (.scr ns)) (some (.int 3)) c3
  obtain ⟨S5, e5, c5⟩ := r41_in 28 (.inr (.inr (.inr rfl)) : PR 7) (some (.scr ns)) (some (.int 5)) c4
  obtain ⟨pv, S6, e6, hpv, c6⟩ := r29 36 c5 (xs := [.int 2, .int 3, .int 5, .int 7]) (v := .lst [.int 2, .int 3, .int 5, .int 7]) (.inr rfl) (by simp) (by decide)
  obtain ⟨p, rfl, hp⟩ : ∃ p : Int, pv = .int p ∧ PR p := by
    simp only [List.mem_cons, List.not_mem_nil, or_false] at hpv
    rcases hpv with rfl | rfl | rfl | rfl
    · exact ⟨2, rfl, .inl rfl⟩
    · exact ⟨3, rfl, .inr (.inl rfl)⟩
    · exact ⟨5, rfl, .inr (.inr (.inl rfl))⟩
    · exact ⟨7, rfl, .inr (.inr (.inr rfl))⟩
  obtain ⟨S7, e7, c7⟩ := r40 28 c6 hp
  have hf : forL (s41_l0 (sh 38)) [] [.int 2, .int 3, .int 5, .int 7] [some (.scr ns), some (.loc 0), none, none] S1 = .nx [some (.scr ns), some (.loc 0), some (.int 7), none] S5 := by
    simp only [forL, okG, e2, e3, e4, e5, SOut.then_]
  have fr : endF false [] (.rt (.bl true) S7) = .ok (.bl true) (S7.take 0) := by
    obtain ⟨a, b, rfl, _⟩ := c7
    rfl
  refine ⟨S7.take 0, ?_⟩
  rw [sh_41]
  refine st_ofE (a := .bl false) (S := []) (by simp [r37, r38]) ?_
  refine st_ofE (a := .loc 0) (S := S1) ((bind_ok' _).trans e1) ?_
  refine st_ofE (a := ([.int 2, .int 3, .int 5, .int 7], [])) (S := S1) rfl ?_
  refine st_for (σ := [some (.scr ns), some (.loc 0), some (.int 7), none]) (S := S5) hf ?_
  refine st_ofE (a := .bl true) (S := S7) (R := .ok (.bl true) (S7.take 0)) ?_ fr
  have hd : decide (0 + 1 + 1 + 1 + 1 ≤ LIM) = true := by decide
  simp only [look, ob_some, List.length_cons, List.length_nil, hd, e6, okb']
  exact (bind_ok' _).trans e7

theorem law_true (ns : List Int) (h63 : ns.length ≤ 63) : ∃ S, sh 39 41 [.scr ns] [] = .ok (.bl true) S := r41 ns h63
end Xk00

end
set_option maxHeartbeats 0
namespace Zlaw
open PySem PySem.Spec PyProof.Rows L2 Zv Xk00
abbrev R : PySem.W.OpenRow := PySem.W.OpenLaw.row PySem.Challenge.rw_spacestold_k00_whole_rests_and_vectors
def defOf : Stmt → Option He.DefD
  | .FunctionDef n a b _ _ _ s _ _ _ => some ⟨(n, none), n, n, a, b, s, [], []⟩
  | _ => none
def fn : List He.DefD := R.prog.main.body.filterMap defOf
def L : Law := ⟨fn, tab, cs⟩
theorem chk : L.chk = true := by decide +kernel
abbrev fa : List He.Fa := faOf fn
abbrev hk : PySem.W.Hook := hookZ 4 fa fn cs
def ob (s : PySem.W.SharedT) : AlZ := obsZG 4 fa fn cs (HandSHeadRun.getT s)
theorem ob_eq (s : PySem.W.SharedT) : ob s = hk.obs s.abs := obsZG_eq (HandSHeadRun.getT_eq s)
def loose : List Str := (["SpaceError", "InvalidNumber", "InvalidPrime", "InvalidVector", "TooMany", "HIGH", "DIGITS", "is_whole", "need_whole", "is_tuple_of", "are_wholes", "is_ascending", "sort_of", "alike", "power", "PRIMES", "WIDE", "GREAT", "VECTORS", "is_prime", "need_prime", "need_many", "rest_in", "rest_of", "undone_in", "undone", "is_vector", "is_any_vector", "need_vector", "need_long"] : List Str) ++ (["sum_in", "times_in", "vector_sum", "vector_times", "head_in", "head_of", "all_in", "all_vectors", "_law_cup", "_law_roll", "_law_some", "_law_sort", "_law_like", "_law_vector", "_law_all", "_law_digits", "_law_size", "_law_head", "_law_plain_right", "_law_written_right", "_law_vectors_right", "_law_lists_right"] : List Str)
theorem run (w : World) : HandSHeadRun.RunEq R (PySem.W.view R.prog [56]) hk ob 4000 loose w := by
  intro os
  kernel_rfl
theorem b0 : BindsP (L.d 0).params 3 := fun x qual body scope kV doc pm an cdv ct us hl => match us, hl with
  | [u0, u1, u2], _ => by kernel_rfl
theorem b1 : BindsP (L.d 1).params 3 := fun x qual body scope kV doc pm an cdv ct us hl => match us, hl with
  | [u0, u1, u2], _ => by kernel_rfl
theorem b2 : BindsP (L.d 2).params 3 := fun x qual body scope kV doc pm an cdv ct us hl => match us, hl with
  | [u0, u1, u2], _ => by kernel_rfl
theorem b3 : BindsP (L.d 3).params 4 := fun x qual body scope kV doc pm an cdv ct us hl => match us, hl with
  | [u0, u1, u2, u3], _ => by kernel_rfl
theorem b4 : BindsP (L.d 4).params 1 := fun x qual body scope kV doc pm an cdv ct us hl => match us, hl with
  | [u0], _ => by kernel_rfl
theorem b5 : BindsP (L.d 5).params 1 := fun x qual body scope kV doc pm an cdv ct us hl => match us, hl with
  | [u0], _ => by kernel_rfl
theorem b6 : BindsP (L.d 6).params 2 := fun x qual body scope kV doc pm an cdv ct us hl => match us, hl with
  | [u0, u1], _ => by kernel_rfl
theorem b7 : BindsP (L.d 7).params 2 := fun x qual body scope kV doc pm an cdv ct us hl => match us, hl with
  | [u0, u1], _ => by kernel_rfl
theorem b8 : BindsP (L.d 8).params 1 := fun x qual body scope kV doc pm an cdv ct us hl => match us, hl with
  | [u0], _ => by kernel_rfl
theorem b9 : BindsP (L.d 9).params 1 := fun x qual body scope kV doc pm an cdv ct us hl => match us, hl with
  | [u0], _ => by kernel_rfl
theorem b10 : BindsP (L.d 10).params 1 := fun x qual body scope kV doc pm an cdv ct us hl => match us, hl with
  | [u0], _ => by kernel_rfl
theorem b11 : BindsP (L.d 11).params 2 := fun x qual body scope kV doc pm an cdv ct us hl => match us, hl with
  | [u0, u1], _ => by kernel_rfl
theorem b12 : BindsP (L.d 12).params 2 := fun x qual body scope kV doc pm an cdv ct us hl => match us, hl with
  | [u0, u1], _ => by kernel_rfl
theorem b13 : BindsP (L.d 13).params 2 := fun x qual body scope kV doc pm an cdv ct us hl => match us, hl with
  | [u0, u1], _ => by kernel_rfl
theorem b14 : BindsP (L.d 14).params 2 := fun x qual body scope kV doc pm an cdv ct us hl => match us, hl with
  | [u0, u1], _ => by kernel_rfl
theorem b15 : BindsP (L.d 15).params 3 := fun x qual body scope kV doc pm an cdv ct us hl => match us, hl with
  | [u0, u1, u2], _ => by kernel_rfl
theorem b16 : BindsP (L.d 16).params 2 := fun x qual body scope kV doc pm an cdv ct us hl => match us, hl with
  | [u0, u1], _ => by kernel_rfl
theorem b17 : BindsP (L.d 17).params 2 := fun x qual body scope kV doc pm an cdv ct us hl => match us, hl with
  | [u0, u1], _ => by kernel_rfl
theorem b18 : BindsP (L.d 18).params 3 := fun x qual body scope kV doc pm an cdv ct us hl => match us, hl with
  | [u0, u1, u2], _ => by kernel_rfl
theorem b19 : BindsP (L.d 19).params 3 := fun x qual body scope kV doc pm an cdv ct us hl => match us, hl with
  | [u0, u1, u2], _ => by kernel_rfl
theorem b20 : BindsP (L.d 20).params 3 := fun x qual body scope kV doc pm an cdv ct us hl => match us, hl with
  | [u0, u1, u2], _ => by kernel_rfl
theorem b21 : BindsP (L.d 21).params 3 := fun x qual body scope kV doc pm an cdv ct us hl => match us, hl with
  | [u0, u1, u2], _ => by kernel_rfl
theorem b22 : BindsP (L.d 22).params 3 := fun x qual body scope kV doc pm an cdv ct us hl => match us, hl with
  | [u0, u1, u2], _ => by kernel_rfl
theorem b23 : BindsP (L.d 23).params 1 := fun x qual body scope kV doc pm an cdv ct us hl => match us, hl with
  | [u0], _ => by kernel_rfl
theorem b24 : BindsP (L.d 24).params 2 := fun x qual body scope kV doc pm an cdv ct us hl => match us, hl with
  | [u0, u1], _ => by kernel_rfl
theorem b25 : BindsP (L.d 25).params 2 := fun x qual body scope kV doc pm an cdv ct us hl => match us, hl with
  | [u0, u1], _ => by kernel_rfl
theorem b26 : BindsP (L.d 26).params 2 := fun x qual body scope kV doc pm an cdv ct us hl => match us, hl with
  | [u0, u1], _ => by kernel_rfl
theorem b27 : BindsP (L.d 27).params 1 := fun x qual body scope kV doc pm an cdv ct us hl => match us, hl with
  | [u0], _ => by kernel_rfl
theorem b28 : BindsP (L.d 28).params 2 := fun x qual body scope kV doc pm an cdv ct us hl => match us, hl with
  | [u0, u1], _ => by kernel_rfl
theorem b29 : BindsP (L.d 29).params 2 := fun x qual body scope kV doc pm an cdv ct us hl => match us, hl with
  | [u0, u1], _ => by kernel_rfl
theorem b30 : BindsP (L.d 30).params 1 := fun x qual body scope kV doc pm an cdv ct us hl => match us, hl with
  | [u0], _ => by kernel_rfl
theorem b31 : BindsP (L.d 31).params 2 := fun x qual body scope kV doc pm an cdv ct us hl => match us, hl with
  | [u0, u1], _ => by kernel_rfl
theorem b32 : BindsP (L.d 32).params 3 := fun x qual body scope kV doc pm an cdv ct us hl => match us, hl with
  | [u0, u1, u2], _ => by kernel_rfl
theorem b33 : BindsP (L.d 33).params 2 := fun x qual body scope kV doc pm an cdv ct us hl => match us, hl with
  | [u0, u1], _ => by kernel_rfl
theorem b34 : BindsP (L.d 34).params 3 := fun x qual body scope kV doc pm an cdv ct us hl => match us, hl with
  | [u0, u1, u2], _ => by kernel_rfl
theorem b35 : BindsP (L.d 35).params 2 := fun x qual body scope kV doc pm an cdv ct us hl => match us, hl with
  | [u0, u1], _ => by kernel_rfl
theorem b36 : BindsP (L.d 36).params 1 := fun x qual body scope kV doc pm an cdv ct us hl => match us, hl with
  | [u0], _ => by kernel_rfl
theorem b37 : BindsP (L.d 37).params 0 := fun x qual body scope kV doc pm an cdv ct us hl => match us, hl with
  | [], _ => by kernel_rfl
theorem b38 : BindsP (L.d 38).params 0 := fun x qual body scope kV doc pm an cdv ct us hl => match us, hl with
  | [], _ => by kernel_rfl
theorem b39 : BindsP (L.d 39).params 2 := fun x qual body scope kV doc pm an cdv ct us hl => match us, hl with
  | [u0, u1], _ => by kernel_rfl
theorem b40 : BindsP (L.d 40).params 2 := fun x qual body scope kV doc pm an cdv ct us hl => match us, hl with
  | [u0, u1], _ => by kernel_rfl
theorem b41 : BindsP (L.d 41).params 1 := fun x qual body scope kV doc pm an cdv ct us hl => match us, hl with
  | [u0], _ => by kernel_rfl
theorem binds : ∀ f t, L.G.fns f = some t → BindsP (L.d f).params t.ps := by
  intro f t e
  have e : (tab[f]?).join = some t := e
  match f, e with
  | 0, e => cases e; exact b0
  | 1, e => cases e; exact b1
  | 2, e => cases e; exact b2
  | 3, e => cases e; exact b3
  | 4, e => cases e; exact b4
  | 5, e => cases e; exact b5
  | 6, e => cases e; exact b6
  | 7, e => cases e; exact b7
  | 8, e => cases e; exact b8
  | 9, e => cases e; exact b9
  | 10, e => cases e; exact b10
  | 11, e => cases e; exact b11
  | 12, e => cases e; exact b12
  | 13, e => cases e; exact b13
  | 14, e => cases e; exact b14
  | 15, e => cases e; exact b15
  | 16, e => cases e; exact b16
  | 17, e => cases e; exact b17
  | 18, e => cases e; exact b18
  | 19, e => cases e; exact b19
  | 20, e => cases e; exact b20
  | 21, e => cases e; exact b21
  | 22, e => cases e; exact b22
  | 23, e => cases e; exact b23
  | 24, e => cases e; exact b24
  | 25, e => cases e; exact b25
  | 26, e => cases e; exact b26
  | 27, e => cases e; exact b27
  | 28, e => cases e; exact b28
  | 29, e => cases e; exact b29
  | 30, e => cases e; exact b30
  | 31, e => cases e; exact b31
  | 32, e => cases e; exact b32
  | 33, e => cases e; exact b33
  | 34, e => cases e; exact b34
  | 35, e => cases e; exact b35
  | 36, e => cases e; exact b36
  | 37, e => cases e; exact b37
  | 38, e => cases e; exact b38
  | 39, e => cases e; exact b39
  | 40, e => cases e; exact b40
  | 41, e => cases e; exact b41
  | n + 42, e => cases e
theorem math (ns : List Int) (h63 : ns.length ≤ 63) : ∃ S, callFn L.G 39 41 [.scr ns] [] = .ok (.bl true) S := by
  obtain ⟨S, e⟩ := law_true ns h63
  exact ⟨S, (callFn_sh 39 41 [.scr ns] []).trans e⟩
end Zlaw
open PySem PySem.W PySem.Calls PyProof.Rows
theorem PySem.Challenge.cw_spacestold_k00_whole_rests_and_vectors_holds : PySem.Challenge.rw_spacestold_k00_whole_rests_and_vectors.Holds := by
  w_on; o_law
  refine HandSHeadRun.head_any (r := OpenLaw.row PySem.Challenge.rw_spacestold_k00_whole_rests_and_vectors) (q := view (OpenLaw.row PySem.Challenge.rw_spacestold_k00_whole_rests_and_vectors).prog [56]) (H := Zlaw.hk) (ob := Zlaw.ob) (M := 4000) (loose := Zlaw.loose)
    (d := HandSHeadRun.topDef (OpenLaw.row PySem.Challenge.rw_spacestold_k00_whole_rests_and_vectors).prog 56) (kwd := []) Zlaw.ob_eq
    (by kernel_rfl) (fun s => by kernel_rfl) Zlaw.run (by kernel_rfl) (by kernel_rfl) (by kernel_rfl) (by rfl) (by first | assumption | decide +kernel) (by decide +kernel) ⟨rfl, rfl, rfl, rfl, rfl, by decide +kernel⟩ ?hw ?hc
  case hw => w_witness2
  case hc =>
    refine Zv.walk_of (l := PySem.Challenge.rw_spacestold_k00_whole_rests_and_vectors) (L := Zlaw.L) (id := 41) (k := 39) (t := Xk00.t41) rfl (by kernel_rfl) (by kernel_rfl) ⟨rfl, by decide, by decide⟩ Zlaw.chk Zlaw.binds rfl (by kernel_rfl) Zlaw.math
