import PyProof.Rows.All
import Wide.All
import OpenK.AllK
import Wide.FinOn
import HandS.ForMost
import HandS.TupAny
import HandS.Deep
import HandS.IsInst
import HandS.Style
import HandS.Conv
import KE.SortData
import HandS.SortInts
import HandS.SortRule
import KE.DataMinMax
import HandS.Strs
import HandS.SetFor
import HandS.TupSets
import HandS.Zip
import PyProof.ZipIter
import KE.GoesMore
import PyProof.Draws
import PyProof.EnumMake
import PyProof.Rows.TupDisplay
import PySem.Challenge.RW_pointsback_k10_whole_results_of_single_s
set_option Elab.async false
set_option linter.all false
set_option maxRecDepth 1000000
set_option maxHeartbeats 4000000
/-! Pv1: pure data D, the little language CE/CS, its executable semantics over plain environments. No heap here. -/
namespace Pv
open PySem L2

/-- pure data -/
inductive D where
  | non | bl (b : Bool) | int (i : Int) | str (x : Str)
  | tup (xs : List D) | lst (xs : List D)
  | dk (kvs : List (Key × D)) | dt (kvs : List (List Key × D))
  /-- the script: a list of ints that nobody changes -/
  | scr (ns : List Int)
  deriving Inhabited

def D.isMut : D → Bool
  | .lst _ => true
  | .dk _ => true
  | .dt _ => true
  | _ => false

/-! ### keys -/
def key? : D → Option Key
  | .int i => some (.inl i)
  | .str x => some (.inr x)
  | _ => none
def keys? : List D → Option (List Key)
  | [] => some []
  | d :: r => match key? d, keys? r with
    | some k, some ks => some (k :: ks)
    | _, _ => none
def kD : Key → D
  | .inl i => .int i
  | .inr x => .str x
def kTD (k : List Key) : D := .tup (k.map kD)

/-! ### == -/
mutual
def py : D → PyData
  | .non => .none
  | .bl b => .bool b
  | .int i => .int i
  | .str x => .str x
  | .tup xs => .tuple (pyL xs)
  | .lst xs => .list (pyL xs)
  | .dk _ => .dict []
  | .dt _ => .dict []
  | .scr _ => .dict []
def pyL : List D → List PyData
  | [] => []
  | x :: r => py x :: pyL r
end
def deq (a b : D) : Option Bool := if SeqAt.shaped (py a) && SeqAt.shaped (py b) then some (PyData.eqv (py a) (py b)) else none
def dmem (x y : D) : Option Bool := match y with
  | .lst ds => if SeqAt.shaped (py x) && SeqAt.shaped (py (.lst ds)) then some (ds.any fun z => PyData.eqv (py z) (py x)) else none
  | .tup ds => if SeqAt.shaped (py x) && SeqAt.shaped (py (.tup ds)) then some (ds.any fun z => PyData.eqv (py z) (py x)) else none
  | _ => none

/-! ### dicts as association lists -/
def getA {κ α : Type} [DecidableEq κ] : List (κ × α) → κ → Option α
  | [], _ => none
  | (k', v) :: r, k => if k' = k then some v else getA r k
def putA {κ α : Type} [DecidableEq κ] (l : List (κ × α)) (k : κ) (v : α) : List (κ × α) :=
  if (l.any fun kv => decide (kv.1 = k)) = true then l.map (fun kv => if kv.1 = k then (kv.1, v) else kv) else l ++ [(k, v)]

/-- what d holds at the key y: none: not a key for it -/
def dget (d y : D) : Option (Option D) := match d with
  | .dk kvs => match key? y with
    | some k => some (getA kvs k)
    | none => none
  | .dt kvs => match y with
    | .tup ks => match keys? ks with
      | some k => some (getA kvs k)
      | none => none
    | _ => none
  | _ => none
def dput (d y v : D) : Option D := match d with
  | .dk kvs => match key? y with
    | some k => if kvs.length < sizeLine then some (.dk (putA kvs k v)) else none
    | none => none
  | .dt kvs => match y with
    | .tup ks => match keys? ks with
      | some k => if kvs.length < sizeLine then some (.dt (putA kvs k v)) else none
      | none => none
    | _ => none
  | _ => none

/-! ### operators -/
inductive BOp where
  | add | sub | mul | fdiv | mod | pow
  deriving DecidableEq
inductive COp where
  | lt | le | gt | ge | eq | ne | inn | nin | is | isn
  deriving DecidableEq

def small (i : Int) : Bool := decide (-(2 ^ 64) < i) && decide (i < 2 ^ 64)
def dbin (op : BOp) (a b : D) : Option D := match op with
  | .add => match a, b with
    | .int i, .int j => some (.int (i + j))
    | .tup xs, .tup ys => if xs.length + ys.length ≤ sizeLine then some (.tup (xs ++ ys)) else none
    | .lst xs, .lst ys => if xs.length + ys.length ≤ sizeLine then some (.lst (xs ++ ys)) else none
    | _, _ => none
  | .sub => match a, b with
    | .int i, .int j => some (.int (i - j))
    | _, _ => none
  | .mul => match a, b with
    | .int i, .int j => if small i || small j then some (.int (i * j)) else none
    | .lst xs, .int k => if decide (-(2 ^ 63) ≤ k) && decide (k < 2 ^ 63) && decide (xs.length * k.toNat ≤ sizeLine) then some (.lst (List.replicate k.toNat xs).flatten) else none
    | _, _ => none
  | .fdiv => match a, b with
    | .int i, .int j => if decide (0 < j) && decide (j < 1073741824) then some (.int (i / j)) else none
    | _, _ => none
  | .mod => match a, b with
    | .int i, .int j => if 0 < j then some (.int (i % j)) else none
    | _, _ => none
  | .pow => match a, b with
    | .int i, .int j => if decide (0 ≤ j) && decide (j ≤ 1000000) && decide (i.natAbs < 2 ^ 64) then some (.int (i ^ j.toNat)) else none
    | _, _ => none
def dcmp (op : COp) (a b : D) : Option Bool := match op with
  | .lt => match a, b with
    | .int i, .int j => some (decide (i < j))
    | _, _ => none
  | .le => match a, b with
    | .int i, .int j => some (decide (i ≤ j))
    | _, _ => none
  | .gt => match a, b with
    | .int i, .int j => some (decide (j < i))
    | _, _ => none
  | .ge => match a, b with
    | .int i, .int j => some (decide (j ≤ i))
    | _, _ => none
  | .eq => deq a b
  | .ne => match deq a b with
    | some k => some (!k)
    | none => none
  | .inn => match b with
    | .dk _ => match dget b a with
      | some o => some o.isSome
      | none => none
    | .dt _ => match dget b a with
      | some o => some o.isSome
      | none => none
    | _ => dmem a b
  | .nin => match b with
    | .dk _ => match dget b a with
      | some o => some (!o.isSome)
      | none => none
    | .dt _ => match dget b a with
      | some o => some (!o.isSome)
      | none => none
    | _ => match dmem a b with
      | some k => some (!k)
      | none => none
  | .is => match a, b with
    | a, .non => some (match a with
      | .non => true
      | _ => false)
    | .bl i, .bl j => some (decide (i = j))
    | _, _ => none
  | .isn => match a, b with
    | a, .non => some (match a with
      | .non => false
      | _ => true)
    | .bl i, .bl j => some (!decide (i = j))
    | _, _ => none

/-! ### subscripts, slices -/
def didx (a b : D) : Option D := match a, b with
  | .lst xs, .int i => atI xs i
  | .tup xs, .int i => atI xs i
  | .scr ns, .int i => (atI ns i).map D.int
  | .dk kvs, y => match dget (.dk kvs) y with
    | some (some v) => some v
    | _ => none
  | .dt kvs, y => match dget (.dt kvs) y with
    | some (some v) => some v
    | _ => none
  | _, _ => none
def cutD {α : Type} (xs : List α) (lo hi : Option Int) : List α := (xs.drop (HT.sIx xs.length 0 lo)).take (HT.sIx xs.length xs.length hi - HT.sIx xs.length 0 lo)
def dslice (a : D) (lo hi : Option Int) : Option D := match a with
  | .lst xs => some (.lst (cutD xs lo hi))
  | .tup xs => some (.tup (cutD xs lo hi))
  | _ => none
def drev (a : D) : Option D := match a with
  | .lst xs => some (.lst xs.reverse)
  | .tup xs => some (.tup xs.reverse)
  | _ => none

/-! ### built-in functions -/
/-- ints out of data -/
def ints? : List D → Option (List Int)
  | [] => some []
  | .int i :: r => match ints? r with
    | some is => some (i :: is)
    | none => none
  | _ :: _ => none
def bls? : List D → Option (List Bool)
  | [] => some []
  | .bl i :: r => match bls? r with
    | some is => some (i :: is)
    | none => none
  | _ :: _ => none
def seq? : D → Option (List D)
  | .lst xs => some xs
  | .tup xs => some xs
  | _ => none
/-- names of types for isinstance -/
def tyN : D → String
  | .non => "NoneType"
  | .bl _ => "bool"
  | .int _ => "int"
  | .str _ => "str"
  | .tup _ => "tuple"
  | .lst _ => "list"
  | .dk _ => "dict"
  | .dt _ => "dict"
  | .scr _ => "list"
def tyAns (n T : String) : Option Bool :=
  if T = "int" then some (n == "int" || n == "bool")
  else if T = "bool" || T = "str" || T = "tuple" || T = "list" then some (n == T)
  else none
def tyIs (T : String) (d : D) : Option Bool := match d with
  | .dk _ => none
  | .dt _ => none
  | .scr _ => none
  | d => tyAns (tyN d) T

/-- the types that isinstance asks about -/
inductive Ty where
  | int | bool | str | tup | lst
  deriving DecidableEq
def Ty.nm : Ty → String
  | .int => "int"
  | .bool => "bool"
  | .str => "str"
  | .tup => "tuple"
  | .lst => "list"
def tyE : Ty → D → Option Bool
  | _, .dk _ => none
  | _, .dt _ => none
  | _, .scr _ => none
  | .int, .int _ => some true
  | .int, .bl _ => some true
  | .bool, .bl _ => some true
  | .str, .str _ => some true
  | .tup, .tup _ => some true
  | .lst, .lst _ => some true
  | _, _ => some false
theorem tyE_eq (T : Ty) (d : D) : tyE T d = tyIs T.nm d := by
  cases T <;> cases d <;> rfl
inductive BF where
  | len | max1 | min1 | max2 | min2 | sum | sorted | all | list | tuple | int | bool | isi (T : Ty) | isi2 (T T' : Ty) | ssort
  deriving DecidableEq

/-- insertion sort -/
def insB {α : Type} (le : α → α → Bool) (x : α) : List α → List α
  | [] => [x]
  | y :: r => match le x y with
    | true => x :: y :: r
    | false => y :: insB le x r
def isB {α : Type} (le : α → α → Bool) : List α → List α
  | [] => []
  | x :: r => insB le x (isB le r)
def leI (a b : Int) : Bool := decide (a ≤ b)
def leP (p q : Int × Int) : Bool := match decide (p.1 = q.1) with
  | true => decide (p.2 ≤ q.2)
  | false => decide (p.1 < q.1)
def prs? : List D → Option (List (Int × Int))
  | [] => some []
  | .tup [.int a, .int b] :: r => match prs? r with
    | some ps => some ((a, b) :: ps)
    | none => none
  | _ => none
def p2D (p : Int × Int) : D := .tup [.int p.1, .int p.2]
/-- equal neighbours once -/
def dedB {α : Type} (eq : α → α → Bool) : List α → List α
  | x :: y :: r => match eq x y with
    | true => dedB eq (y :: r)
    | false => x :: dedB eq (y :: r)
  | l => l
def sortD (ds : List D) : Option (List D) := match ints? ds with
  | some is => some ((isB leI is).map .int)
  | none => match prs? ds with
    | some ps => some ((isB leP ps).map p2D)
    | none => none
def ssortD (ds : List D) : Option (List D) := match ints? ds with
  | some zs => if zs.length < 4000 ∧ (dedB (fun a b => decide (a = b)) (isB leI zs)).length < 64 then some ((dedB (fun a b => decide (a = b)) (isB leI zs)).map .int) else none
  | none => match prs? ds with
    | some ps => if ps.length < 100000 ∧ (dedB (fun a b => decide (a = b)) (isB leP ps)).length < 62 ∧ (∀ p ∈ ps, 0 ≤ p.1 ∧ p.1 < 64 ∧ 0 ≤ p.2 ∧ p.2 < 64) then some ((dedB (fun a b => decide (a = b)) (isB leP ps)).map p2D) else none
    | none => none

def one1 (f : D → Option D) : List D → Option D
  | [x] => f x
  | _ => none
def two2 (f : D → D → Option D) : List D → Option D
  | [x, y] => f x y
  | _ => none
def dlen : D → Option D
  | .lst xs => some (.int xs.length)
  | .tup xs => some (.int xs.length)
  | .scr xs => some (.int xs.length)
  | _ => none
def seqI (f : List Int → Option D) (d : D) : Option D := match seq? d with
  | some xs => match ints? xs with
    | some is => f is
    | none => none
  | none => none
def dmax : List Int → Option D
  | x :: r => some (.int (r.foldl max x))
  | [] => none
def dmin : List Int → Option D
  | x :: r => some (.int (r.foldl min x))
  | [] => none
def dmax2 : D → D → Option D
  | .int i, .int j => some (.int (if j > i then j else i))
  | _, _ => none
def dmin2 : D → D → Option D
  | .int i, .int j => some (.int (if j < i then j else i))
  | _, _ => none
def dall : D → Option D
  | .lst xs => match bls? xs with
    | some bs => some (.bl (bs.all id))
    | none => none
  | _ => none
def dlist : D → Option D
  | .lst xs => some (.lst xs)
  | .tup xs => some (.lst xs)
  | _ => none
def dtuple : D → Option D
  | .lst xs => some (.tup xs)
  | .tup xs => some (.tup xs)
  | _ => none
def dint : D → Option D
  | .int i => some (.int i)
  | .bl k => some (.int (if k then 1 else 0))
  | _ => none
def dbool : D → Option D
  | .int i => some (.bl (i != 0))
  | .bl k => some (.bl k)
  | _ => none
/-- data that stand ascending -/
def ascB : List PyData → Bool
  | [] => true
  | x :: r => r.all (fun y => !PySem.W.dataLt y x) && ascB r
def tupC : PyData → Bool
  | .tuple (_ :: _) => true
  | _ => false
/-- tuples that are alike, ascending -/
def rowsOk (ds : List PyData) : Bool := PyData.canLayAll0 ds && ds.all (fun d => tupC d && decide (d.depth ≤ 60) && ds.all fun e => PySem.W.alike d e) && ascB ds
def dsorted (d : D) : Option D := match d with
  | .lst xs => match sortD xs with
    | some ys => some (.lst ys)
    | none => match rowsOk (pyL xs) with
      | true => some (.lst xs)
      | false => none
  | .tup xs => match sortD xs with
    | some ys => some (.lst ys)
    | none => none
  | _ => none
def dssort : D → Option D
  | .lst xs => match ssortD xs with
    | some ys => some (.lst ys)
    | none => none
  | _ => none
def disi (T : Ty) (d : D) : Option D := match tyE T d with
  | some b => some (.bl b)
  | none => none
def disi2 (T T' : Ty) (d : D) : Option D := match tyE T d with
  | some true => some (.bl true)
  | some false => match tyE T' d with
    | some b => some (.bl b)
    | none => none
  | none => none
def dblt (f : BF) (ds : List D) : Option D := match f with
  | .len => one1 dlen ds
  | .max1 => one1 (seqI dmax) ds
  | .min1 => one1 (seqI dmin) ds
  | .max2 => two2 dmax2 ds
  | .min2 => two2 dmin2 ds
  | .sum => one1 (seqI fun is => some (.int is.sum)) ds
  | .sorted => one1 dsorted ds
  | .ssort => one1 dssort ds
  | .all => one1 dall ds
  | .list => one1 dlist ds
  | .tuple => one1 dtuple ds
  | .int => one1 dint ds
  | .bool => one1 dbool ds
  | .isi T => one1 (disi T) ds
  | .isi2 T T' => one1 (disi2 T T') ds

/-- methods that change nothing -/
inductive MF where
  | get1 | get2 | count | index
  deriving DecidableEq
def dmth (m : MF) (o : D) (ds : List D) : Option D := match m, ds with
  | .get1, [y] => match dget o y with
    | some (some v) => some v
    | some none => some .non
    | none => none
  | .get2, [y, z] => match dget o y with
    | some (some v) => some v
    | some none => some z
    | none => none
  | _, _ => none

/-! ### the little language -/
/-- a target: one name or some -/
inductive Tg where
  | one (i : Nat) | many (is : List Nat)
  deriving DecidableEq
mutual
inductive CE where
  | var (i : Nat) | cint (i : Int) | cbl (b : Bool) | cnon | cstr (x : Str)
  | bin (op : BOp) (a b : CE) | neg (a : CE)
  | cmp (op : COp) (a b : CE) | chain (op op' : COp) (a b c : CE)
  | andd (a b : CE) | orr (a b : CE) | nott (a : CE)
  | ite (c a b : CE)
  | tup (es : CEs) | lst (es : CEs)
  | dnil (t : Bool) | dsp (t : Bool) (k v : CE)
  | idx (a b : CE) | sl00 (a : CE) | sl10 (a lo : CE) | sl01 (a hi : CE) | sl11 (a lo hi : CE) | rev (a : CE)
  | call (k : Nat) (es : CEs)
  | blt (f : BF) (es : CEs)
  | mth (m : MF) (o : CE) (es : CEs)
  | lrng (a b : CE)
  | lc (elt : CE) (tg : Tg) (it : CIt) (cs : CEs) (own : List Nat)
  deriving DecidableEq
inductive CEs where
  | nil | cons (e : CE) (r : CEs)
  deriving DecidableEq
inductive CIt where
  | rng1 (a : CE) | rng2 (a b : CE) | rngd (a b : CE) | seq (a : CE) | enum (a : CE) | zip (a b : CE) | keys (a : CE) | items (a : CE)
  deriving DecidableEq
end

/-- a pure function, and whether a list or dict that it hands back is its own -/
structure Fn where
  ar : Nat
  run : List D → Option D
  fr : Bool
abbrev En := List (Option D)

def smallR (i : Int) : Bool := decide (-(2 ^ 62) ≤ i) && decide (i < 2 ^ 62)
/-- lo, lo + c, .. -/
def rngD (lo c : Int) (n : Nat) : List D := (List.range n).map fun (k : Nat) => D.int (lo + (k : Int) * c)
def setA (env : En) (i : Nat) (d : D) : En := env.set i (some d)
def setM : En → List Nat → List D → Option En
  | env, [], [] => some env
  | env, i :: is, d :: ds => setM (env.set i (some d)) is ds
  | _, _, _ => none
def setT (tg : Tg) (env : En) (d : D) : Option En := match tg with
  | .one i => some (env.set i (some d))
  | .many is => match d with
    | .tup ds => setM env is ds
    | _ => none
def wipeE (env : En) : List Nat → En
  | [] => env
  | v :: vs => (wipeE env vs).set v none
/-- elements made of items -/
def lcL (f : D → Option (Option D)) : List D → Option (List D)
  | [] => some []
  | x :: r => match f x with
    | none => none
    | some none => lcL f r
    | some (some y) => match lcL f r with
      | some ys => some (y :: ys)
      | none => none
def enumD : Nat → List D → List D
  | _, [] => []
  | i, x :: r => .tup [.int (i : Int), x] :: enumD (i + 1) r
def zipD : List D → List D → List D
  | x :: xs, y :: ys => .tup [x, y] :: zipD xs ys
  | _, _ => []
def itemsD : D → Option (List D)
  | .dk kvs => some (kvs.map fun kv => .tup [kD kv.1, kv.2])
  | _ => none
def keysD : D → Option (List D)
  | .dk kvs => some (kvs.map fun kv => kD kv.1)
  | _ => none

section
variable (Φ : List Fn)
mutual
def ev : CE → En → Option D
  | .var i, env => env.getD i none
  | .cint i, _ => some (.int i)
  | .cbl b, _ => some (.bl b)
  | .cnon, _ => some .non
  | .cstr x, _ => some (.str x)
  | .bin op a b, env => match ev a env with
    | none => none
    | some x => match ev b env with
      | none => none
      | some y => dbin op x y
  | .neg a, env => match ev a env with
    | some (.int i) => some (.int (-i))
    | _ => none
  | .cmp op a b, env => match ev a env with
    | none => none
    | some x => match ev b env with
      | none => none
      | some y => match dcmp op x y with
        | some k => some (.bl k)
        | none => none
  | .chain op op' a b c, env => match ev a env with
    | none => none
    | some x => match ev b env with
      | none => none
      | some y => match dcmp op x y with
        | none => none
        | some false => some (.bl false)
        | some true => match ev c env with
          | none => none
          | some z => match dcmp op' y z with
            | some k => some (.bl k)
            | none => none
  | .andd a b, env => match ev a env with
    | some (.bl false) => some (.bl false)
    | some (.bl true) => match ev b env with
      | some (.bl k) => some (.bl k)
      | _ => none
    | _ => none
  | .orr a b, env => match ev a env with
    | some (.bl true) => some (.bl true)
    | some (.bl false) => match ev b env with
      | some (.bl k) => some (.bl k)
      | _ => none
    | _ => none
  | .nott a, env => match ev a env with
    | some (.bl k) => some (.bl (!k))
    | _ => none
  | .ite c a b, env => match ev c env with
    | some (.bl true) => ev a env
    | some (.bl false) => ev b env
    | _ => none
  | .tup es, env => match evs es env with
    | some ds => if ds.length ≤ sizeLine then some (.tup ds) else none
    | none => none
  | .lst es, env => match evs es env with
    | some ds => if ds.length ≤ sizeLine then some (.lst ds) else none
    | none => none
  | .dnil t, _ => some (if t then .dt [] else .dk [])
  | .dsp t k v, env => match ev k env with
    | none => none
    | some x => match ev v env with
      | none => none
      | some y => dput (if t then .dt [] else .dk []) x y
  | .idx a b, env => match ev a env with
    | none => none
    | some x => match ev b env with
      | none => none
      | some y => didx x y
  | .sl00 a, env => match ev a env with
    | none => none
    | some x => dslice x none none
  | .sl10 a lo, env => match ev a env with
    | none => none
    | some x => match ev lo env with
      | some (.int i) => dslice x (some i) none
      | _ => none
  | .sl01 a hi, env => match ev a env with
    | none => none
    | some x => match ev hi env with
      | some (.int j) => dslice x none (some j)
      | _ => none
  | .sl11 a lo hi, env => match ev a env with
    | none => none
    | some x => match ev lo env with
      | some (.int i) => match ev hi env with
        | some (.int j) => dslice x (some i) (some j)
        | _ => none
      | _ => none
  | .rev a, env => match ev a env with
    | none => none
    | some x => drev x
  | .call k es, env => match evs es env with
    | none => none
    | some ds => match Φ[k]? with
      | some F => if ds.length = F.ar then F.run ds else none
      | none => none
  | .blt f es, env => match evs es env with
    | none => none
    | some ds => dblt f ds
  | .mth m o es, env => match ev o env with
    | none => none
    | some x => match evs es env with
      | none => none
      | some ds => dmth m x ds
  | .lrng a b, env => match ev a env with
    | some (.int i) => match ev b env with
      | some (.int j) => if smallR i && smallR j && decide ((j - i).toNat ≤ sizeLine) then some (.lst (rngD i 1 (j - i).toNat)) else none
      | _ => none
    | _ => none
  | .lc elt tg it cs own, env => match evI it env with
    | none => none
    | some xs => match lcL (fun x => match setT tg (wipeE env own) x with
        | none => none
        | some env' => match evC cs env' with
          | none => none
          | some false => some none
          | some true => match ev elt env' with
            | none => none
            | some y => some (some y)) xs with
      | none => none
      | some ys => if xs.length ≤ sizeLine then some (.lst ys) else none
def evs : CEs → En → Option (List D)
  | .nil, _ => some []
  | .cons e r, env => match ev e env with
    | none => none
    | some x => match evs r env with
      | none => none
      | some xs => some (x :: xs)
/-- the tests of a comprehension: none or one -/
def evC : CEs → En → Option Bool
  | .nil, _ => some true
  | .cons e .nil, env => match ev e env with
    | some (.bl k) => some k
    | _ => none
  | .cons _ (.cons _ _), _ => none
def evI : CIt → En → Option (List D)
  | .rng1 a, env => match ev a env with
    | some (.int j) => if smallR j then some (rngD 0 1 j.toNat) else none
    | _ => none
  | .rng2 a b, env => match ev a env with
    | some (.int i) => match ev b env with
      | some (.int j) => if smallR i && smallR j then some (rngD i 1 (j - i).toNat) else none
      | _ => none
    | _ => none
  | .rngd a b, env => match ev a env with
    | some (.int i) => match ev b env with
      | some (.int j) => if smallR i && smallR j then some (rngD i (-1) (i - j).toNat) else none
      | _ => none
    | _ => none
  | .seq a, env => match ev a env with
    | some x => seq? x
    | none => none
  | .keys a, env => match ev a env with
    | some x => keysD x
    | none => none
  | .enum a, env => match ev a env with
    | some (.lst xs) => some (enumD 0 xs)
    | some (.tup xs) => some (enumD 0 xs)
    | _ => none
  | .zip a b, env => match ev a env with
    | none => none
    | some x => match ev b env with
      | none => none
      | some y => match x, y with
        | .lst xs, .lst ys => some (zipD xs ys)
        | .tup xs, .lst ys => some (zipD xs ys)
        | _, _ => none
  | .items a, env => match ev a env with
    | some x => itemsD x
    | none => none
end
end

/-! ### statements -/
mutual
inductive CS where
  | asg (i : Nat) (e : CE)
  | asgT (is : List Nat) (e : CE)
  | par2 (i j : Nat) (a b : CE)
  | par3 (i j k : Nat) (a b c : CE)
  | setix (i : Nat) (ix e : CE)
  | app (i : Nat) (e : CE)
  | aug (i : Nat) (op : BOp) (e : CE)
  | ife (c : CE) (a b : CSs)
  | ret (e : CE) | retn
  | for_ (tg : Tg) (it : CIt) (body : CSs)
  | whl (n : Nat) (c : CE) (body : CSs)
  deriving DecidableEq
inductive CSs where
  | nil | cons (s : CS) (r : CSs)
  deriving DecidableEq
end
inductive Out where
  | nx (env : En) | rt (d : D)

def forL (f : En → D → Option Out) : List D → En → Option Out
  | [], env => some (.nx env)
  | x :: r, env => match f env x with
    | none => none
    | some (.rt d) => some (.rt d)
    | some (.nx env') => forL f r env'
def whileL (t : En → Option Bool) (f : En → Option Out) : Nat → En → Option Out
  | 0, _ => none
  | n + 1, env => match t env with
    | none => none
    | some false => some (.nx env)
    | some true => match f env with
      | none => none
      | some (.rt d) => some (.rt d)
      | some (.nx env') => whileL t f n env'
def dset (d y v : D) : Option D := match d, y with
  | .lst xs, .int i => match ixN xs.length i with
    | some j => some (.lst (xs.set j v))
    | none => none
  | .dk kvs, y => dput (.dk kvs) y v
  | .dt kvs, y => dput (.dt kvs) y v
  | _, _ => none
def dapp (d v : D) : Option D := match d with
  | .lst xs => if xs.length < sizeLine then some (.lst (xs ++ [v])) else none
  | _ => none
def augF : BOp → Int → Int → Option Int
  | .add, x, y => some (x + y)
  | .sub, x, y => some (x - y)
  | _, _, _ => none
def asBool : Option D → Option Bool
  | some (.bl b) => some b
  | _ => none

section
variable (Φ : List Fn)
mutual
def ex : CS → En → Option Out
  | .asg i e, env => match ev Φ e env with
    | some d => some (.nx (env.set i (some d)))
    | none => none
  | .asgT is e, env => match ev Φ e env with
    | some (.tup ds) => match setM env is ds with
      | some env' => some (.nx env')
      | none => none
    | _ => none
  | .par2 i j a b, env => match ev Φ a env with
    | none => none
    | some x => match ev Φ b env with
      | none => none
      | some y => some (.nx ((env.set i (some x)).set j (some y)))
  | .par3 i j k a b c, env => match ev Φ a env with
    | none => none
    | some x => match ev Φ b env with
      | none => none
      | some y => match ev Φ c env with
        | none => none
        | some z => some (.nx (((env.set i (some x)).set j (some y)).set k (some z)))
  | .setix i ix e, env => match ev Φ e env with
    | none => none
    | some v => match env.getD i none with
      | none => none
      | some d => match ev Φ ix env with
        | none => none
        | some y => match dset d y v with
          | some d' => some (.nx (env.set i (some d')))
          | none => none
  | .app i e, env => match env.getD i none with
    | none => none
    | some d => match ev Φ e env with
      | none => none
      | some v => match dapp d v with
        | some d' => some (.nx (env.set i (some d')))
        | none => none
  | .aug i op e, env => match env.getD i none with
    | some (.int x) => match ev Φ e env with
      | some (.int y) => match augF op x y with
        | some z => some (.nx (env.set i (some (.int z))))
        | none => none
      | _ => none
    | _ => none
  | .ife c a b, env => match asBool (ev Φ c env) with
    | some true => exs a env
    | some false => exs b env
    | none => none
  | .ret e, env => match ev Φ e env with
    | some d => some (.rt d)
    | none => none
  | .retn, _ => some (.rt .non)
  | .for_ tg it body, env => match evI Φ it env with
    | none => none
    | some xs => forL (fun env' x => match setT tg env' x with
      | some env'' => exs body env''
      | none => none) xs env
  | .whl n c body, env => whileL (fun env' => asBool (ev Φ c env')) (fun env' => exs body env') n env
def exs : CSs → En → Option Out
  | .nil, env => some (.nx env)
  | .cons s r, env => match ex s env with
    | none => none
    | some (.rt d) => some (.rt d)
    | some (.nx env') => exs r env'
end
/-- a def's body run at its arguments; n: how many slots -/
def runF (c : CSs) (n : Nat) (ds : List D) : Option D := match exs Φ c (ds.map some ++ List.replicate (n - ds.length) none) with
  | some (.rt d) => some d
  | some (.nx _) => some .non
  | none => none
end

/-! ### who owns what: a check without values -/
def isVar : CE → Bool
  | .var _ => true
  | _ => false
-- names whose own thing is handed on (an operand that is a bare name is only looked at)
mutual
def tk : CE → List Nat
  | .var i => [i]
  | .bin _ a b => (if isVar a then [] else tk a) ++ (if isVar b then [] else tk b)
  | .neg a => tk a
  | .cmp _ a b => (if isVar a then [] else tk a) ++ (if isVar b then [] else tk b)
  | .chain _ _ a b c => (if isVar a then [] else tk a) ++ ((if isVar b then [] else tk b) ++ (if isVar c then [] else tk c))
  | .andd a b => tk a ++ tk b
  | .orr a b => tk a ++ tk b
  | .nott a => tk a
  | .ite c a b => tk c ++ (tk a ++ tk b)
  | .tup es => tks es
  | .lst es => tks es
  | .dsp _ k v => tk k ++ tk v
  | .idx a b => (if isVar a then [] else tk a) ++ tk b
  | .sl00 a => (if isVar a then [] else tk a)
  | .sl10 a lo => (if isVar a then [] else tk a) ++ tk lo
  | .sl01 a hi => (if isVar a then [] else tk a) ++ tk hi
  | .sl11 a lo hi => (if isVar a then [] else tk a) ++ (tk lo ++ tk hi)
  | .rev a => (if isVar a then [] else tk a)
  | .call _ es => tks es
  | .blt _ es => tksB es
  | .mth _ o es => (if isVar o then [] else tk o) ++ tks es
  | .lrng a b => tk a ++ tk b
  | .lc elt _ it cs own => tkI it ++ ((tks cs ++ tk elt).filter fun i => !own.contains i)
  | .cint _ => []
  | .cbl _ => []
  | .cnon => []
  | .cstr _ => []
  | .dnil _ => []
def tks : CEs → List Nat
  | .nil => []
  | .cons e r => tk e ++ tks r
def tksB : CEs → List Nat
  | .nil => []
  | .cons e r => (if isVar e then [] else tk e) ++ tksB r
def tkI : CIt → List Nat
  | .rng1 a => tk a
  | .rng2 a b => tk a ++ tk b
  | .rngd a b => tk a ++ tk b
  | .seq a => tk a
  | .enum a => tk a
  | .zip a b => tk a ++ tk b
  | .keys a => tk a
  | .items a => tk a
end
def tkB (e : CE) : List Nat := if isVar e then [] else tk e
/-- a list or dict that comes is new, and nobody else's -/
def fresh (fr : Nat → Bool) : CE → Bool
  | .var _ => false
  | .ite _ a b => fresh fr a && fresh fr b
  | .idx _ _ => false
  | .call k _ => fr k
  | .mth _ _ _ => false
  | _ => true
abbrev Ow := List Bool
def dropO (own : Ow) : List Nat → Ow
  | [] => own
  | i :: is => (dropO own is).set i false
def meetO : Ow → Ow → Ow
  | a :: r, b :: s => (a && b) :: meetO r s
  | _, _ => []
def leO : Ow → Ow → Bool
  | [], [] => true
  | a :: r, b :: s => (!a || b) && leO r s
  | _, _ => false
def setO (own : Ow) : List Nat → Ow := dropO own
def dropS : Ow → List Nat → Ow
  | own, [] => own
  | own, i :: is => dropS (own.set i false) is
def tgO (own : Ow) : Tg → Ow
  | .one i => own.set i false
  | .many is => dropS own is
/-- the end of a block: none: it is not come to -/
def joinO : Option Ow → Option Ow → Option Ow
  | none, b => b
  | a, none => a
  | some a, some b => some (meetO a b)
/-- what is owned at a loop's head -/
def midO (o0 : Ow) : Option (Option Ow) → Ow
  | some (some o1) => meetO o0 o1
  | _ => o0
def endO (o2 ow : Ow) (is : List Nat) : Option (Option Ow) → Option (Option Ow)
  | none => none
  | some none => if leO o2 ow then some (some (dropO o2 is)) else none
  | some (some o3) => if leO o2 ow && leO o2 o3 then some (some (dropO o2 is)) else none
section
variable (fr : Nat → Bool) (ret : Bool)
-- who owns what behind a statement; ret: what is handed back shall be its own
mutual
def ck : CS → Ow → Option (Option Ow)
  | .asg i e, own => some (some ((dropO own (tk e)).set i (fresh fr e)))
  | .asgT is e, own => some (some (dropS (dropO own (tk e)) is))
  | .par2 i j a b, own => some (some (((dropO (dropO own (tk a)) (tk b)).set i (fresh fr a)).set j (fresh fr b)))
  | .par3 i j k a b c, own => some (some ((((dropO (dropO (dropO own (tk a)) (tk b)) (tk c)).set i (fresh fr a)).set j (fresh fr b)).set k (fresh fr c)))
  | .setix i ix e, own => if (dropO (dropO own (tk e)) (tk ix)).getD i false then some (some (dropO (dropO own (tk e)) (tk ix))) else none
  | .app i e, own => if (dropO own (tk e)).getD i false then some (some (dropO own (tk e))) else none
  | .aug i _ e, own => some (some ((dropO own (tk e)).set i false))
  | .ife c a b, own => match cks a (dropO own (tk c)), cks b (dropO own (tk c)) with
    | some x, some y => some (joinO x y)
    | _, _ => none
  | .ret e, own => match e with
    | .var i => if !ret || own.getD i false then some none else none
    | e => if !ret || fresh fr e then some none else none
  | .retn, _ => some none
  | .for_ tg it body, own => endO (midO (tgO (dropO own (tkI it)) tg) (cks body (tgO (dropO own (tkI it)) tg))) (dropO own (tkI it)) []
      (cks body (tgO (midO (tgO (dropO own (tkI it)) tg) (cks body (tgO (dropO own (tkI it)) tg))) tg))
  | .whl _ c body, own => endO (midO (dropO own (tk c)) (cks body (dropO own (tk c)))) own (tk c)
      (cks body (dropO (midO (dropO own (tk c)) (cks body (dropO own (tk c)))) (tk c)))
def cks : CSs → Ow → Option (Option Ow)
  | .nil, own => some (some own)
  | .cons s r, own => match ck s own with
    | none => none
    | some none => some none
    | some (some o) => cks r o
end
end
end Pv

/-! Pv2: how data lies in the abstract heap; what is frozen, what is owned; growth, writes, locks. -/
namespace Pv
open PySem PySem.Spec PyProof.Rows L2

def KLst (K : PySem.W.Frag) (a : Addr) (xs : List V) : Prop :=
  ∃ (o : Obj) (its : Array Value) (n : Nat), K.lookup a = some o ∧ o.cls = .type "list" ∧ o.dict = none ∧ o.data = .seq its n ∧ its.size ≤ sizeLine ∧ Vals xs its.toList
def KTup (K : PySem.W.Frag) (a : Addr) (xs : List V) : Prop :=
  ∃ (o : Obj) (its : Array Value) (n : Nat), K.lookup a = some o ∧ o.cls = .type "tuple" ∧ o.data = .seq its n ∧ its.size ≤ sizeLine ∧ Vals xs its.toList

abbrev AP := Addr → Prop
/-- a dict without its lock -/
def un : HO → HO
  | .frz _ (.dK k) => .dK k
  | .frz _ (.dT k) => .dT k
  | x => x
mutual
/-- v is the data d; all lists, tuples, dicts of it are frozen (in F) -/
inductive Rp (K : PySem.W.Frag) (F : AP) (H : Hp) : V → D → Prop where
  | non : Rp K F H .non .non
  | bl (b : Bool) : Rp K F H (.bl b) (.bl b)
  | int (i : Int) : Rp K F H (.int i) (.int i)
  | str (x : Str) : Rp K F H (.str x) (.str x)
  | lst {a xs ds} : F a → H a = some (.lst xs) → RpL K F H xs ds → Rp K F H (.ref a) (.lst ds)
  | tup {a xs ds} : F a → H a = some (.tup xs) → RpL K F H xs ds → Rp K F H (.ref a) (.tup ds)
  | dk {a u kvs es} : F a → H a = some u → un u = .dK kvs → RpK K F H kvs es → Rp K F H (.ref a) (.dk es)
  | dt {a u kvs es} : F a → H a = some u → un u = .dT kvs → RpT K F H kvs es → Rp K F H (.ref a) (.dt es)
  | scr {a ns} : (F a ∧ Rd H a (.lst (ns.map V.int))) ∨ KLst K a (ns.map V.int) → Rp K F H (.ref a) (.scr ns)
inductive RpL (K : PySem.W.Frag) (F : AP) (H : Hp) : List V → List D → Prop where
  | nil : RpL K F H [] []
  | cons {v vs d ds} : Rp K F H v d → RpL K F H vs ds → RpL K F H (v :: vs) (d :: ds)
inductive RpK (K : PySem.W.Frag) (F : AP) (H : Hp) : List (Key × V) → List (Key × D) → Prop where
  | nil : RpK K F H [] []
  | cons {k v vs d ds} : Rp K F H v d → RpK K F H vs ds → RpK K F H ((k, v) :: vs) ((k, d) :: ds)
inductive RpT (K : PySem.W.Frag) (F : AP) (H : Hp) : List (List Key × V) → List (List Key × D) → Prop where
  | nil : RpT K F H [] []
  | cons {k v vs d ds} : Rp K F H v d → RpT K F H vs ds → RpT K F H ((k, v) :: vs) ((k, d) :: ds)
end

/-- what is frozen stays frozen and readable -/
structure Kp (F : AP) (H : Hp) (F' : AP) (H' : Hp) : Prop where
  sub : ∀ a, F a → F' a
  rd : ∀ a x, F a → H a = some x → ∃ y, H' a = some y ∧ un y = un x
  fz : ∀ a o u, F a → H a = some (.frz o u) → H' a = some (.frz o u)
theorem un_lst {y : HO} {xs : List V} (h : un y = .lst xs) : y = .lst xs := by
  cases y with
  | frz o u => cases u <;> first | exact h | exact nomatch h
  | _ => exact h
theorem un_tup {y : HO} {xs : List V} (h : un y = .tup xs) : y = .tup xs := by
  cases y with
  | frz o u => cases u <;> first | exact h | exact nomatch h
  | _ => exact h
theorem un_frzl {y : HO} {o : Obj} {xs : List V} (h : un y = .frz o (.lst xs)) : y = .frz o (.lst xs) := by
  cases y with
  | frz o u => cases u <;> first | exact h | exact nomatch h
  | _ => exact h
theorem un_dk {H : Hp} {a : Addr} {u : HO} {kvs : List (Key × V)} (e : H a = some u) (h : un u = .dK kvs) : Rd H a (.dK kvs) := by
  cases u with
  | frz o u => cases u <;> first | (cases h; exact .inr ⟨_, e⟩) | cases h
  | dK k => cases h; exact .inl e
  | _ => cases h
theorem un_dt {H : Hp} {a : Addr} {u : HO} {kvs : List (List Key × V)} (e : H a = some u) (h : un u = .dT kvs) : Rd H a (.dT kvs) := by
  cases u with
  | frz o u => cases u <;> first | (cases h; exact .inr ⟨_, e⟩) | cases h
  | dT k => cases h; exact .inl e
  | _ => cases h

section
variable {K : PySem.W.Frag} {F F' : AP} {H H' : Hp}
theorem Kp.lst {a : Addr} {xs : List V} (k : Kp F H F' H') (f : F a) (e : H a = some (.lst xs)) : H' a = some (.lst xs) := by
  obtain ⟨y, e1, e2⟩ := k.rd a _ f e
  rw [e1, un_lst e2]
theorem Kp.tup {a : Addr} {xs : List V} (k : Kp F H F' H') (f : F a) (e : H a = some (.tup xs)) : H' a = some (.tup xs) := by
  obtain ⟨y, e1, e2⟩ := k.rd a _ f e
  rw [e1, un_tup e2]
theorem Kp.lstR {a : Addr} {xs : List V} (k : Kp F H F' H') (f : F a) (e : Rd H a (.lst xs)) : Rd H' a (.lst xs) := by
  rcases e with e | ⟨o, e⟩
  · exact .inl (k.lst f e)
  · obtain ⟨y, e1, e2⟩ := k.rd a _ f e
    exact .inr ⟨o, by rw [e1, un_frzl e2]⟩
mutual
theorem Rp.kp (k : Kp F H F' H') : ∀ {v : V} {d : D}, Rp K F H v d → Rp K F' H' v d
  | _, _, .non => .non
  | _, _, .bl b => .bl b
  | _, _, .int i => .int i
  | _, _, .str x => .str x
  | _, _, .lst f e hs => .lst (k.sub _ f) (k.lst f e) (RpL.kp k hs)
  | _, _, .tup f e hs => .tup (k.sub _ f) (k.tup f e) (RpL.kp k hs)
  | _, _, .dk f e u hs => let ⟨_, e1, e2⟩ := k.rd _ _ f e; .dk (k.sub _ f) e1 (e2.trans u) (RpK.kp k hs)
  | _, _, .dt f e u hs => let ⟨_, e1, e2⟩ := k.rd _ _ f e; .dt (k.sub _ f) e1 (e2.trans u) (RpT.kp k hs)
  | _, _, .scr h => .scr (h.imp (fun ⟨f, r⟩ => ⟨k.sub _ f, k.lstR f r⟩) id)
theorem RpL.kp (k : Kp F H F' H') : ∀ {v : List V} {d : List D}, RpL K F H v d → RpL K F' H' v d
  | _, _, .nil => .nil
  | _, _, .cons a b => .cons (Rp.kp k a) (RpL.kp k b)
theorem RpK.kp (k : Kp F H F' H') : ∀ {v : List (Key × V)} {d : List (Key × D)}, RpK K F H v d → RpK K F' H' v d
  | _, _, .nil => .nil
  | _, _, .cons a b => .cons (Rp.kp k a) (RpK.kp k b)
theorem RpT.kp (k : Kp F H F' H') : ∀ {v : List (List Key × V)} {d : List (List Key × D)}, RpT K F H v d → RpT K F' H' v d
  | _, _, .nil => .nil
  | _, _, .cons a b => .cons (Rp.kp k a) (RpT.kp k b)
end

/-! ### growth -/
/-- all that stood stands; what is newly frozen is new -/
structure Gr (F : AP) (H : Hp) (F' : AP) (H' : Hp) : Prop where
  sub : ∀ a, F a → F' a
  new : ∀ a, F' a → F a ∨ H a = none
  same : Same H H'
  dom : ∀ a, F' a → H' a ≠ none
def Dm (F : AP) (H : Hp) : Prop := ∀ a, F a → H a ≠ none

theorem Gr.refl (d : Dm F H) : Gr F H F H := ⟨fun _ h => h, fun _ h => .inl h, Same.refl H, d⟩
theorem Gr.trans {F2 : AP} {H2 : Hp} (g : Gr F H F' H') (g' : Gr F' H' F2 H2) : Gr F H F2 H2 :=
  ⟨fun a h => g'.sub a (g.sub a h), fun a h => by
    rcases g'.new a h with h | h
    · exact g.new a h
    · exact .inr (g.same.free h), g.same.trans g'.same, g'.dom⟩
theorem rd_same {a : Addr} {u : HO} (s : Same H H') (h : Rd H a u) : Rd H' a u := by
  rcases h with h | ⟨o, h⟩
  · exact .inl (s _ _ h)
  · exact .inr ⟨o, s _ _ h⟩
theorem Gr.kp (g : Gr F H F' H') : Kp F H F' H' := ⟨g.sub, fun a x _ e => ⟨x, g.same a x e, rfl⟩, fun a o u _ e => g.same a _ e⟩
theorem Kp.refl : Kp F H F H := ⟨fun _ h => h, fun _ x _ e => ⟨x, e, rfl⟩, fun _ _ _ _ e => e⟩
theorem Kp.trans {F2 : AP} {H2 : Hp} (k : Kp F H F' H') (k' : Kp F' H' F2 H2) : Kp F H F2 H2 := ⟨fun a f => k'.sub a (k.sub a f), fun a x f e => by
  obtain ⟨y, e1, e2⟩ := k.rd a x f e
  obtain ⟨z, e3, e4⟩ := k'.rd a y (k.sub a f) e1
  exact ⟨z, e3, e4.trans e2⟩, fun a o u f e => k'.fz a o u (k.sub a f) (k.fz a o u f e)⟩

abbrev addF (F : AP) (a : Addr) : AP := fun b => F b ∨ b = a
/-- a new object, frozen at once -/
theorem same_upd {p : Addr} {o : HO} (h : H p = none) : Same H (upd H p o) := fun b x e => by
  rw [upd_ne (ne_of_none e h)]; exact e
theorem Gr.laid {p : Addr} {o : HO} (d : Dm F H) (h : H p = none) : Gr F H (addF F p) (upd H p o) :=
  ⟨fun _ f => .inl f, fun a f => f.elim .inl fun e => .inr (e ▸ h), same_upd h, fun a f => by
    by_cases e : a = p
    · rw [e, upd_same]; exact fun z => nomatch z
    · rw [upd_ne e]; exact d a (f.elim id fun z => absurd z e)⟩
/-- a new object, not frozen -/
theorem Gr.laid' {p : Addr} {o : HO} (d : Dm F H) (h : H p = none) : Gr F H F (upd H p o) :=
  ⟨fun _ f => f, fun a f => .inl f, same_upd h, fun a f => by
    have e : a ≠ p := fun z => d a f (z ▸ h)
    rw [upd_ne e]; exact d a f⟩
/-- a new thing is frozen -/
theorem Gr.add {p : Addr} (g : Gr F H F' H') (h : H p = none) (h' : H' p ≠ none) : Gr F H (addF F' p) H' :=
  ⟨fun a f => .inl (g.sub a f), fun a f => f.elim (g.new a) fun e => .inr (e ▸ h), g.same, fun a f => f.elim (g.dom a) fun e => e ▸ h'⟩
theorem Kp.add {p : Addr} : Kp F H (addF F p) H := ⟨fun _ h => .inl h, fun _ x _ e => ⟨x, e, rfl⟩, fun _ _ _ _ e => e⟩
/-- a write at what isn't frozen -/
theorem Kp.write {p : Addr} {o : HO} (h : ¬ F p) : Kp F H F (upd H p o) := ⟨fun _ h => h, fun a x f e => ⟨x, by
  have ne : a ≠ p := fun z => h (z ▸ f)
  rw [upd_ne ne]; exact e, rfl⟩, fun a o' u f e => by
  have ne : a ≠ p := fun z => h (z ▸ f)
  rw [upd_ne ne]; exact e⟩

/-! ### owned things -/
def OwAt (K : PySem.W.Frag) (F : AP) (H : Hp) (a : Addr) : D → Prop
  | .lst ds => ∃ xs, H a = some (.lst xs) ∧ RpL K F H xs ds
  | .dk es => ∃ kvs, H a = some (.dK kvs) ∧ RpK K F H kvs es
  | .dt es => ∃ kvs, H a = some (.dT kvs) ∧ RpT K F H kvs es
  | _ => False
theorem OwAt.there {a : Addr} {d : D} (h : OwAt K F H a d) : H a ≠ none := by
  cases d with
  | lst ds => obtain ⟨xs, e, _⟩ := h; rw [e]; exact fun z => nomatch z
  | dk es => obtain ⟨xs, e, _⟩ := h; rw [e]; exact fun z => nomatch z
  | dt es => obtain ⟨xs, e, _⟩ := h; rw [e]; exact fun z => nomatch z
  | _ => exact h.elim
theorem OwAt.mut {a : Addr} {d : D} (h : OwAt K F H a d) : d.isMut = true := by
  cases d <;> first | rfl | exact h.elim
theorem OwAt.kp {a : Addr} {d : D} (h : OwAt K F H a d) (k : Kp F H F' H') (e : H' a = H a) : OwAt K F' H' a d := by
  cases d with
  | lst ds => obtain ⟨xs, e1, r⟩ := h; exact ⟨xs, e.trans e1, r.kp k⟩
  | dk es => obtain ⟨xs, e1, r⟩ := h; exact ⟨xs, e.trans e1, r.kp k⟩
  | dt es => obtain ⟨xs, e1, r⟩ := h; exact ⟨xs, e.trans e1, r.kp k⟩
  | _ => exact h.elim
theorem OwAt.freeze {a : Addr} {d : D} (h : OwAt K F H a d) : Rp K (addF F a) H (.ref a) d := by
  cases d with
  | lst ds => obtain ⟨xs, e1, r⟩ := h; exact .lst (.inr rfl) e1 (r.kp Kp.add)
  | dk es => obtain ⟨xs, e1, r⟩ := h; exact .dk (.inr rfl) e1 rfl (r.kp Kp.add)
  | dt es => obtain ⟨xs, e1, r⟩ := h; exact .dt (.inr rfl) e1 rfl (r.kp Kp.add)
  | _ => exact h.elim

/-- a value that comes: its own, at an address that N allows, or frozen -/
def RpO (K : PySem.W.Frag) (o : Bool) (F : AP) (H : Hp) (N : AP) (v : V) (d : D) : Prop :=
  if (o && d.isMut) = true then ∃ a, v = .ref a ∧ N a ∧ ¬ F a ∧ OwAt K F H a d else Rp K F H v d
theorem RpO.no {N : AP} {v : V} {d : D} (h : RpO K false F H N v d) : Rp K F H v d := h
theorem RpO.of {o : Bool} {N : AP} {v : V} {d : D} (h : Rp K F H v d) (m : (o && d.isMut) = false) : RpO K o F H N v d := by
  unfold RpO; rw [if_neg (by rw [m]; exact Bool.false_ne_true)]; exact h
theorem RpO.flat {o : Bool} {N : AP} {v : V} {d : D} (h : Rp K F H v d) (m : d.isMut = false) : RpO K o F H N v d := RpO.of h (by rw [m, Bool.and_false])
theorem RpO.own {N : AP} {a : Addr} {d : D} (n : N a) (f : ¬ F a) (h : OwAt K F H a d) : RpO K true F H N (.ref a) d := by
  unfold RpO; rw [if_pos (by rw [h.mut]; rfl)]; exact ⟨a, rfl, n, f, h⟩
theorem RpO.imp {o : Bool} {N N' : AP} {v : V} {d : D} (h : RpO K o F H N v d) (hN : ∀ a, N a → N' a) : RpO K o F H N' v d := by
  unfold RpO at h ⊢
  split at h
  · rename_i c; rw [if_pos c]; obtain ⟨a, e, n, r⟩ := h; exact ⟨a, e, hN a n, r⟩
  · rename_i c; rw [if_neg c]; exact h

/-- what can be looked at: the outermost thing need not be frozen -/
def Sh (K : PySem.W.Frag) (F : AP) (H : Hp) (v : V) : D → Prop
  | .lst ds => ∃ a xs, v = .ref a ∧ H a = some (.lst xs) ∧ RpL K F H xs ds
  | .tup ds => ∃ a xs, v = .ref a ∧ F a ∧ H a = some (.tup xs) ∧ RpL K F H xs ds
  | .dk es => ∃ a kvs, v = .ref a ∧ Rd H a (.dK kvs) ∧ RpK K F H kvs es
  | .dt es => ∃ a kvs, v = .ref a ∧ Rd H a (.dT kvs) ∧ RpT K F H kvs es
  | .scr ns => ∃ a, v = .ref a ∧ SqL K H a (ns.map V.int)
  | d => Rp K F H v d
theorem Rp.sh : ∀ {v : V} {d : D}, Rp K F H v d → Sh K F H v d
  | _, _, .non => .non
  | _, _, .bl b => .bl b
  | _, _, .int i => .int i
  | _, _, .str x => .str x
  | _, _, .lst f e hs => ⟨_, _, rfl, e, hs⟩
  | _, _, .tup f e hs => ⟨_, _, rfl, f, e, hs⟩
  | _, _, .dk f e u hs => ⟨_, _, rfl, un_dk e u, hs⟩
  | _, _, .dt f e u hs => ⟨_, _, rfl, un_dt e u, hs⟩
  | _, _, .scr h => ⟨_, rfl, h.imp And.right id⟩
theorem OwAt.sh {a : Addr} {d : D} (h : OwAt K F H a d) : Sh K F H (.ref a) d := by
  cases d with
  | lst ds => obtain ⟨xs, e1, r⟩ := h; exact ⟨a, xs, rfl, e1, r⟩
  | dk es => obtain ⟨xs, e1, r⟩ := h; exact ⟨a, xs, rfl, .inl e1, r⟩
  | dt es => obtain ⟨xs, e1, r⟩ := h; exact ⟨a, xs, rfl, .inl e1, r⟩
  | _ => exact h.elim
theorem RpO.sh {o : Bool} {N : AP} {v : V} {d : D} (h : RpO K o F H N v d) : Sh K F H v d := by
  unfold RpO at h
  split at h
  · obtain ⟨a, rfl, _, _, w⟩ := h; exact w.sh
  · exact h.sh
theorem Sh.gr {v : V} {d : D} (h : Sh K F H v d) (g : Gr F H F' H') : Sh K F' H' v d := by
  cases d with
  | lst ds => obtain ⟨a, xs, e, r, c⟩ := h; exact ⟨a, xs, e, g.same _ _ r, c.kp g.kp⟩
  | tup ds => obtain ⟨a, xs, e, f, r, c⟩ := h; exact ⟨a, xs, e, g.sub a f, g.same _ _ r, c.kp g.kp⟩
  | dk es => obtain ⟨a, xs, e, r, c⟩ := h; exact ⟨a, xs, e, rd_same g.same r, c.kp g.kp⟩
  | dt es => obtain ⟨a, xs, e, r, c⟩ := h; exact ⟨a, xs, e, rd_same g.same r, c.kp g.kp⟩
  | scr ns => obtain ⟨a, e, r⟩ := h; exact ⟨a, e, g.same.seq r⟩
  | non => exact Rp.kp g.kp (v := v) h
  | bl b => exact Rp.kp g.kp (v := v) h
  | int i => exact Rp.kp g.kp (v := v) h
  | str x => exact Rp.kp g.kp (v := v) h
theorem Sh.tup {v : V} {ds : List D} (h : Sh K F H v (.tup ds)) : Rp K F H v (.tup ds) := by
  obtain ⟨a, xs, rfl, f, e, r⟩ := h
  exact .tup f e r
/-- what is no list and no dict is frozen -/
theorem Sh.flat {v : V} {d : D} (h : Sh K F H v d) (m : d.isMut = false) (n : ∀ ns, d ≠ .scr ns) : Rp K F H v d := by
  cases d with
  | lst ds => cases m
  | dk es => cases m
  | dt es => cases m
  | scr ns => exact absurd rfl (n ns)
  | tup ds => exact h.tup
  | _ => exact h
/-- own things that come stay while more is reckoned -/
theorem RpO.gr {o : Bool} {N : AP} {v : V} {d : D} (h : RpO K o F H N v d) (g : Gr F H F' H') : RpO K o F' H' N v d := by
  unfold RpO at h ⊢
  split at h
  · rename_i c
    rw [if_pos c]
    obtain ⟨a, e, n, f, w⟩ := h
    have hx : H' a = H a := by
      cases q : H a with
      | none => exact absurd q w.there
      | some u => exact g.same a u q
    exact ⟨a, e, n, fun f' => (g.new a f').elim f w.there, w.kp g.kp hx⟩
  · rename_i c
    rw [if_neg c]
    exact h.kp g.kp
/-- it is frozen -/
theorem RpO.freeze {o : Bool} {F0 : AP} {H0 : Hp} {v : V} {d : D} (g : Gr F0 H0 F H) (h : RpO K o F H (fun a => H0 a = none) v d) : ∃ F', Gr F0 H0 F' H ∧ Kp F H F' H ∧ Rp K F' H v d := by
  unfold RpO at h
  split at h
  · obtain ⟨a, e, n, f, w⟩ := h
    exact ⟨addF F a, g.add n w.there, Kp.add, e ▸ w.freeze⟩
  · exact ⟨F, g, Kp.refl, h⟩

/-! ### lists -/
theorem RpL.length : ∀ {xs : List V} {ds : List D}, RpL K F H xs ds → xs.length = ds.length
  | _, _, .nil => rfl
  | _, _, .cons _ r => by rw [List.length_cons, List.length_cons, RpL.length r]
theorem RpL.get : ∀ {xs : List V} {ds : List D} {i : Nat} {d : D}, RpL K F H xs ds → ds[i]? = some d → ∃ v, xs[i]? = some v ∧ Rp K F H v d
  | _, _, _, _, .nil, e => by simp at e
  | _, _, 0, _, .cons r _, e => by simp at e; subst e; exact ⟨_, rfl, r⟩
  | _, _, i + 1, d, .cons _ t, e => by
    obtain ⟨u, h1, h2⟩ := RpL.get (i := i) (d := d) t (by simpa using e)
    exact ⟨u, by simpa using h1, h2⟩
theorem RpL.getV : ∀ {xs : List V} {ds : List D} {i : Nat} {v : V}, RpL K F H xs ds → xs[i]? = some v → ∃ d, ds[i]? = some d ∧ Rp K F H v d
  | _, _, _, _, .nil, e => by simp at e
  | _, _, 0, _, .cons r _, e => by simp at e; subst e; exact ⟨_, rfl, r⟩
  | _, _, i + 1, d, .cons _ t, e => by
    obtain ⟨u, h1, h2⟩ := RpL.getV (i := i) (v := d) t (by simpa using e)
    exact ⟨u, by simpa using h1, h2⟩
theorem RpL.append : ∀ {xs ys : List V} {ds es : List D}, RpL K F H xs ds → RpL K F H ys es → RpL K F H (xs ++ ys) (ds ++ es)
  | _, _, _, _, .nil, s => s
  | _, _, _, _, .cons r t, s => .cons r (RpL.append t s)
theorem RpL.take : ∀ {xs : List V} {ds : List D} (n : Nat), RpL K F H xs ds → RpL K F H (xs.take n) (ds.take n)
  | _, _, 0, _ => .nil
  | _, _, _ + 1, .nil => .nil
  | _, _, n + 1, .cons r t => .cons r (RpL.take n t)
theorem RpL.drop : ∀ {xs : List V} {ds : List D} (n : Nat), RpL K F H xs ds → RpL K F H (xs.drop n) (ds.drop n)
  | _, _, 0, r => r
  | _, _, _ + 1, .nil => .nil
  | _, _, n + 1, .cons _ t => RpL.drop n t
theorem RpL.set {v : V} {d : D} (r : Rp K F H v d) : ∀ {xs : List V} {ds : List D} (i : Nat), RpL K F H xs ds → RpL K F H (xs.set i v) (ds.set i d)
  | _, _, _, .nil => .nil
  | _, _, 0, .cons _ t => .cons r t
  | _, _, i + 1, .cons q t => .cons q (RpL.set r i t)
theorem RpL.reverse {xs : List V} {ds : List D} (h : RpL K F H xs ds) : RpL K F H xs.reverse ds.reverse := by
  induction xs generalizing ds with
  | nil => cases h; exact .nil
  | cons x xs ih =>
    cases h with
    | cons r t =>
      rw [List.reverse_cons, List.reverse_cons]
      exact (ih t).append (.cons r .nil)
theorem RpL.flat {xs : List V} {ds : List D} (h : RpL K F H xs ds) : ∀ n, RpL K F H (List.replicate n xs).flatten (List.replicate n ds).flatten
  | 0 => .nil
  | n + 1 => by
    rw [List.replicate_succ, List.replicate_succ, List.flatten_cons, List.flatten_cons]
    exact h.append (RpL.flat h n)
theorem RpL.one {v : V} {d : D} (h : Rp K F H v d) : RpL K F H [v] [d] := .cons h .nil

theorem Rp.int_of {v : V} {i : Int} (h : Rp K F H v (.int i)) : v = .int i := by cases h; rfl
theorem Rp.bl_of {v : V} {i : Bool} (h : Rp K F H v (.bl i)) : v = .bl i := by cases h; rfl
theorem Rp.str_of {v : V} {i : Str} (h : Rp K F H v (.str i)) : v = .str i := by cases h; rfl
theorem Rp.non_of {v : V} (h : Rp K F H v .non) : v = .non := by cases h; rfl

/-! ### slots -/
def SlotOk (K : PySem.W.Frag) (F : AP) (H : Hp) (x : Option V) (d : Option D) (o : Bool) : Prop :=
  match d with
  | none => True
  | some d => if (o && d.isMut) = true then ∃ a, x = some (.ref a) ∧ ¬ F a ∧ OwAt K F H a d else ∃ v, x = some v ∧ Rp K F H v d
/-- the slot i owns the thing at a -/
def Owns (σ : L2.St) (env : En) (own : Ow) (i : Nat) (a : Addr) : Prop :=
  own.getD i false = true ∧ (∃ d, env.getD i none = some d ∧ d.isMut = true) ∧ σ.getD i none = some (.ref a)
structure St (K : PySem.W.Frag) (F : AP) (H : Hp) (σ : L2.St) (env : En) (own : Ow) : Prop where
  len : env.length = σ.length
  lenO : own.length = env.length
  slot : ∀ i, SlotOk K F H (σ.getD i none) (env.getD i none) (own.getD i false)
  apart : ∀ i j a, Owns σ env own i a → Owns σ env own j a → i = j
/-- a def's body under way: F0, H0 at its entry -/
structure Stt (K : PySem.W.Frag) (F0 : AP) (H0 : Hp) (F : AP) (H : Hp) (σ : L2.St) (env : En) (own : Ow) : Prop where
  st : St K F H σ env own
  gr : Gr F0 H0 F H
  nw : ∀ i a, Owns σ env own i a → H0 a = none

theorem SlotOk.at {x : Option V} {d : D} {a : Addr} (h : SlotOk K F H x (some d) true) (m : d.isMut = true) (e : x = some (.ref a)) : ¬ F a ∧ OwAt K F H a d := by
  unfold SlotOk at h
  simp only [m, Bool.and_self, if_true] at h
  obtain ⟨b, e', f, w⟩ := h
  rw [e] at e'
  cases e'
  exact ⟨f, w⟩
theorem St.owns {σ : L2.St} {env : En} {own : Ow} {i : Nat} {a : Addr} (s : St K F H σ env own) (o : Owns σ env own i a) : ¬ F a ∧ ∃ d, env.getD i none = some d ∧ OwAt K F H a d := by
  obtain ⟨o1, ⟨d, e, m⟩, o2⟩ := o
  have q := s.slot i
  rw [e, o1] at q
  have z := q.at m o2
  exact ⟨z.1, d, e, z.2⟩
/-- the general move: what is frozen is kept, each owned thing as it was -/
theorem St.kp {σ : L2.St} {env : En} {own : Ow} (s : St K F H σ env own) (k : Kp F H F' H') (ho : ∀ i a, Owns σ env own i a → H' a = H a ∧ ¬ F' a) : St K F' H' σ env own := by
  refine ⟨s.len, s.lenO, fun i => ?_, s.apart⟩
  have q := s.slot i
  unfold SlotOk at q ⊢
  cases e : env.getD i none with
  | none => trivial
  | some d =>
    rw [e] at q
    simp only at q ⊢
    split at q
    · rename_i c
      rw [if_pos c]
      obtain ⟨a, e1, f, w⟩ := q
      rw [Bool.and_eq_true] at c
      have z := ho i a ⟨c.1, ⟨d, e, c.2⟩, e1⟩
      exact ⟨a, e1, z.2, w.kp k z.1⟩
    · rename_i c
      rw [if_neg c]
      obtain ⟨v, e1, r⟩ := q
      exact ⟨v, e1, r.kp k⟩
theorem St.gr {σ : L2.St} {env : En} {own : Ow} (s : St K F H σ env own) (g : Gr F H F' H') : St K F' H' σ env own :=
  s.kp g.kp fun i a o => by
    obtain ⟨f, d, e, w⟩ := s.owns o
    refine ⟨?_, fun f' => (g.new a f').elim f w.there⟩
    cases q : H a with
    | none => exact absurd q w.there
    | some u => exact g.same a u q
theorem Stt.grow {F0 : AP} {H0 : Hp} {σ : L2.St} {env : En} {own : Ow} (s : Stt K F0 H0 F H σ env own) (g : Gr F H F' H') : Stt K F0 H0 F' H' σ env own := ⟨s.st.gr g, s.gr.trans g, s.nw⟩
theorem Stt.dm {F0 : AP} {H0 : Hp} {σ : L2.St} {env : En} {own : Ow} (s : Stt K F0 H0 F H σ env own) : Dm F H := s.gr.dom

/-! ### slots set, things frozen, flags forgotten -/
theorem getD_set {α : Type} (x d : α) : ∀ (l : List α) (i j : Nat), (l.set i x).getD j d = if j = i ∧ i < l.length then x else l.getD j d
  | [], i, j => by simp
  | y :: r, 0, 0 => by simp
  | y :: r, 0, j + 1 => by simp
  | y :: r, i + 1, 0 => by simp
  | y :: r, i + 1, j + 1 => by
    have q := getD_set x d r i j
    rw [List.set_cons_succ, List.getD_cons_succ, q, List.getD_cons_succ, List.length_cons]
    by_cases h : j = i ∧ i < r.length
    · rw [if_pos h, if_pos ⟨by omega, by omega⟩]
    · rw [if_neg h, if_neg (by omega)]
theorem getD_set_ne {α : Type} {x d : α} {l : List α} {i j : Nat} (h : j ≠ i) : (l.set i x).getD j d = l.getD j d := by
  rw [getD_set, if_neg (fun z => h z.1)]
theorem own_set_false {own : Ow} {i j : Nat} (h : (own.set i false).getD j false = true) : own.getD j false = true ∧ j ≠ i := by
  rw [getD_set] at h
  by_cases c : j = i ∧ i < own.length
  · rw [if_pos c] at h; cases h
  · rw [if_neg c] at h
    refine ⟨h, fun e => c ⟨e, ?_⟩⟩
    subst e
    by_cases l : j < own.length
    · exact l
    · rw [List.getD_eq_getElem?_getD, List.getElem?_eq_none (by omega)] at h; cases h
theorem own_set_false' {own : Ow} {i j : Nat} (h : (own.set i false).getD j false = false) : own.getD j false = false ∨ j = i := by
  rw [getD_set] at h
  by_cases c : j = i ∧ i < own.length
  · exact .inr c.1
  · rw [if_neg c] at h; exact .inl h

section
variable {F0 : AP} {H0 : Hp} {σ : L2.St} {env : En} {own : Ow} {i : Nat}
/-- flags forgotten where nothing is owned -/
theorem SlotOk.forget {x : Option V} {d : Option D} (h : SlotOk K F H x d true) (n : ∀ a, ¬ ((∃ e, d = some e ∧ e.isMut = true) ∧ x = some (.ref a))) : SlotOk K F H x d false := by
  unfold SlotOk at h ⊢
  cases d with
  | none => trivial
  | some d =>
    simp only at h ⊢
    rw [if_neg (by simp)]
    split at h
    · rename_i c
      obtain ⟨a, e, _⟩ := h
      exact absurd ⟨⟨d, rfl, by simpa using c⟩, e⟩ (n a)
    · exact h
theorem Stt.drop1 (s : Stt K F0 H0 F H σ env own) (i : Nat) : ∃ F', Stt K F0 H0 F' H σ env (own.set i false) ∧ Kp F H F' H := by
  have sub : ∀ j a, Owns σ env (own.set i false) j a → Owns σ env own j a ∧ j ≠ i := fun j a o => ⟨⟨(own_set_false o.1).1, o.2⟩, (own_set_false o.1).2⟩
  by_cases h : ∃ a, Owns σ env own i a
  · obtain ⟨a, o⟩ := h
    obtain ⟨f, d, e, w⟩ := s.st.owns o
    refine ⟨addF F a, ⟨⟨s.st.len, by rw [List.length_set]; exact s.st.lenO, fun j => ?_, fun j k b o1 o2 => s.st.apart j k b (sub j b o1).1 (sub k b o2).1⟩, s.gr.add (s.nw i a o) w.there, fun j b o' => s.nw j b (sub j b o').1⟩, Kp.add⟩
    by_cases hj : j = i
    · subst hj
      rw [e, o.2.2]
      have z : (own.set j false).getD j false = false := by
        cases q : (own.set j false).getD j false with
        | false => rfl
        | true => exact absurd rfl (own_set_false q).2
      rw [z]
      exact ⟨_, rfl, w.freeze⟩
    · rw [getD_set_ne hj]
      have q := s.st.slot j
      unfold SlotOk at q ⊢
      cases e2 : env.getD j none with
      | none => trivial
      | some d2 =>
        rw [e2] at q
        simp only at q ⊢
        split at q
        · rename_i c
          rw [if_pos c]
          obtain ⟨b, e3, f3, w3⟩ := q
          rw [Bool.and_eq_true] at c
          refine ⟨b, e3, fun z => z.elim f3 fun z => hj ?_, w3.kp Kp.add rfl⟩
          subst z
          exact s.st.apart j i b ⟨c.1, ⟨d2, e2, c.2⟩, e3⟩ o
        · rename_i c
          rw [if_neg c]
          obtain ⟨v, e3, r⟩ := q
          exact ⟨v, e3, r.kp Kp.add⟩
  · refine ⟨F, ⟨⟨s.st.len, by rw [List.length_set]; exact s.st.lenO, fun j => ?_, fun j k b o1 o2 => s.st.apart j k b (sub j b o1).1 (sub k b o2).1⟩, s.gr, fun j b o' => s.nw j b (sub j b o').1⟩, Kp.refl⟩
    have q := s.st.slot j
    by_cases hj : j = i
    · subst hj
      cases e1 : own.getD j false with
      | false =>
        have z : (own.set j false).getD j false = false := by
          cases q : (own.set j false).getD j false with
          | false => rfl
          | true => exact absurd rfl (own_set_false q).2
        rw [z]; rw [e1] at q; exact q
      | true =>
        have z : (own.set j false).getD j false = false := by
          cases q : (own.set j false).getD j false with
          | false => rfl
          | true => exact absurd rfl (own_set_false q).2
        rw [z]; rw [e1] at q
        exact q.forget fun a c => h ⟨a, e1, c.1, c.2⟩
    · rw [getD_set_ne hj]; exact q
theorem Stt.drop (s : Stt K F0 H0 F H σ env own) : ∀ is : List Nat, ∃ F', Stt K F0 H0 F' H σ env (dropO own is) ∧ Kp F H F' H
  | [] => ⟨F, s, Kp.refl⟩
  | i :: is => by
    obtain ⟨F1, s1, k1⟩ := s.drop is
    obtain ⟨F2, s2, k2⟩ := s1.drop1 i
    exact ⟨F2, s2, k1.trans k2⟩
/-- fewer flags -/
theorem leO_get : ∀ {a b : Ow} {i : Nat}, leO a b = true → a.getD i false = true → b.getD i false = true
  | [], [], _, _, h => h
  | [], _ :: _, _, h, _ => by cases h
  | _ :: _, [], _, h, _ => by cases h
  | x :: r, y :: t, 0, h, e => by
    have h : ((!x || y) && leO r t) = true := h
    rw [Bool.and_eq_true] at h
    have e : x = true := e
    subst e
    simpa using h.1
  | x :: r, y :: t, i + 1, h, e => by
    have h : ((!x || y) && leO r t) = true := h
    rw [Bool.and_eq_true] at h
    exact leO_get (a := r) (b := t) (i := i) h.2 e
theorem leO_len : ∀ {a b : Ow}, leO a b = true → a.length = b.length
  | [], [], _ => rfl
  | [], _ :: _, h => by cases h
  | _ :: _, [], h => by cases h
  | x :: r, y :: t, h => by
    have h : ((!x || y) && leO r t) = true := h
    rw [Bool.and_eq_true] at h
    rw [List.length_cons, List.length_cons, leO_len h.2]
theorem dropO_get : ∀ {own : Ow} {is : List Nat} {j : Nat}, (dropO own is).getD j false = true → own.getD j false = true ∧ j ∉ is
  | own, [], j, h => ⟨h, by simp⟩
  | own, i :: is, j, h => by
    have q := own_set_false (own := dropO own is) h
    have p := dropO_get q.1
    exact ⟨p.1, by simp only [List.mem_cons, not_or]; exact ⟨q.2, p.2⟩⟩
theorem dropO_keep : ∀ {own : Ow} {is : List Nat} {j : Nat}, own.getD j false = true → j ∉ is → (dropO own is).getD j false = true
  | own, [], j, h, _ => h
  | own, i :: is, j, h, n => by
    simp only [List.mem_cons, not_or] at n
    show ((dropO own is).set i false).getD j false = true
    rw [getD_set_ne n.1]
    exact dropO_keep h n.2
/-- only the flags' truth counts: own' below own by places -/
theorem Stt.weaken (s : Stt K F0 H0 F H σ env own) {own' : Ow} (hlen : own'.length = own.length) (hl : ∀ j, own'.getD j false = true → own.getD j false = true) : ∃ F', Stt K F0 H0 F' H σ env own' ∧ Kp F H F' H := by
  -- drop all names that own' has not
  obtain ⟨F', s', k'⟩ := s.drop ((List.range own.length).filter fun j => !own'.getD j false)
  refine ⟨F', ?_, k'⟩
  have same : ∀ j, (dropO own ((List.range own.length).filter fun j => !own'.getD j false)).getD j false = own'.getD j false := fun j => by
    cases e : own'.getD j false with
    | true =>
      refine dropO_keep (hl j e) fun z => ?_
      have h2 := (List.mem_filter.mp z).2
      rw [e] at h2
      cases h2
    | false =>
      cases q : (dropO own ((List.range own.length).filter fun j => !own'.getD j false)).getD j false with
      | false => rfl
      | true =>
        obtain ⟨q1, q2⟩ := dropO_get q
        refine absurd (List.mem_filter.mpr ⟨List.mem_range.mpr ?_, by rw [e]; rfl⟩) q2
        by_cases l : j < own.length
        · exact l
        · rw [List.getD_eq_getElem?_getD, List.getElem?_eq_none (by omega)] at q1; cases q1
  have ow : ∀ j a, Owns σ env own' j a → Owns σ env (dropO own ((List.range own.length).filter fun j => !own'.getD j false)) j a := fun j a o => ⟨by rw [same]; exact o.1, o.2⟩
  exact ⟨⟨s'.st.len, hlen.trans s.st.lenO, fun j => by rw [← same]; exact s'.st.slot j, fun j k b o1 o2 => s'.st.apart j k b (ow j b o1) (ow k b o2)⟩, s'.gr, fun j b o => s'.nw j b (ow j b o)⟩
theorem Stt.le (s : Stt K F0 H0 F H σ env own) {own' : Ow} (hl : leO own' own = true) : ∃ F', Stt K F0 H0 F' H σ env own' ∧ Kp F H F' H := s.weaken (leO_len hl) fun j e => leO_get hl e
theorem getD_out {α : Type} {l : List α} {i : Nat} {d : α} (h : ¬ i < l.length) : l.getD i d = d := by
  rw [List.getD_eq_getElem?_getD, List.getElem?_eq_none (by omega)]; rfl
theorem getD_self {α : Type} {l : List α} {i : Nat} {x d : α} (h : i < l.length) : (l.set i x).getD i d = x := by
  rw [getD_set, if_pos ⟨rfl, h⟩]
theorem set_out {α : Type} {l : List α} {i : Nat} {x : α} (h : ¬ i < l.length) : l.set i x = l := List.set_eq_of_length_le (by omega)
/-- a value of any kind into a slot -/
theorem Stt.setO (s : Stt K F0 H0 F H σ env own) {v : V} {d : D} {o : Bool} {N : AP} (r : RpO K o F H N v d) (hN : ∀ a, N a → H0 a = none ∧ ∀ j, ¬ Owns σ env own j a) (i : Nat) : Stt K F0 H0 F H (σ.set i (some v)) (env.set i (some d)) (own.set i o) := by
  by_cases l : i < env.length
  case neg =>
    rw [set_out (by rw [← s.st.len]; exact l), set_out l, set_out (by rw [s.st.lenO]; exact l)]
    exact s
  have lσ : i < σ.length := by rw [← s.st.len]; exact l
  have lo : i < own.length := by rw [s.st.lenO]; exact l
  have sub : ∀ j b, j ≠ i → Owns (σ.set i (some v)) (env.set i (some d)) (own.set i o) j b → Owns σ env own j b := fun j b hj o => by
    obtain ⟨o1, o2, o3⟩ := o
    rw [getD_set_ne hj] at o1 o2 o3
    exact ⟨o1, o2, o3⟩
  have at_i : ∀ b, Owns (σ.set i (some v)) (env.set i (some d)) (own.set i o) i b → N b := fun b ob => by
    obtain ⟨o1, ⟨d', o2, m⟩, o3⟩ := ob
    rw [getD_self lo] at o1
    rw [getD_self l] at o2
    rw [getD_self lσ] at o3
    cases o2
    cases o3
    subst o1
    unfold RpO at r
    rw [if_pos (by rw [m]; rfl)] at r
    obtain ⟨a, e, n, _⟩ := r
    cases e
    exact n
  refine ⟨⟨by rw [List.length_set, List.length_set]; exact s.st.len, by rw [List.length_set, List.length_set]; exact s.st.lenO, fun j => ?_, fun j k b o1 o2 => ?_⟩, s.gr, fun j b o => ?_⟩
  · by_cases hj : j = i
    · subst hj
      rw [getD_self l, getD_self lσ, getD_self lo]
      unfold SlotOk
      unfold RpO at r
      simp only
      split at r
      · rename_i c
        rw [if_pos c]
        obtain ⟨a, e, n, f, w⟩ := r
        exact ⟨a, by rw [e], f, w⟩
      · rename_i c
        rw [if_neg c]
        exact ⟨v, rfl, r⟩
    · rw [getD_set_ne hj, getD_set_ne hj, getD_set_ne hj]; exact s.st.slot j
  · by_cases hj : j = i
    · by_cases hk : k = i
      · rw [hj, hk]
      · subst hj
        exact absurd (sub k b hk o2) ((hN b (at_i b o1)).2 k)
    · by_cases hk : k = i
      · subst hk
        exact absurd (sub j b hj o1) ((hN b (at_i b o2)).2 j)
      · exact s.st.apart j k b (sub j b hj o1) (sub k b hk o2)
  · by_cases hj : j = i
    · subst hj
      exact (hN b (at_i b o)).1
    · exact s.nw j b (sub j b hj o)
theorem Stt.set (s : Stt K F0 H0 F H σ env own) {v : V} {d : D} (r : Rp K F H v d) (i : Nat) : Stt K F0 H0 F H (σ.set i (some v)) (env.set i (some d)) (own.set i false) :=
  s.setO (o := false) (N := fun _ => False) (RpO.of r rfl) (fun _ z => z.elim) i
/-- a slot is emptied -/
theorem Stt.unset (s : Stt K F0 H0 F H σ env own) (i : Nat) (x : Option V) : Stt K F0 H0 F H (σ.set i x) (env.set i none) own := by
  have sub : ∀ j b, Owns (σ.set i x) (env.set i none) own j b → Owns σ env own j b := fun j b o => by
    obtain ⟨o1, ⟨d, o2, m⟩, o3⟩ := o
    have hj : j ≠ i := fun e => by
      subst e
      by_cases l : j < env.length
      · rw [getD_self l] at o2; cases o2
      · rw [set_out l, getD_out l] at o2; cases o2
    rw [getD_set_ne hj] at o2 o3
    exact ⟨o1, ⟨d, o2, m⟩, o3⟩
  refine ⟨⟨by rw [List.length_set, List.length_set]; exact s.st.len, by rw [List.length_set]; exact s.st.lenO, fun j => ?_, fun j k b o1 o2 => s.st.apart j k b (sub j b o1) (sub k b o2)⟩, s.gr, fun j b o => s.nw j b (sub j b o)⟩
  by_cases hj : j = i
  · subst hj
    by_cases l : j < env.length
    · rw [getD_self l]; trivial
    · rw [set_out l, getD_out l]; trivial
  · rw [getD_set_ne hj, getD_set_ne hj]; exact s.st.slot j
/-- an owned thing is changed -/
theorem Stt.write (s : Stt K F0 H0 F H σ env own) {a : Addr} {d : D} {u : HO} (o : Owns σ env own i a) (w : OwAt K F (upd H a u) a d) : Stt K F0 H0 F (upd H a u) σ (env.set i (some d)) own := by
  obtain ⟨f, d0, e0, w0⟩ := s.st.owns o
  have l : i < env.length := by
    by_cases l : i < env.length
    · exact l
    · rw [getD_out l] at e0; cases e0
  have sub : ∀ j b, Owns σ (env.set i (some d)) own j b → Owns σ env own j b := fun j b ob => by
    obtain ⟨o1, ⟨d', o2, m⟩, o3⟩ := ob
    by_cases hj : j = i
    · subst hj
      exact ⟨o1, ⟨d0, e0, w0.mut⟩, o3⟩
    · rw [getD_set_ne hj] at o2
      exact ⟨o1, ⟨d', o2, m⟩, o3⟩
  have k : Kp F H F (upd H a u) := Kp.write f
  refine ⟨⟨by rw [List.length_set]; exact s.st.len, by rw [List.length_set]; exact s.st.lenO, fun j => ?_, fun j k b o1 o2 => s.st.apart j k b (sub j b o1) (sub k b o2)⟩, ⟨s.gr.sub, s.gr.new, fun b x e => ?_, fun b fb => ?_⟩, fun j b ob => s.nw j b (sub j b ob)⟩
  · by_cases hj : j = i
    · subst hj
      rw [getD_self l, o.1, o.2.2]
      unfold SlotOk
      simp only
      rw [if_pos (by rw [w.mut]; rfl)]
      exact ⟨a, rfl, f, w⟩
    · rw [getD_set_ne hj]
      have q := s.st.slot j
      unfold SlotOk at q ⊢
      cases e2 : env.getD j none with
      | none => trivial
      | some d2 =>
        rw [e2] at q
        simp only at q ⊢
        split at q
        · rename_i c
          rw [if_pos c]
          obtain ⟨b, e3, f3, w3⟩ := q
          rw [Bool.and_eq_true] at c
          have nb : b ≠ a := fun z => by
            subst z
            exact hj (s.st.apart j i b ⟨c.1, ⟨d2, e2, c.2⟩, e3⟩ o)
          exact ⟨b, e3, f3, w3.kp k (upd_ne nb)⟩
        · rename_i c
          rw [if_neg c]
          obtain ⟨v, e3, r⟩ := q
          exact ⟨v, e3, r.kp k⟩
  · have nb : b ≠ a := fun z => by rw [z, s.nw i a o] at e; cases e
    rw [upd_ne nb]; exact s.gr.same b x e
  · have nb : b ≠ a := fun z => f (z ▸ fb)
    rw [upd_ne nb]; exact s.gr.dom b fb
/-- the value in a slot, looked at -/
theorem Stt.look (s : Stt K F0 H0 F H σ env own) {d : D} (e : env.getD i none = some d) : ∃ v, σ[i]? = some (some v) ∧ Sh K F H v d := by
  have q := s.st.slot i
  rw [e] at q
  unfold SlotOk at q
  have tr : ∀ v, σ.getD i none = some v → σ[i]? = some (some v) := fun v h => by
    rw [List.getD_eq_getElem?_getD] at h
    cases z : σ[i]? with
    | none => rw [z] at h; cases h
    | some x => rw [z] at h; exact congrArg some h
  simp only at q
  split at q
  · obtain ⟨a, e1, _, w⟩ := q
    exact ⟨_, tr _ e1, w.sh⟩
  · obtain ⟨v, e1, r⟩ := q
    exact ⟨v, tr _ e1, r.sh⟩
/-- .. taken: where the slot owns nothing -/
theorem Stt.take (s : Stt K F0 H0 F H σ env own) {d : D} (e : env.getD i none = some d) (o : own.getD i false = false) : ∃ v, σ[i]? = some (some v) ∧ Rp K F H v d := by
  have q := s.st.slot i
  rw [e, o] at q
  unfold SlotOk at q
  simp only at q
  rw [if_neg (by simp)] at q
  obtain ⟨v, e1, r⟩ := q
  refine ⟨v, ?_, r⟩
  rw [List.getD_eq_getElem?_getD] at e1
  cases z : σ[i]? with
  | none => rw [z] at e1; cases e1
  | some x => rw [z] at e1; exact congrArg some e1
end
end
end Pv

/-! Pv3: operators, subscripts, slices by data. -/
namespace Pv
open PySem PySem.Spec PyProof.Rows L2

/-- what is wanted of a value that is made -/
abbrev Kt (K : PySem.W.Frag) (F : AP) (H : Hp) (o : Bool) (d : D) (Q : VK) : Prop := ∀ F' H' v, Gr F H F' H' → RpO K o F' H' (fun a => H a = none) v d → Q v H'
section
variable {K : PySem.W.Frag} {F : AP} {H : Hp} {o : Bool} {d : D} {Q : VK}
theorem Kt.flat {v : V} (k : Kt K F H o d Q) (dm : Dm F H) (r : Rp K F H v d) (m : d.isMut = false) : Q v H := k F H v (Gr.refl dm) (RpO.flat r m)
theorem Kt.int {i : Int} (k : Kt K F H o (.int i) Q) (dm : Dm F H) : Q (.int i) H := k.flat dm (.int i) rfl
theorem Kt.bl {i : Bool} (k : Kt K F H o (.bl i) Q) (dm : Dm F H) : Q (.bl i) H := k.flat dm (.bl i) rfl
/-- a frozen thing that stands already -/
theorem Kt.old {v : V} (k : Kt K F H false d Q) (dm : Dm F H) (r : Rp K F H v d) : Q v H := k F H v (Gr.refl dm) (RpO.of r rfl)
theorem Kt.newTup {ds : List D} {xs : List V} (k : Kt K F H o (.tup ds) Q) (dm : Dm F H) (r : RpL K F H xs ds) : ∀ p, H p = none → Q (.ref p) (upd H p (.tup xs)) := fun p hp =>
  k _ _ _ (Gr.laid dm hp) (RpO.flat (.tup (.inr rfl) upd_same (r.kp (Gr.laid dm hp).kp)) rfl)
theorem Kt.newLst {ds : List D} {xs : List V} (k : Kt K F H true (.lst ds) Q) (dm : Dm F H) (r : RpL K F H xs ds) : ∀ p, H p = none → Q (.ref p) (upd H p (.lst xs)) := fun p hp =>
  k F _ _ (Gr.laid' dm hp) (RpO.own hp (fun f => dm p f hp) ⟨xs, upd_same, r.kp (Gr.laid' dm hp).kp⟩)
theorem Kt.newDk {es : List (Key × D)} {kvs : List (Key × V)} (k : Kt K F H true (.dk es) Q) (dm : Dm F H) (r : RpK K F H kvs es) : ∀ p, H p = none → Q (.ref p) (upd H p (.dK kvs)) := fun p hp =>
  k F _ _ (Gr.laid' dm hp) (RpO.own hp (fun f => dm p f hp) ⟨kvs, upd_same, r.kp (Gr.laid' dm hp).kp⟩)
theorem Kt.newDt {es : List (List Key × D)} {kvs : List (List Key × V)} (k : Kt K F H true (.dt es) Q) (dm : Dm F H) (r : RpT K F H kvs es) : ∀ p, H p = none → Q (.ref p) (upd H p (.dT kvs)) := fun p hp =>
  k F _ _ (Gr.laid' dm hp) (RpO.own hp (fun f => dm p f hp) ⟨kvs, upd_same, r.kp (Gr.laid' dm hp).kp⟩)
end

/-! ### data that is compared -/
section
variable {K : PySem.W.Frag} {F : AP} {H : Hp}
mutual
theorem Rp.dp : ∀ {v : V} {d : D}, Rp K F H v d → (py d).canLay0 = true → Dp K H v (py d)
  | _, _, .non, _ => .non
  | _, _, .bl b, _ => .bl b
  | _, _, .int i, _ => .int i
  | _, _, .str x, _ => .str x
  | _, .lst ds, .lst f e hs, c => .lst (.inl (.inl e)) (RpL.dp hs (by simpa [py, PyData.canLay0] using c))
  | _, .tup ds, .tup f e hs, c => .tup (.inl (.inl e)) (RpL.dp hs (by simpa [py, PyData.canLay0] using c))
  | _, _, .dk _ _ _ _, c => by simp [py, PyData.canLay0] at c
  | _, _, .dt _ _ _ _, c => by simp [py, PyData.canLay0] at c
  | _, _, .scr _, c => by simp [py, PyData.canLay0] at c
theorem RpL.dp : ∀ {v : List V} {d : List D}, RpL K F H v d → PyData.canLayAll0 (pyL d) = true → DpAll K H v (pyL d)
  | _, _, .nil, _ => .nil
  | _, _, .cons (d := d) (ds := ds) a b, c => by
    have c : (py d).canLay0 = true ∧ PyData.canLayAll0 (pyL ds) = true := by simpa [pyL, PyData.canLayAll0] using c
    exact .cons (Rp.dp a c.1) (RpL.dp b c.2)
end
theorem Sh.dp {v : V} {d : D} (h : Sh K F H v d) (s : SeqAt.shaped (py d) = true) : Dp K H v (py d) := by
  have c := SeqAt.canLay_of_shaped s
  cases d with
  | lst ds => obtain ⟨a, xs, rfl, e, r⟩ := h; exact .lst (.inl (.inl e)) (r.dp (by simpa [py, PyData.canLay0] using c))
  | tup ds => obtain ⟨a, xs, rfl, _, e, r⟩ := h; exact .tup (.inl (.inl e)) (r.dp (by simpa [py, PyData.canLay0] using c))
  | dk es => simp [py, PyData.canLay0] at c
  | dt es => simp [py, PyData.canLay0] at c
  | scr ns => simp [py, PyData.canLay0] at c
  | non => exact Rp.dp (v := v) h c
  | bl b => exact Rp.dp (v := v) h c
  | int i => exact Rp.dp (v := v) h c
  | str x => exact Rp.dp (v := v) h c
theorem pyL_any (f : PyData → Bool) : ∀ ds : List D, (pyL ds).any f = ds.any fun z => f (py z)
  | [] => rfl
  | d :: r => by
    show (f (py d) || (pyL r).any f) = (f (py d) || r.any fun z => f (py z))
    rw [pyL_any f r]
end

/-! ### in, not in -/
section
variable {X : Cx}
def rInT (K : PySem.W.Frag) (neg : Bool) : R2 := fun x y H Q => ∃ d ds, Dp K H x d ∧ Dp K H y (.tuple ds) ∧ SeqAt.shaped d = true ∧ SeqAt.shaped (.tuple ds) = true ∧ Q (.bl (if neg then !ds.any (fun z => PyData.eqv z d) else ds.any fun z => PyData.eqv z d)) H
theorem op_inT (hu : X.A.units + 65 < cLine) : OpR X (compareOp .In) (rInT X.K false) := by
  intro pins s σ H x y v u Q I rx ry h
  obtain ⟨d, ds, hd, he, sd, se, q⟩ := h
  obtain ⟨as, r1⟩ := Dp.reads I d x v hd rx
  obtain ⟨bs, r2⟩ := Dp.reads I (.tuple ds) y u he ry
  exact SeqAt.in_tuple_reads r2 r1 (SeqAt.canLay_of_shaped se) (SeqAt.canLay_of_shaped sd) (PyProof.Rows.room_in_shaped sd hu) ⟨.bl _, H, I, rfl, q⟩
theorem op_notInT (hu : X.A.units + 65 < cLine) : OpR X (compareOp .NotIn) (rInT X.K true) := by
  intro pins s σ H x y v u Q I rx ry h
  obtain ⟨d, ds, hd, he, sd, se, q⟩ := h
  obtain ⟨as, r1⟩ := Dp.reads I d x v hd rx
  obtain ⟨bs, r2⟩ := Dp.reads I (.tuple ds) y u he ry
  exact SeqAt.notIn_tuple_reads r2 r1 (SeqAt.canLay_of_shaped se) (SeqAt.canLay_of_shaped sd) (PyProof.Rows.room_in_shaped sd hu) ⟨.bl _, H, I, rfl, q⟩
def rInDict : R2 := fun y x H Q => ∃ a o, x = .ref a ∧ DGet H a y o ∧ Q (.bl o.isSome) H
def rNotInDict : R2 := fun y x H Q => ∃ a o, x = .ref a ∧ DGet H a y o ∧ Q (.bl (!o.isSome)) H
theorem op_inDict (hu : X.A.units + 1 < cLine) : OpR X (compareOp .In) rInDict := by
  intro pins s σ H y x iv u Q I ry rx ⟨a, ov, ex, g, q⟩
  subst ex
  obtain rfl : u = Value.ref a := rx
  exact d_in hu I g ry fun s3 I3 => ⟨.bl ov.isSome, H, I3, rfl, q⟩
theorem op_notInDict (hu : X.A.units + 1 < cLine) : OpR X (compareOp .NotIn) rNotInDict := by
  intro pins s σ H y x iv u Q I ry rx ⟨a, ov, ex, g, q⟩
  subst ex
  obtain rfl : u = Value.ref a := rx
  exact d_notIn hu I g ry fun s3 I3 => ⟨.bl (!ov.isSome), H, I3, rfl, q⟩
end

/-! ### what a dict holds, by data -/
section
variable {K : PySem.W.Frag} {F : AP} {H : Hp}
theorem key_rp {y : D} {k : Key} {v : V} (h : key? y = some k) (s : Sh K F H v y) : v = kV k := by
  cases y with
  | int i => cases h; exact Rp.int_of s
  | str x => cases h; exact Rp.str_of s
  | _ => cases h
theorem key_rp' {y : D} {k : Key} {v : V} (h : key? y = some k) (s : Rp K F H v y) : v = kV k := by
  cases y with
  | int i => cases h; exact Rp.int_of s
  | str x => cases h; exact Rp.str_of s
  | _ => cases h
theorem keys_rp : ∀ {ys : List D} {ks : List Key} {vs : List V}, keys? ys = some ks → RpL K F H vs ys → vs = ks.map kV
  | [], _, _, h, r => by cases h; cases r; rfl
  | d :: r, ks, _, h, .cons (v := v) (vs := vs) a b => by
    unfold keys? at h
    cases e1 : key? d with
    | none => rw [e1] at h; cases h
    | some k =>
      cases e2 : keys? r with
      | none => rw [e1, e2] at h; cases h
      | some ks' =>
        rw [e1, e2] at h
        cases h
        rw [List.map_cons, key_rp' e1 a, keys_rp e2 b]
theorem rpK_val : ∀ {kvs : List (Key × V)} {es : List (Key × D)} (k : Key), RpK K F H kvs es → (getA es k = none ∧ valV kvs k = none) ∨ ∃ d v, getA es k = some d ∧ valV kvs k = some v ∧ Rp K F H v d
  | _, _, k, .nil => .inl ⟨rfl, rfl⟩
  | (k', v) :: kvs, (_, d) :: es, k, .cons a b => by
    by_cases e : k' = k
    · exact .inr ⟨d, v, by unfold getA; rw [if_pos e], valV_pos (p := (k', v)) e, a⟩
    · unfold getA
      rw [if_neg e, valV_neg (p := (k', v)) e]
      exact rpK_val k b
theorem rpT_val : ∀ {kvs : List (List Key × V)} {es : List (List Key × D)} (k : List Key), RpT K F H kvs es → (getA es k = none ∧ valV kvs k = none) ∨ ∃ d v, getA es k = some d ∧ valV kvs k = some v ∧ Rp K F H v d
  | _, _, k, .nil => .inl ⟨rfl, rfl⟩
  | (k', v) :: kvs, (_, d) :: es, k, .cons a b => by
    by_cases e : k' = k
    · exact .inr ⟨d, v, by unfold getA; rw [if_pos e], valV_pos (p := (k', v)) e, a⟩
    · unfold getA
      rw [if_neg e, valV_neg (p := (k', v)) e]
      exact rpT_val k b
/-- a look into a dict -/
theorem dget_ok {d y : D} {v w : V} {r : Option D} (hd : Sh K F H v d) (hy : Sh K F H w y) (h : dget d y = some r) :
    ∃ a o, v = .ref a ∧ IsD H a ∧ DGet H a w o ∧ ((r = none ∧ o = none) ∨ ∃ d' v', r = some d' ∧ o = some v' ∧ Rp K F H v' d') := by
  cases d with
  | dk es =>
    obtain ⟨a, kvs, rfl, e, rk⟩ := hd
    unfold dget at h
    cases e1 : key? y with
    | none => rw [e1] at h; cases h
    | some k =>
      rw [e1] at h
      cases h
      refine ⟨a, valV kvs k, rfl, .inl ⟨kvs, e⟩, .inl ⟨kvs, k, e, key_rp e1 hy, rfl⟩, ?_⟩
      rcases rpK_val k rk with ⟨q1, q2⟩ | ⟨d', v', q1, q2, q3⟩
      · exact .inl ⟨q1, q2⟩
      · exact .inr ⟨d', v', q1, q2, q3⟩
  | dt es =>
    obtain ⟨a, kvs, rfl, e, rk⟩ := hd
    unfold dget at h
    cases y with
    | tup ks =>
      simp only at h
      cases e1 : keys? ks with
      | none => rw [e1] at h; cases h
      | some k =>
        rw [e1] at h
        cases h
        obtain ⟨b, xs, rfl, _, eb, rb⟩ := hy
        refine ⟨a, valV kvs k, rfl, .inr ⟨kvs, e⟩, .inr ⟨kvs, k, b, e, rfl, by rw [eb, keys_rp e1 rb], rfl⟩, ?_⟩
        rcases rpT_val k rk with ⟨q1, q2⟩ | ⟨d', v', q1, q2, q3⟩
        · exact .inl ⟨q1, q2⟩
        · exact .inr ⟨d', v', q1, q2, q3⟩
    | _ => cases h
  | _ => cases h
end

/-! ### operators -/
def bopOf : Operator → Option BOp
  | .Add => some .add
  | .Sub => some .sub
  | .Mult => some .mul
  | .FloorDiv => some .fdiv
  | .Mod => some .mod
  | .Pow => some .pow
  | _ => none
def copOf : CmpOp → Option COp
  | .Lt => some .lt
  | .LtE => some .le
  | .Gt => some .gt
  | .GtE => some .ge
  | .Eq => some .eq
  | .NotEq => some .ne
  | .In => some .inn
  | .NotIn => some .nin
  | .Is => some .is
  | .IsNot => some .isn
section
variable {X : Cx}
theorem small_of {i : Int} (h : small i = true) : -(2 ^ 64) < i ∧ i < 2 ^ 64 := by
  unfold small at h
  rw [Bool.and_eq_true] at h
  exact ⟨of_decide_eq_true h.1, of_decide_eq_true h.2⟩
theorem bin_ok {op : Operator} {bop : BOp} (h : bopOf op = some bop) : ∃ r, OpR X (binaryOp op) r ∧
    ∀ (F : AP) (H : Hp) (v w : V) (x y d : D) (Q : VK), Dm F H → Sh X.K F H v x → Sh X.K F H w y → dbin bop x y = some d → Kt X.K F H true d Q → r v w H Q := by
  cases op with
  | Add =>
    cases h
    refine ⟨_, op_add.or (op_catA.or op_cat), fun F H v w x y d Q dm hx hy e k => ?_⟩
    cases x with
    | int i =>
      cases y with
      | int j =>
        cases e
        cases Rp.int_of hx
        cases Rp.int_of hy
        exact .inl ⟨i, j, rfl, rfl, k.int dm⟩
      | _ => cases e
    | tup xs =>
      cases y with
      | tup ys =>
        unfold dbin at e
        simp only at e
        split at e
        case isFalse => cases e
        rename_i hl
        cases e
        have hx' := hx.tup
        have hy' := hy.tup
        obtain ⟨a, vs, rfl, fa, ea, ra⟩ := hx
        obtain ⟨b, ws, rfl, fb, eb, rb⟩ := hy
        refine .inr (.inl ⟨a, b, vs, ws, rfl, rfl, SqT.of ea, SqT.of eb, by rw [ra.length, rb.length]; exact hl, fun z => ?_, fun _ z => ?_, fun _ _ => k.newTup dm (ra.append rb)⟩)
        · subst z
          cases ra
          exact k.flat dm hy' rfl
        · subst z
          cases rb
          rw [List.append_nil] at k
          exact k.flat dm hx' rfl
      | _ => cases e
    | lst xs =>
      cases y with
      | lst ys =>
        unfold dbin at e
        simp only at e
        split at e
        case isFalse => cases e
        rename_i hl
        cases e
        obtain ⟨a, vs, rfl, ea, ra⟩ := hx
        obtain ⟨b, ws, rfl, eb, rb⟩ := hy
        exact .inr (.inr ⟨a, b, vs, ws, rfl, rfl, ea, eb, by rw [ra.length, rb.length]; exact hl, k.newLst dm (ra.append rb)⟩)
      | _ => cases e
    | _ => cases e
  | Sub =>
    cases h
    refine ⟨_, op_sub, fun F H v w x y d Q dm hx hy e k => ?_⟩
    cases x with
    | int i =>
      cases y with
      | int j =>
        cases e
        cases Rp.int_of hx
        cases Rp.int_of hy
        exact ⟨i, j, rfl, rfl, k.int dm⟩
      | _ => cases e
    | _ => cases e
  | Mult =>
    cases h
    refine ⟨_, op_mul.or op_rep, fun F H v w x y d Q dm hx hy e k => ?_⟩
    cases x with
    | int i =>
      cases y with
      | int j =>
        unfold dbin at e
        simp only at e
        split at e
        case isFalse => cases e
        rename_i hs
        cases e
        cases Rp.int_of hx
        cases Rp.int_of hy
        rw [Bool.or_eq_true] at hs
        exact .inl ⟨i, j, rfl, rfl, hs.imp small_of small_of, k.int dm⟩
      | _ => cases e
    | lst xs =>
      cases y with
      | int j =>
        unfold dbin at e
        simp only at e
        split at e
        case isFalse => cases e
        rename_i hs
        cases e
        simp only [Bool.and_eq_true, decide_eq_true_eq] at hs
        obtain ⟨a, vs, rfl, ea, ra⟩ := hx
        cases Rp.int_of hy
        exact .inr ⟨a, j, vs, rfl, rfl, ea, hs.1.1, hs.1.2, by rw [ra.length]; exact hs.2, k.newLst dm (ra.flat _)⟩
      | _ => cases e
    | _ => cases e
  | FloorDiv =>
    cases h
    refine ⟨_, op_fdiv, fun F H v w x y d Q dm hx hy e k => ?_⟩
    cases x with
    | int i =>
      cases y with
      | int j =>
        unfold dbin at e
        simp only at e
        split at e
        case isFalse => cases e
        rename_i hs
        cases e
        cases Rp.int_of hx
        cases Rp.int_of hy
        simp only [Bool.and_eq_true, decide_eq_true_eq] at hs
        exact ⟨i, j, rfl, rfl, hs, k.int dm⟩
      | _ => cases e
    | _ => cases e
  | Mod =>
    cases h
    refine ⟨_, op_mod, fun F H v w x y d Q dm hx hy e k => ?_⟩
    cases x with
    | int i =>
      cases y with
      | int j =>
        unfold dbin at e
        simp only at e
        split at e
        case isFalse => cases e
        rename_i hs
        cases e
        cases Rp.int_of hx
        cases Rp.int_of hy
        exact ⟨i, j, rfl, rfl, hs, k.int dm⟩
      | _ => cases e
    | _ => cases e
  | Pow =>
    cases h
    refine ⟨_, op_pow, fun F H v w x y d Q dm hx hy e k => ?_⟩
    cases x with
    | int i =>
      cases y with
      | int j =>
        unfold dbin at e
        simp only at e
        split at e
        case isFalse => cases e
        rename_i hs
        cases e
        cases Rp.int_of hx
        cases Rp.int_of hy
        simp only [Bool.and_eq_true, decide_eq_true_eq] at hs
        exact ⟨i, j, rfl, rfl, ⟨hs.1.1, hs.1.2, hs.2⟩, k.int dm⟩
      | _ => cases e
    | _ => cases e
  | _ => cases h
theorem deq_some {a b : D} {k : Bool} (h : deq a b = some k) : SeqAt.shaped (py a) = true ∧ SeqAt.shaped (py b) = true ∧ k = PyData.eqv (py a) (py b) := by
  unfold deq at h
  split at h
  · rename_i c
    rw [Bool.and_eq_true] at c
    cases h
    exact ⟨c.1, c.2, rfl⟩
  · cases h
theorem cmpI_ok {op : CmpOp} {f : Int → Int → Bool} {p : D → D → Option Bool} (ho : OpR X (compareOp op) (rI0 fun i j => .bl (f i j))) (hp : ∀ i j, p (.int i) (.int j) = some (f i j))
    (hn : ∀ x y k, p x y = some k → ∃ i j, x = .int i ∧ y = .int j) : ∃ r, OpR X (compareOp op) r ∧
    ∀ (F : AP) (H : Hp) (v w : V) (x y : D) (k : Bool) (Q : VK), Sh X.K F H v x → Sh X.K F H w y → p x y = some k → Q (.bl k) H → r v w H Q := by
  refine ⟨_, ho, fun F H v w x y k Q hx hy e q => ?_⟩
  obtain ⟨i, j, rfl, rfl⟩ := hn x y k e
  rw [hp] at e
  cases e
  cases Rp.int_of hx
  cases Rp.int_of hy
  exact ⟨i, j, rfl, rfl, q⟩
theorem cmp_ok {op : CmpOp} {cop : COp} (h : copOf op = some cop) (hu : X.A.units + 65 < cLine) : ∃ r, OpR X (compareOp op) r ∧
    ∀ (F : AP) (H : Hp) (v w : V) (x y : D) (k : Bool) (Q : VK), Sh X.K F H v x → Sh X.K F H w y → dcmp cop x y = some k → Q (.bl k) H → r v w H Q := by
  cases op with
  | Lt =>
    cases h
    refine cmpI_ok op_lt (fun _ _ => rfl) fun x y k e => ?_
    cases x <;> first | (cases y <;> first | exact ⟨_, _, rfl, rfl⟩ | cases e) | cases e
  | LtE =>
    cases h
    refine cmpI_ok op_le (fun _ _ => rfl) fun x y k e => ?_
    cases x <;> first | (cases y <;> first | exact ⟨_, _, rfl, rfl⟩ | cases e) | cases e
  | Gt =>
    cases h
    refine cmpI_ok op_gt (fun _ _ => rfl) fun x y k e => ?_
    cases x <;> first | (cases y <;> first | exact ⟨_, _, rfl, rfl⟩ | cases e) | cases e
  | GtE =>
    cases h
    refine cmpI_ok op_ge (fun _ _ => rfl) fun x y k e => ?_
    cases x <;> first | (cases y <;> first | exact ⟨_, _, rfl, rfl⟩ | cases e) | cases e
  | Eq =>
    cases h
    refine ⟨_, op_eqD (by omega), fun F H v w x y k Q hx hy e q => ?_⟩
    obtain ⟨s1, s2, rfl⟩ := deq_some e
    exact ⟨_, _, hx.dp s1, hy.dp s2, s1, s2, q⟩
  | NotEq =>
    cases h
    refine ⟨_, op_neD (by omega), fun F H v w x y k Q hx hy e q => ?_⟩
    unfold dcmp at e
    simp only at e
    cases e1 : deq x y with
    | none => rw [e1] at e; cases e
    | some j =>
      rw [e1] at e
      obtain ⟨s1, s2, rfl⟩ := deq_some e1
      cases e
      exact ⟨_, _, hx.dp s1, hy.dp s2, s1, s2, q⟩
  | In =>
    cases h
    refine ⟨_, (op_inDict (by omega)).or ((op_inD hu).or (op_inT hu)), fun F H v w x y k Q hx hy e q => ?_⟩
    have dictCase : ∀ r, dget y x = some r → k = r.isSome → rInDict v w H Q := fun r e1 e2 => by
      obtain ⟨a, o, rfl, _, g, c⟩ := dget_ok hy hx e1
      refine ⟨a, o, rfl, g, ?_⟩
      rcases c with ⟨rfl, rfl⟩ | ⟨d', v', rfl, rfl, _⟩
      · rw [e2] at q; exact q
      · rw [e2] at q; exact q
    cases y with
    | dk es =>
      unfold dcmp at e
      simp only at e
      cases e1 : dget (.dk es) x with
      | none => rw [e1] at e; cases e
      | some r => rw [e1] at e; cases e; exact .inl (dictCase r e1 rfl)
    | dt es =>
      unfold dcmp at e
      simp only at e
      cases e1 : dget (.dt es) x with
      | none => rw [e1] at e; cases e
      | some r => rw [e1] at e; cases e; exact .inl (dictCase r e1 rfl)
    | lst ds =>
      unfold dcmp dmem at e
      simp only at e
      split at e
      · rename_i c
        rw [Bool.and_eq_true] at c
        cases e
        refine .inr (.inl ⟨_, pyL ds, hx.dp c.1, hy.dp c.2, c.1, c.2, ?_⟩)
        rw [pyL_any]; exact q
      · cases e
    | tup ds =>
      unfold dcmp dmem at e
      simp only at e
      split at e
      · rename_i c
        rw [Bool.and_eq_true] at c
        cases e
        refine .inr (.inr ⟨_, pyL ds, hx.dp c.1, hy.dp c.2, c.1, c.2, ?_⟩)
        rw [if_neg (by simp), pyL_any]; exact q
      · cases e
    | _ => cases e
  | NotIn =>
    cases h
    refine ⟨_, (op_notInDict (by omega)).or ((op_notInD hu).or (op_notInT hu)), fun F H v w x y k Q hx hy e q => ?_⟩
    have dictCase : ∀ r, dget y x = some r → k = !r.isSome → rNotInDict v w H Q := fun r e1 e2 => by
      obtain ⟨a, o, rfl, _, g, c⟩ := dget_ok hy hx e1
      refine ⟨a, o, rfl, g, ?_⟩
      rcases c with ⟨rfl, rfl⟩ | ⟨d', v', rfl, rfl, _⟩
      · rw [e2] at q; exact q
      · rw [e2] at q; exact q
    cases y with
    | dk es =>
      unfold dcmp at e
      simp only at e
      cases e1 : dget (.dk es) x with
      | none => rw [e1] at e; cases e
      | some r => rw [e1] at e; cases e; exact .inl (dictCase r e1 rfl)
    | dt es =>
      unfold dcmp at e
      simp only at e
      cases e1 : dget (.dt es) x with
      | none => rw [e1] at e; cases e
      | some r => rw [e1] at e; cases e; exact .inl (dictCase r e1 rfl)
    | lst ds =>
      unfold dcmp dmem at e
      simp only at e
      by_cases c : (SeqAt.shaped (py x) && SeqAt.shaped (py (.lst ds))) = true
      · rw [if_pos c] at e
        rw [Bool.and_eq_true] at c
        cases e
        refine .inr (.inl ⟨_, pyL ds, hx.dp c.1, hy.dp c.2, c.1, c.2, ?_⟩)
        rw [pyL_any]; exact q
      · rw [if_neg c] at e; cases e
    | tup ds =>
      unfold dcmp dmem at e
      simp only at e
      by_cases c : (SeqAt.shaped (py x) && SeqAt.shaped (py (.tup ds))) = true
      · rw [if_pos c] at e
        rw [Bool.and_eq_true] at c
        cases e
        refine .inr (.inr ⟨_, pyL ds, hx.dp c.1, hy.dp c.2, c.1, c.2, ?_⟩)
        rw [if_pos rfl, pyL_any]; exact q
      · rw [if_neg c] at e; cases e
    | _ => cases e
  | Is =>
    cases h
    refine ⟨_, op_isN.or op_isBl, fun F H v w x y k Q hx hy e q => ?_⟩
    have nn : ∀ {x : D}, Sh X.K F H v x → (∀ z, x = z → z ≠ .non) → decide (v = .non) = false := fun {x} hx n => by
      refine decide_eq_false fun z => ?_
      subst z
      cases x with
      | non => exact n _ rfl rfl
      | lst ds => obtain ⟨a, xs, e, _⟩ := hx; cases e
      | tup ds => obtain ⟨a, xs, e, _⟩ := hx; cases e
      | dk ds => obtain ⟨a, xs, e, _⟩ := hx; cases e
      | dt ds => obtain ⟨a, xs, e, _⟩ := hx; cases e
      | scr ds => obtain ⟨a, e, _⟩ := hx; cases e
      | bl b => cases Rp.bl_of hx
      | int b => cases Rp.int_of hx
      | str b => cases Rp.str_of hx
    cases y with
    | non =>
      cases Rp.non_of hy
      refine .inl ⟨rfl, ?_⟩
      cases x with
      | non => cases Rp.non_of hx; cases e; exact q
      | _ => rw [nn hx (fun z h1 h2 => by subst h1; cases h2)]; cases e; exact q
    | bl j =>
      cases x with
      | bl i =>
        cases e
        cases Rp.bl_of hx
        cases Rp.bl_of hy
        exact .inr ⟨i, j, rfl, rfl, q⟩
      | _ => cases e
    | _ => cases x <;> cases e
  | IsNot =>
    cases h
    refine ⟨_, op_notN.or op_notBl, fun F H v w x y k Q hx hy e q => ?_⟩
    have nn : ∀ {x : D}, Sh X.K F H v x → (∀ z, x = z → z ≠ .non) → decide (v = .non) = false := fun {x} hx n => by
      refine decide_eq_false fun z => ?_
      subst z
      cases x with
      | non => exact n _ rfl rfl
      | lst ds => obtain ⟨a, xs, e, _⟩ := hx; cases e
      | tup ds => obtain ⟨a, xs, e, _⟩ := hx; cases e
      | dk ds => obtain ⟨a, xs, e, _⟩ := hx; cases e
      | dt ds => obtain ⟨a, xs, e, _⟩ := hx; cases e
      | scr ds => obtain ⟨a, e, _⟩ := hx; cases e
      | bl b => cases Rp.bl_of hx
      | int b => cases Rp.int_of hx
      | str b => cases Rp.str_of hx
    cases y with
    | non =>
      cases Rp.non_of hy
      refine .inl ⟨rfl, ?_⟩
      cases x with
      | non => cases Rp.non_of hx; cases e; exact q
      | _ => rw [nn hx (fun z h1 h2 => by subst h1; cases h2)]; cases e; exact q
    | bl j =>
      cases x with
      | bl i =>
        cases e
        cases Rp.bl_of hx
        cases Rp.bl_of hy
        exact .inr ⟨i, j, rfl, rfl, q⟩
      | _ => cases e
    | _ => cases x <;> cases e
/-! ### subscripts -/
def rIxDict : R2 := fun x y H Q => ∃ a v, x = .ref a ∧ DGet H a y (some v) ∧ Q v H
theorem ix_dict (hu : X.A.units + 1 < cLine) : IxR X rIxDict := by
  intro value slice pins s σ H x y v u Q I rx ry h hs
  obtain ⟨a, w, rfl, g, q⟩ := h
  obtain rfl : v = Value.ref a := rx
  exact tail_any (dict_typeIs I g) PySem.F.slot_dict_getitem.lookup (d_getItem hu I g ry fun w' s3 I3 rw' => ⟨w, H, I3, rw', q⟩) hs
theorem ints_at : ∀ {ns : List Int} {i : Nat} {n : Int}, ns[i]? = some n → (ns.map V.int)[i]? = some (.int n) := fun {ns i n} h => by
  rw [List.getElem?_map, h]; rfl
theorem atI_map {α β : Type} (f : α → β) (xs : List α) (i : Int) : atI (xs.map f) i = (atI xs i).map f := by
  unfold atI
  rw [List.length_map]
  cases ixN xs.length i with
  | none => rfl
  | some j => show (xs.map f)[j]? = (xs[j]?).map f; rw [List.getElem?_map]
theorem rp_atI {K : PySem.W.Frag} {F : AP} {H : Hp} {xs : List V} {ds : List D} {i : Int} {d : D} (r : RpL K F H xs ds) (h : atI ds i = some d) : ∃ v, atI xs i = some v ∧ Rp K F H v d := by
  unfold atI at h ⊢
  rw [r.length]
  cases e : ixN ds.length i with
  | none => rw [e] at h; cases h
  | some j => rw [e] at h; exact r.get h
theorem idx_ok (hu : X.A.units + 65 < cLine) : ∃ r, IxR X r ∧
    ∀ (F : AP) (H : Hp) (v w : V) (x y d : D) (Q : VK), Dm F H → Sh X.K F H v x → Sh X.K F H w y → didx x y = some d → Kt X.K F H false d Q → r v w H Q := by
  refine ⟨_, (ix_dict (by omega)).or (ix_list.or ix_tup), fun F H v w x y d Q dm hx hy e k => ?_⟩
  have dictCase : ∀ z, dget x y = some (some z) → z = d → rIxDict v w H Q := fun z e1 e2 => by
    subst e2
    obtain ⟨a, o, rfl, _, g, c⟩ := dget_ok hx hy e1
    rcases c with ⟨h1, _⟩ | ⟨d', v', h1, rfl, r⟩
    · cases h1
    · cases h1
      exact ⟨a, v', rfl, g, k.old dm r⟩
  cases x with
  | lst xs =>
    cases y with
    | int i =>
      obtain ⟨a, vs, rfl, ea, ra⟩ := hx
      cases Rp.int_of hy
      obtain ⟨u, e1, r⟩ := rp_atI ra e
      exact .inr (.inl ⟨a, vs, i, u, rfl, rfl, SqL.of ea, e1, k.old dm r⟩)
    | _ => cases e
  | tup xs =>
    cases y with
    | int i =>
      obtain ⟨a, vs, rfl, _, ea, ra⟩ := hx
      cases Rp.int_of hy
      obtain ⟨u, e1, r⟩ := rp_atI ra e
      exact .inr (.inr ⟨a, vs, i, u, rfl, rfl, SqT.of ea, e1, k.old dm r⟩)
    | _ => cases e
  | scr ns =>
    cases y with
    | int i =>
      obtain ⟨a, rfl, ea⟩ := hx
      cases Rp.int_of hy
      have e : (atI ns i).map D.int = some d := e
      cases e1 : atI ns i with
      | none => rw [e1] at e; cases e
      | some n =>
        rw [e1] at e
        cases e
        exact .inr (.inl ⟨a, _, i, .int n, rfl, rfl, ea, by rw [atI_map, e1]; rfl, k.int dm⟩)
    | _ => cases e
  | dk es =>
    unfold didx at e
    simp only at e
    split at e
    · rename_i z e1
      cases e
      exact .inl (dictCase _ e1 rfl)
    · cases e
  | dt es =>
    unfold didx at e
    simp only at e
    split at e
    · rename_i z e1
      cases e
      exact .inl (dictCase _ e1 rfl)
    · cases e
  | _ => cases e

/-! ### slices -/
theorem RpL.cut {K : PySem.W.Frag} {F : AP} {H : Hp} {xs : List V} {ds : List D} (r : RpL K F H xs ds) (lo hi : Option Int) : RpL K F H (cutV xs lo hi) (cutD ds lo hi) := by
  unfold cutV cutD
  rw [r.length]
  exact (r.drop _).take _
theorem sl_ok : ∃ r, SlR X r ∧
    ∀ (F : AP) (H : Hp) (v : V) (x d : D) (lo hi : Option Int) (Q : VK), Dm F H → Sh X.K F H v x → dslice x lo hi = some d → Kt X.K F H true d Q → r v lo hi H Q := by
  refine ⟨_, sl_list.or sl_tupA, fun F H v x d lo hi Q dm hx e k => ?_⟩
  cases x with
  | lst xs =>
    cases e
    obtain ⟨a, vs, rfl, ea, ra⟩ := hx
    exact .inl ⟨a, vs, rfl, SqL.of ea, k.newLst dm (ra.cut lo hi)⟩
  | tup xs =>
    cases e
    have hx' := hx.tup
    obtain ⟨a, vs, rfl, _, ea, ra⟩ := hx
    refine .inr ⟨a, vs, rfl, SqT.of ea, fun z => ?_, fun _ => k.newTup dm (ra.cut lo hi)⟩
    have ez : cutD xs lo hi = xs := by
      unfold cutD
      rw [ra.length] at z
      rw [z.1, z.2, List.drop_zero, Nat.sub_zero, List.take_length]
    rw [ez] at k
    exact k.flat dm hx' rfl
  | _ => cases e

/-! ### t[::-1] of a tuple -/
theorem sliceApplied_rev {prog : Program} {w : World} {A : Around} {E : Value → Shared → Prop} {s : Shared} {sl : Addr} {vl vu vs : Value} {n : Nat} {Q : Int × Int × Nat → Shared → Prop} (hs : s.heap.IsSliceOf sl vl vu vs) (pl : IsPart vl none) (pu : IsPart vu none) (ps : IsPart vs (some (-1)))
    (h : Q ((n : Int) - 1, -1, n) s) : wpAny (model prog w) A (Builtin.Slice.sliceApplied (.ref sl) (pure (n : Int))) Q E s := by
  obtain ⟨os, hos, hcs, hds⟩ := id hs
  unfold Builtin.Slice.sliceApplied Builtin.Slice.sliceFields
  refine wpAny_bind (wpAny_bind (wpAny_field hos hds (x := vl) rfl (wpAny_bind (wpAny_field hos hds (x := vu) rfl (wpAny_bind (wpAny_field hos hds (x := vs) rfl (wpAny_pure ?_)))))))
  refine wpAny_bind (HT.slicePart_ ps ?_)
  show wpAny _ _ (if ((-1 : Int) == 0) = true then _ else _) _ _ s
  rw [if_neg (by decide)]
  refine wpAny_bind (HT.slicePart_ pl (wpAny_bind (HT.slicePart_ pu (wpAny_bind (wpAny_pure ?_)))))
  show wpAny _ _ (match Builtin.Slice.sliceAdjust none none (-1) (n : Int) with | (lo, hi) => pure (lo, (-1 : Int), Builtin.Slice.slicePlaces lo hi (-1))) _ _ s
  have e1 : Builtin.Slice.sliceAdjust none none (-1) (n : Int) = ((n : Int) - 1, -1) := by
    unfold Builtin.Slice.sliceAdjust
    simp
  rw [e1]
  show wpAny _ _ (pure ((n : Int) - 1, (-1 : Int), Builtin.Slice.slicePlaces ((n : Int) - 1) (-1) (-1))) _ _ s
  have e2 : Builtin.Slice.slicePlaces ((n : Int) - 1) (-1) (-1) = n := by
    unfold Builtin.Slice.slicePlaces
    simp
    omega
  rw [e2]
  exact wpAny_pure h
end
end Pv

/-! Pv4t: sorted of a tuple. -/
namespace Pv
open PySem PySem.Spec PyProof.Rows L2
section
variable {P : Program} {w : World} {A : Around} {E : Value → Shared → Prop} {s : Shared}
/-- the heap with what was gathered -/
abbrev gaH (h : Heap) (us : List Value) : Heap := (h.push (seqObj "list" #[] 0)).update h.objs.size (Obj.mapSeq (· ++ us.toArray))
theorem gatherT {a : Addr} {us : List Value} {R : List Value → Shared → Prop} (it : s.heap.IsTuple a us.toArray) (fin : R us { s with heap := gaH s.heap us }) (few : us.length ≤ sizeLine) :
    wpAny (model P w) A (collect (.ref a)) R E s := by
  obtain ⟨ob, g1, g2, m, g3⟩ := id it
  unfold collect
  refine wpAny_bind (wpAny_runValue (codeAny_builtin entry_proto_collect' ?_))
  show wpAny _ _ (do again (.builtin "list.__iadd__" ⟨[← newList [], .ref a], []⟩)) _ _ s
  refine wpAny_bind (wpAny_newList (wpAny_pure ⟨Code.quiet_builtin _ (by decide +kernel), codeAny_builtin entry_list_iadd' ?_⟩))
  show wpAny _ _ (Builtin.List.listExtendWith (.ref s.heap.objs.size) (.ref a) (.ref s.heap.objs.size)) _ _ { s with heap := s.heap.push (seqObj "list" #[] 0) }
  unfold Builtin.List.listExtendWith
  have g1' : (s.heap.push (seqObj "list" #[] 0)).get? a = some ob := Heap.get?_push_of_some _ g1
  refine wpAny_bind (wpAny_typeOf (T := "tuple") ⟨ob, g1', g2⟩ ?_)
  have tt : (Value.type "tuple" == Value.type "tuple") = true := by rfl
  rw [if_pos (by rw [tt]; simp)]
  refine wpAny_bind (listItems_at g1' g3 ?_)
  refine wpAny_bind (listItems_at (xs := #[]) (n := 0) (Heap.get?_push_size _ rfl) rfl ?_)
  rw [if_neg (by simp)]
  refine wpAny_bind (listUpdate_at (xs := #[]) (n := 0) (Heap.get?_push_size _ rfl) rfl ?_ (Nat.zero_le _) (by show (#[] ++ us.toArray).size ≤ sizeLine + 1; simp only [Array.size_append, List.size_toArray, List.length_nil]; omega))
  refine wpAny_pure ?_
  show wpAny (model P w) A (do
      let ob ← load s.heap.objs.size
      match ob.data with
      | .seq xs _ => pure xs.toList
      | _ => unsupported "internal:collect") R E { s with heap := gaH s.heap us }
  refine wpAny_bind (wpAny_load (get?_update_seq (Heap.get?_push_size _ rfl) _) ?_)
  show wpAny _ _ (pure ((#[] : Array Value) ++ us.toArray).toList) R E _
  rw [show ((#[] : Array Value) ++ us.toArray).toList = us by simp]
  exact wpAny_pure fin
theorem sortTup {a : Addr} {us : List Value} {lt : Value → Value → Bool} {R : Value → Shared → Prop} (O : SrtO.Swo lt) (it : s.heap.IsTuple a us.toArray) (few : us.length ≤ sizeLine)
    (hS : 2 ≤ us.length → ∀ (h2 : Heap) (b : Addr), h2.get? b = some (seqObj "list" us.toArray 0) → (∀ x o, s.heap.get? x = some o → x ≠ b ∧ h2.get? x = some o) → SrtO.SortableO P w A.in1.in1 { s with heap := h2 } b us lt)
    (go : ∀ zs : List Value, SrtO.Srtd lt zs → SrtO.Stb lt zs us → R (.ref (s.heap.objs.size + 1)) { s with heap := sortedAll s.heap us zs.toArray }) :
    wpAny (model P w) A (call (.builtin "sorted") [.ref a]) R E s := by
  refine Calls.call_function_entry kind_sorted plain_sorted entry_sorted (args_sorted1 _) ?_
  unfold Builtin.«sorted»
  refine wpAny_bind (m := checkCount "sorted" 1 1 _) (wpAny_pure ?_)
  refine wpAny_bind (gatherT it ?_ few)
  refine wpAny_bind (wpAny_newList ?_ few)
  have z1 : (gaH s.heap us).objs.size = s.heap.objs.size + 1 := by
    rw [Heap.size_update, size_push']
  have z2 : ((gaH s.heap us).push (seqObj "list" us.toArray 0)).get? (s.heap.objs.size + 1) = some (seqObj "list" us.toArray 0) := by
    rw [← z1]; exact Heap.get?_push_size _ rfl
  have z3 : ∀ x o, s.heap.get? x = some o → x ≠ s.heap.objs.size + 1 ∧ ((gaH s.heap us).push (seqObj "list" us.toArray 0)).get? x = some o := fun x o q => by
    have lx : x < s.heap.objs.size := Heap.lt_size q
    refine ⟨Nat.ne_of_lt (Nat.lt_succ_of_lt lx), Heap.get?_push_of_some _ ?_⟩
    rw [Heap.get?_update_ne _ _ _ _ (Nat.ne_of_lt lx)]
    exact Heap.get?_push_of_some _ q
  show wpAny _ _ _ _ _ { s with heap := (gaH s.heap us).push (seqObj "list" us.toArray 0) }
  rw [z1]
  refine wpAny_bind (wpAny_holding (wpAny_call_entry slot_list_sort ⟨_, z2, rfl⟩ entry_list_sort (SrtO.list_sort_ord O z2 few (fun h2 => hS h2 _ _ z2 z3) fun zs y1 y2 => ⟨_, rfl, ?_⟩) (args_list_sort _)))
  exact wpAny_pure ⟨_, rfl, go zs y1 y2⟩
end
section
variable {X : Cx}
/-- sorted(t), a tuple of ints -/
theorem cr_sortTI : CallR X (.builtin "sorted") fun vs H Q => ∃ (a : Addr) (zs : List Int), vs = [V.ref a] ∧ H a = some (.tup (zs.map V.int)) ∧ ∀ (ys : List Int) (p : Addr), ys.Perm zs → ys.Pairwise (· ≤ ·) → H p = none → Q (.ref p) (upd H p (.lst (ys.map V.int))) := by
  intro pins s σ H vs us Q I r h
  obtain ⟨a, zs, rfl, hs, q⟩ := h
  obtain ⟨its, rv, hl, hz⟩ := I.tuple (SqT.of hs)
  rw [Vals.ref1 r]
  have hi : IntsAre its zs := rv.ints
  have few : its.length ≤ sizeLine := by rw [← rv.length]; exact hz
  refine sortTup SrtO.swo_int (show s.heap.IsTuple a its.toArray from hl) few (fun h2 _ _ _ _ => SrtO.ints_sortable hi h2) fun out h1 h2 => ?_
  obtain ⟨k1, k2, k3⟩ := SrtO.ints_out hi h1 h2
  obtain ⟨ep, he'⟩ := PyProof.Rows.sortedAll_at s.heap its out.toArray
  have hlen : ((out.map SrtO.iv).map V.int).length ≤ sizeLine := by
    rw [List.length_map, k2.length_eq]
    rw [List.length_map] at hz
    exact hz
  exact ⟨.ref _, _, I.laid (t' := s.toks) (o := .lst ((out.map SrtO.iv).map V.int)) (fun _ _ => PyProof.Rows.sortedAll_old) (Nat.le_succ _) ⟨hlen, out, ep, vals_of_ints k1, he'⟩, rfl, q _ _ k2 k3 (I.hok.fresh (Nat.le_succ _))⟩
/-- sorted(t), a tuple of pairs of ints -/
theorem cr_sortTP : CallR X (.builtin "sorted") fun vs H Q => ∃ (a : Addr) (xs : List V) (k : V → Int × Int), vs = [V.ref a] ∧ H a = some (.tup xs) ∧ (∀ x ∈ xs, ∃ t, x = V.ref t ∧ H t = some (.tup [.int (k x).1, .int (k x).2])) ∧
  ∀ ys p, SrtO.Srtd (ltP k) ys → SrtO.Stb (ltP k) ys xs → H p = none → Q (.ref p) (upd H p (.lst ys)) := by
  intro pins s σ H vs us Q I r h
  obtain ⟨a, xs, k, rfl, hs, hx, q⟩ := h
  obtain ⟨its, rv, hl, hz⟩ := I.tuple (SqT.of hs)
  rw [Vals.ref1 r]
  obtain ⟨e1, e2⟩ := refs_back rv fun x m => by
    obtain ⟨t, e, _⟩ := hx x m
    exact ⟨t, e⟩
  have few : its.length ≤ sizeLine := by rw [← rv.length]; exact hz
  have hp : ∀ v ∈ its, Srt.IsPair s.heap v (k (backV v)).1 (k (backV v)).2 := fun v hv => by
    obtain ⟨t, rfl⟩ := e2 v hv
    have hm : V.ref t ∈ xs := by rw [e1]; exact List.mem_map.mpr ⟨_, hv, rfl⟩
    obtain ⟨t', e, ht⟩ := hx _ hm
    cases e
    obtain ⟨_, its2, r2, o, ho, hc, n, hd⟩ := I.hok _ _ ht
    obtain ⟨u1, u2, rfl, ri, rj⟩ := vals2 r2
    obtain ⟨t1, rfl⟩ := ri
    obtain ⟨t2, rfl⟩ := rj
    exact ⟨t, o, t1, t2, n, rfl, ho, hc, hd⟩
  refine sortTup (SrtO.swo_lex fun u => k (backV u)) (show s.heap.IsTuple a its.toArray from hl) few (fun h2 g b gb kk => ?_) fun out y1 y2 => ?_
  · refine SrtO.pairs_sortableO (s := { s with heap := g }) (by omega) (fun v hm => (hp v hm).keeps fun b o e _ => (kk b o e).2) fun o e => ?_
    have e' : some o = some (seqObj "list" its.toArray 0) := e.symm.trans gb
    cases e'
    intro c
    exact absurd (Value.type.inj c) (by decide)
  · have z3 : ∀ u ∈ out, ∃ a, u = Value.ref a := fun u hu => e2 u (y2.perm.mem_iff.mp hu)
    obtain ⟨n, hn⟩ := PyProof.Rows.sortedAll_at s.heap its out.toArray
    have zb : SrtO.Stb (ltP k) (out.map backV) xs := by
      rw [e1]
      exact SrtO.Stb.map (ltP_swo k) backV y2
    refine ⟨.ref _, _, I.laid (t' := s.toks) (o := .lst (out.map backV)) (fun _ _ => PyProof.Rows.sortedAll_old) (Nat.le_succ _) ⟨?_, out, n, vals_back z3, hn⟩, rfl, q _ _ (SrtO.srtd_map y1) zb (I.hok.fresh (Nat.le_succ _))⟩
    rw [zb.len]
    exact hz
/-- sorted(l), a list of alike tuples that stand ascending -/
theorem each_zip {K : PySem.W.Frag} {H : Hp} : ∀ {xs : List V} {us : List Value} {ds : List PyData}, Vals xs us → DpAll K H xs ds → PySem.W.EachIs (fun u (b : V × PyData) => RelV b.1 u) us (xs.zip ds)
  | [], us, ds, r, d => by cases d; cases r; exact .nil
  | x :: xs, us, ds, r, d => by
    cases d with
    | cons d1 d2 =>
      cases r with
      | cons r1 r2 => exact .cons r1 (each_zip r2 d2)
theorem each_vals : ∀ {bs : List (V × PyData)} {us : List Value}, PySem.W.EachIs (fun u (b : V × PyData) => RelV b.1 u) us bs → Vals (bs.map Prod.fst) us
  | [], us, r => by cases r; exact .nil
  | b :: bs, us, r => by
    cases r with
    | cons r1 r2 => exact .cons r1 (each_vals r2)
theorem dpAll_len {K : PySem.W.Frag} {H : Hp} : ∀ {xs : List V} {ds : List PyData}, DpAll K H xs ds → ds.length = xs.length
  | [], ds, d => by cases d; rfl
  | x :: xs, ds, d => by
    cases d with
    | cons d1 d2 => rw [List.length_cons, List.length_cons, dpAll_len d2]
theorem asc_pw : ∀ {xs : List V} {ds : List PyData}, ascB ds = true → (xs.zip ds).Pairwise (fun a b => PySem.W.dataLe false (Prod.snd : V × PyData → PyData) a b = true)
  | [], _, _ => List.Pairwise.nil
  | x :: xs, [], _ => List.Pairwise.nil
  | x :: xs, d :: ds, h => by
    unfold ascB at h
    rw [Bool.and_eq_true] at h
    refine List.pairwise_cons.mpr ⟨fun b hb => ?_, asc_pw h.2⟩
    have hm : b.2 ∈ ds := (List.of_mem_zip (show (b.1, b.2) ∈ xs.zip ds from hb)).2
    exact List.all_eq_true.mp h.1 _ hm
theorem cr_sortAsc : CallR X (.builtin "sorted") fun vs H Q => ∃ (a : Addr) (xs : List V) (ds : List PyData), vs = [V.ref a] ∧ SqL X.K H a xs ∧ DpAll X.K H xs ds ∧ rowsOk ds = true ∧ X.A.units + 65 < cLine ∧ ∀ p, H p = none → Q (.ref p) (upd H p (.lst xs)) := by
  intro pins s σ H vs us Q I r h
  obtain ⟨a, xs, ds, rfl, hs, hd, ok, hu, q⟩ := h
  obtain ⟨its, rv, hl, hz⟩ := I.list hs
  rw [Vals.ref1 r]
  obtain ⟨as, hr⟩ := Dp.readsAll I ds xs its hd rv
  have ez : (xs.zip ds).map Prod.snd = ds := List.map_snd_zip (Nat.le_of_eq (dpAll_len hd))
  have ef : (xs.zip ds).map Prod.fst = xs := List.map_fst_zip (Nat.le_of_eq (dpAll_len hd).symm)
  have lz : (xs.zip ds).length = xs.length := by rw [List.length_zip, dpAll_len hd, Nat.min_self]
  unfold rowsOk at ok
  rw [Bool.and_eq_true, Bool.and_eq_true] at ok
  obtain ⟨⟨_, ok⟩, asc⟩ := ok
  have one : ∀ d ∈ ds, tupC d = true ∧ d.depth ≤ 60 ∧ ∀ e ∈ ds, PySem.W.alike d e = true := fun d hd => by
    have := List.all_eq_true.mp ok d hd
    rw [Bool.and_eq_true, Bool.and_eq_true, decide_eq_true_iff] at this
    exact ⟨this.1.1, this.1.2, List.all_eq_true.mp this.2⟩
  refine PySem.W.sorted_data (β := V × PyData) (enc := Prod.snd) (R := fun u b => RelV b.1 u) (vs := its) (bs := xs.zip ds) hl.isList (each_zip rv hd) ?er ?hal ?hk (by rw [lz]; exact hz) ?hu fun out ol oe => ?fin
  case er => exact PySem.W.readsAll_each Prod.snd (by rw [ez]; exact hr)
  case hal => rw [ez]; exact fun d hd e he => (one d hd).2.2 e he
  case hk =>
    rw [ez]
    refine .inl fun d hd => ?_
    have := (one d hd).1
    cases d with
    | tuple l =>
      cases l with
      | nil => cases this
      | cons x r => exact ⟨x, r, rfl⟩
    | _ => cases this
  case hu =>
    intro b hb
    have hm : b.2 ∈ ds := (List.of_mem_zip (show (b.1, b.2) ∈ xs.zip ds from hb)).2
    have := (one _ hm).2.1
    show X.A.units + 2 + b.2.depth < cLine
    omega
  case fin =>
    rw [List.mergeSort_of_pairwise (asc_pw asc)] at oe
    have ov := each_vals oe
    rw [ef] at ov
    obtain ⟨ep, he'⟩ := PyProof.Rows.sortedAll_at s.heap its out.toArray
    exact ⟨.ref _, _, I.laid (t' := s.toks) (o := .lst xs) (fun _ _ => PyProof.Rows.sortedAll_old) (Nat.le_succ _) ⟨hz, out, ep, ov, he'⟩, rfl, q _ (I.hok.fresh (Nat.le_succ _))⟩
end
end Pv

/-! Pv4: t[::-1], built-in functions by data. -/
namespace Pv
open PySem PySem.Spec PyProof.Rows L2

section
variable {prog : Program} {w : World} {A : Around} {E : Value → Shared → Prop} {s : Shared}
theorem pick_rev (xs : Array Value) : ((List.range xs.size).filterMap fun (m : Nat) => xs[(((xs.size : Int) - 1) + (m : Int) * (-1)).toNat]?).toArray = xs.toList.reverse.toArray := by
  congr 1
  apply List.ext_getElem?
  intro i
  have all : ∀ k, k ≤ xs.size → ((List.range k).filterMap fun (m : Nat) => xs[(((xs.size : Int) - 1) + (m : Int) * (-1)).toNat]?) = (xs.toList.reverse).take k := by
    intro k
    induction k with
    | zero => intro _; simp
    | succ k ih =>
      intro hk
      rw [List.range_succ, List.filterMap_append, ih (by omega), List.take_add_one]
      congr 1
      have e1 : (((xs.size : Int) - 1) + (k : Int) * (-1)).toNat = xs.size - 1 - k := by omega
      have e2 : xs.toList.reverse[k]? = xs[xs.size - 1 - k]? := by
        rw [List.getElem?_reverse (by rw [Array.length_toList]; omega)]
        simp
      rw [e2]
      simp only [List.filterMap_cons, List.filterMap_nil, e1]
      cases xs[xs.size - 1 - k]? <;> rfl
  rw [all xs.size (Nat.le_refl _), List.take_of_length_le (by simp)]
theorem getItem_tuple_rev {t sl : Addr} {items : Array Value} {vl vu vs : Value} {Q : Value → Shared → Prop} (ht : IsTup s.heap t items) (hs : s.heap.IsSliceOf sl vl vu vs) (pl : IsPart vl none) (pu : IsPart vu none) (ps : IsPart vs (some (-1)))
    (h : Q (.ref s.heap.objs.size) { s with heap := s.heap.push { cls := .type "tuple", data := .seq items.toList.reverse.toArray } })
    (hsz : items.size ≤ sizeLine) : wpAny (model prog w) A (getItem (.ref t) (.ref sl)) Q E s := by
  have htake : sizeOk (.seq items.toList.reverse.toArray) := by
    show items.toList.reverse.toArray.size ≤ sizeLine
    rw [List.size_toArray, List.length_reverse, Array.length_toList]
    exact hsz
  obtain ⟨os, hos, hcs, hds⟩ := id hs
  have hTs : s.TypeIs (.ref sl) "slice" := ⟨os, hos, hcs⟩
  unfold getItem
  try with_reducible refine wpAny_holding ?_
  first | refine wpAny_bind (wpAny_pure ?_) | skip
  refine wpAny_bind (wpAny_sequenceKey ht.typeIs (by decide) ?_)
  refine wpAny_bind (wpAny_callSpecial?_slot (name := Str.ofString "__getitem__") ht.typeIs PyProof.Rows.slot_tuple_getitem
    (wpAny_call_entry PyProof.Rows.slot_tuple_getitem ht.typeIs entry_tuple_getitem ?_ (args_tuple_getitem _ _)))
  show wpAny _ _ (Builtin.Tuple.tupleItemsOf (.ref t) >>= _) _ _ s
  refine wpAny_bind (tupleItemsOf_ ht ?_)
  refine wpAny_bind (wpAny_typeOf hTs ?_)
  rw [if_pos (by decide)]
  refine wpAny_bind (sliceApplied_rev hs pl pu ps ?_)
  show wpAny _ _ (if (((items.size : Int) - 1) == 0 && (-1 : Int) == 1 && items.size == items.size) = true then _ else _) _ _ s
  rw [if_neg (by simp), pick_rev]
  first
    | exact wpAny_bind (m := Builtin.Tuple.tupleExact _) (wpAny_newObj_type (wpAny_pure ⟨_, rfl, wpAny_pure h⟩) htake)
    | exact wpAny_bind (m := Builtin.Tuple.tupleExact _) (wpAny_newObj_type (wpAny_bind (wpAny_pure (wpAny_pure ⟨_, rfl, wpAny_pure h⟩))) htake)
    | exact wpAny_bind (wpAny_bind (m := Builtin.Tuple.tupleExact _) (wpAny_newObj_type (wpAny_pure (wpAny_pure ⟨_, rfl, wpAny_pure h⟩)) htake))
    | exact wpAny_bind (wpAny_bind (m := Builtin.Tuple.tupleExact _) (wpAny_newObj_type (wpAny_pure ⟨_, rfl, wpAny_pure h⟩) htake))
end
/-- x[::-1] of a list or a tuple -/
def tRevS (K : PySem.W.Frag) (te : TE) : TE := fun σ H Q => te σ H fun x H1 => ∃ a xs, x = .ref a ∧ ((H1 a = some (.lst xs) ∧ ∀ p, H1 p = none → Q (.ref p) (upd H1 p (.lst xs.reverse))) ∨ (H1 a = some (.tup xs) ∧ ∀ p, H1 p = none → Q (.ref p) (upd H1 p (.tup xs.reverse))))
section
variable {X : Cx}
theorem pe_revS {e : Expr} {te : TE} {k : Nat} {p1 p2 p3 pos : Pos} (he : PE X e te) : PE X (.Subscript e (.Slice none none (some (.UnaryOp .USub (.Constant (.int 1) k p1) p2)) p3) pos) (tRevS X.K te) := by
  refine ⟨fun pins s σ H Q I h => ?_⟩
  refine Subscript_ (thn (he.run pins s σ H _ I h) fun v s1 ⟨x, H1, I1, r1, q1⟩ => ?_)
  obtain ⟨a, xs, ex, q⟩ := q1
  subst ex
  cases r1
  have hst : PO X (some (.UnaryOp .USub (.Constant (.int 1) k p1) p2)) (tPart (tUn (rU fun i => .int (-i)) (tC (.int 1)))) := po_some (pe_un un_neg pe_int)
  refine wpAny_Slice (thn (po_none.run pins s1 σ H1 (fun o H2 => o = none ∧ H2 = H1) I1 ⟨rfl, rfl⟩) fun vl s2 ⟨l, H2, I2, pl, el, e2⟩ => ?_)
  subst el e2
  refine thn (po_none.run pins s2 σ H2 (fun o H3 => o = none ∧ H3 = H2) I2 ⟨rfl, rfl⟩) fun vu s3 ⟨u, H3, I3, pu, eu, e3⟩ => ?_
  subst eu e3
  refine thn (hst.run pins s3 σ H3 (fun o H4 => o = some (-1) ∧ H4 = H3) I3 ⟨1, rfl, -1, rfl, rfl, rfl⟩) fun vs s4 ⟨o, H4, I4, ps, eo, e4⟩ => ?_
  subst eo e4
  have I5 : Inv X pins σ H4 { s4 with heap := s4.heap.push { cls := .type "slice", data := .fields #[vl, vu, vs] } } := I4.kept (t' := s4.toks) fun b ob q => Heap.get?_push_of_some _ q
  show wpAny (model X.prog X.w) X.A (subscriptTail e (.Slice none none (some (.UnaryOp .USub (.Constant (.int 1) k p1) p2)) p3) (.ref a) (.ref s4.heap.objs.size)) (EP X pins σ Q) X.xe { s4 with heap := s4.heap.push { cls := .type "slice", data := .fields #[vl, vu, vs] } }
  rcases q with ⟨hx, q⟩ | ⟨hx, q⟩
  · obtain ⟨its, r, ht, hz⟩ := I5.list (SqL.of hx)
    have hlen := r.length
    refine tail_any (ops := [.ref a, .ref s4.heap.objs.size]) ht.isList.typeIs (PySem.slot_list_getitem.lookup) ?_ (by with_unfolding_all rfl)
    refine wpAny_getItem_list_slice ht.isList (Heap.IsSliceOf.new _ vl vu vs) pl pu ps (by decide) ?_ (by rw [List.size_toArray]; omega)
    rw [PySem.W.krv_pick]
    refine ⟨.ref _, _, I5.laid (t' := s4.toks) (o := .lst xs.reverse) (fun b ob q => Heap.get?_push_of_some _ q) (Nat.le_refl _) ?_, rfl, q _ (I5.hok.fresh (Nat.le_refl _))⟩
    exact ⟨by rw [List.length_reverse]; exact hz, _, 0, r.reverse, Heap.get?_push_size _ rfl⟩
  · obtain ⟨its, r, ht, hz⟩ := I5.tuple (SqT.of hx)
    have hlen := r.length
    refine tail_any (ops := [.ref a, .ref s4.heap.objs.size]) ht.typeIs (PyProof.Rows.slot_tuple_getitem.lookup) ?_ (by with_unfolding_all rfl)
    refine getItem_tuple_rev ht (Heap.IsSliceOf.new _ vl vu vs) pl pu ps ?_ (by rw [List.size_toArray]; omega)
    refine ⟨.ref _, _, I5.laid (t' := s4.toks) (o := .tup xs.reverse) (fun b ob q => Heap.get?_push_of_some _ q) (Nat.le_refl _) ?_, rfl, q _ (I5.hok.fresh (Nat.le_refl _))⟩
    exact ⟨by rw [List.length_reverse]; exact hz, its.reverse, r.reverse, _, Heap.get?_push_size _ rfl, rfl, 0, rfl⟩

/-! ### built-in functions -/
/-- arguments that are looked at -/
inductive ShL (K : PySem.W.Frag) (F : AP) (H : Hp) : List V → List D → Prop where
  | nil : ShL K F H [] []
  | cons {v vs d ds} : Sh K F H v d → ShL K F H vs ds → ShL K F H (v :: vs) (d :: ds)
theorem ints_rp {K : PySem.W.Frag} {F : AP} {H : Hp} : ∀ {ds : List D} {ns : List Int} {vs : List V}, ints? ds = some ns → RpL K F H vs ds → vs = ns.map V.int
  | [], _, _, h, .nil => by cases h; rfl
  | d :: r, ns, _, h, .cons a b => by
    cases d with
    | int i =>
      unfold ints? at h
      cases e : ints? r with
      | none => rw [e] at h; cases h
      | some is => rw [e] at h; cases h; rw [List.map_cons, Rp.int_of a, ints_rp e b]
    | _ => cases h
theorem bls_rp {K : PySem.W.Frag} {F : AP} {H : Hp} : ∀ {ds : List D} {ns : List Bool} {vs : List V}, bls? ds = some ns → RpL K F H vs ds → vs = ns.map V.bl
  | [], _, _, h, .nil => by cases h; rfl
  | d :: r, ns, _, h, .cons a b => by
    cases d with
    | bl i =>
      unfold bls? at h
      cases e : bls? r with
      | none => rw [e] at h; cases h
      | some is => rw [e] at h; cases h; rw [List.map_cons, Rp.bl_of a, bls_rp e b]
    | _ => cases h
theorem foldl_max (x : Int) : ∀ (r : List Int), (r.foldl max x = x ∨ r.foldl max x ∈ r) ∧ x ≤ r.foldl max x ∧ ∀ y ∈ r, y ≤ r.foldl max x
  | [] => ⟨.inl rfl, Int.le_refl _, fun y h => nomatch h⟩
  | y :: r => by
    obtain ⟨h1, h2, h3⟩ := foldl_max (max x y) r
    rw [List.foldl_cons]
    refine ⟨?_, by omega, fun z hz => ?_⟩
    · rcases h1 with h1 | h1
      · rw [h1]
        by_cases q : x ≤ y
        · exact .inr (by rw [show max x y = y by omega]; exact List.mem_cons_self)
        · exact .inl (by omega)
      · exact .inr (List.mem_cons_of_mem _ h1)
    · rcases List.mem_cons.mp hz with e | hz
      · omega
      · exact h3 z hz
theorem foldl_min (x : Int) : ∀ (r : List Int), (r.foldl min x = x ∨ r.foldl min x ∈ r) ∧ r.foldl min x ≤ x ∧ ∀ y ∈ r, r.foldl min x ≤ y
  | [] => ⟨.inl rfl, Int.le_refl _, fun y h => nomatch h⟩
  | y :: r => by
    obtain ⟨h1, h2, h3⟩ := foldl_min (min x y) r
    rw [List.foldl_cons]
    refine ⟨?_, by omega, fun z hz => ?_⟩
    · rcases h1 with h1 | h1
      · rw [h1]
        by_cases q : x ≤ y
        · exact .inl (by omega)
        · exact .inr (by rw [show min x y = y by omega]; exact List.mem_cons_self)
      · exact .inr (List.mem_cons_of_mem _ h1)
    · rcases List.mem_cons.mp hz with e | hz
      · omega
      · exact h3 z hz
theorem max_the {x : Int} {r : List Int} {m : Int} (h : m ∈ x :: r) (h2 : ∀ y ∈ x :: r, y ≤ m) : m = r.foldl max x := by
  obtain ⟨h3, h4, h5⟩ := foldl_max x r
  have a : m ≤ r.foldl max x := by
    rcases List.mem_cons.mp h with e | h
    · omega
    · exact h5 m h
  have b : r.foldl max x ≤ m := by
    rcases h3 with e | h3
    · rw [e]; exact h2 x List.mem_cons_self
    · exact h2 _ (List.mem_cons_of_mem _ h3)
  omega
theorem min_the {x : Int} {r : List Int} {m : Int} (h : m ∈ x :: r) (h2 : ∀ y ∈ x :: r, m ≤ y) : m = r.foldl min x := by
  obtain ⟨h3, h4, h5⟩ := foldl_min x r
  have a : r.foldl min x ≤ m := by
    rcases List.mem_cons.mp h with e | h
    · omega
    · exact h5 m h
  have b : m ≤ r.foldl min x := by
    rcases h3 with e | h3
    · rw [e]; exact h2 x List.mem_cons_self
    · exact h2 _ (List.mem_cons_of_mem _ h3)
  omega
theorem int_reads {h : Heap} : ∀ {ns : List Int} {us : List Value}, Vals (ns.map V.int) us → ∃ as, ReadsAll h us (ns.map PyData.int) as
  | [], _, r => by rw [List.map_nil] at r; cases r; exact ⟨[], .nil⟩
  | n :: ns, _, r => by
    rw [List.map_cons] at r
    cases r with
    | cons a b =>
      obtain ⟨t, rfl⟩ := a
      obtain ⟨as, q⟩ := int_reads (h := h) b
      exact ⟨_, .cons (Reads.int n t) q⟩
theorem alike_int (ns : List Int) : PySem.W.AlikeAll (ns.map PyData.int) := ⟨fun x hx y hy => by
  obtain ⟨i, _, rfl⟩ := List.mem_map.mp hx
  obtain ⟨j, _, rfl⟩ := List.mem_map.mp hy
  rfl, fun x hx => by
  obtain ⟨i, _, rfl⟩ := List.mem_map.mp hx
  exact fun z => nomatch z⟩
theorem depth_int : ∀ ns : List Int, PyData.depthAll (ns.map PyData.int) = 0
  | [] => rfl
  | n :: ns => by
    rw [List.map_cons, PyData.depthAll, depth_int ns]
    simp [PyData.depth]
theorem reads_int {h : Heap} {v : Value} {i : Int} {bs : List Addr} (r : Reads h v (.int i) bs) : ∃ t, v = .int i t := by
  cases r
  exact ⟨_, rfl⟩
theorem cr_maxT (hc : X.calm = true) (hu : X.A.units + 65 < cLine) : CallR X (.builtin "max") (fun vs H Q => ∃ (a : Addr) (x : Int) (ns : List Int), vs = [V.ref a] ∧ H a = some (.tup ((x :: ns).map V.int)) ∧ Q (.int (ns.foldl max x)) H) := by
  intro pins s σ H vs us Q I r h
  obtain ⟨a, x, ns, rfl, hs, q⟩ := h
  obtain ⟨its, rv, hl, _⟩ := I.tuple (SqT.of hs)
  rw [Vals.ref1 r]
  obtain ⟨as, hr⟩ := int_reads (h := s.heap) rv
  refine PySem.W.max_tuple_data (x := .int x) (xs := ns.map .int) (as := as) (I.ok.hd hc) (show s.heap.IsTuple a its.toArray from hl) (by simpa using hr) (alike_int (x :: ns)) ?_ fun i v h' tk bs _ hv hk => ?_
  · have := depth_int (x :: ns)
    rw [List.map_cons] at this
    rw [this]; omega
  · rw [PySem.W.maxD_ints] at hv
    obtain ⟨t, rfl⟩ := reads_int hv
    exact ⟨.int _, H, I.kept hk, ⟨_, rfl⟩, q⟩
theorem cr_minT (hc : X.calm = true) (hu : X.A.units + 65 < cLine) : CallR X (.builtin "min") (fun vs H Q => ∃ (a : Addr) (x : Int) (ns : List Int), vs = [V.ref a] ∧ H a = some (.tup ((x :: ns).map V.int)) ∧ Q (.int (ns.foldl min x)) H) := by
  intro pins s σ H vs us Q I r h
  obtain ⟨a, x, ns, rfl, hs, q⟩ := h
  obtain ⟨its, rv, hl, _⟩ := I.tuple (SqT.of hs)
  rw [Vals.ref1 r]
  obtain ⟨as, hr⟩ := int_reads (h := s.heap) rv
  refine PySem.W.min_tuple_data (x := .int x) (xs := ns.map .int) (as := as) (I.ok.hd hc) (show s.heap.IsTuple a its.toArray from hl) (by simpa using hr) (alike_int (x :: ns)) ?_ fun i v h' tk bs _ hv hk => ?_
  · have := depth_int (x :: ns)
    rw [List.map_cons] at this
    rw [this]; omega
  · rw [PySem.W.minD_ints] at hv
    obtain ⟨t, rfl⟩ := reads_int hv
    exact ⟨.int _, H, I.kept hk, ⟨_, rfl⟩, q⟩
theorem preSum_take (ns : List Int) : ∀ k, k ≤ ns.length → preSum (fun i => ns.getD i 0) k = (ns.take k).sum
  | 0, _ => by simp [preSum]
  | k + 1, h => by
    show preSum (fun i => ns.getD i 0) k + ns.getD k 0 = _
    rw [preSum_take ns k (by omega), List.take_add_one, List.sum_append, List.getD_eq_getElem?_getD, List.getElem?_eq_getElem (by omega)]
    simp
theorem cr_sumT (hc : X.calm = true) : CallR X (.builtin "sum") (fun vs H Q => ∃ (a : Addr) (ns : List Int), vs = [V.ref a] ∧ H a = some (.tup (ns.map V.int)) ∧ Q (.int ns.sum) H) := by
  intro pins s σ H vs us Q I r h
  obtain ⟨a, ns, rfl, hs, q⟩ := h
  obtain ⟨its, rv, hl, _⟩ := I.tuple (SqT.of hs)
  rw [Vals.ref1 r]
  have hlen := rv.length
  rw [List.length_map] at hlen
  refine call_sum_walkAnyS (PySem.W.iter_tupleW (A := X.A.in1) (I.ok.hd hc) (show s.heap.IsTuple a its.toArray from hl) fun s₂ e W st hfp hw hk => ?_)
  refine ⟨_, _, _, _, _, _, _, fun i => ns.getD i 0, rfl, W, st, hfp, fun i v hv => ?_, fun s' t' m => ?_⟩
  · have hv : its[i]? = some v := by simpa using hv
    have hi : i < ns.length := by rw [hlen]; exact (List.getElem?_eq_some_iff.mp hv).1
    obtain ⟨u, e1, e2⟩ := rv.get (i := i) (x := .int ns[i]) (by rw [List.getElem?_map, List.getElem?_eq_getElem hi]; rfl)
    rw [hv] at e1
    cases e1
    show ∃ t, v = Value.int (ns.getD i 0) t
    rw [List.getD_eq_getElem?_getD, List.getElem?_eq_getElem hi]
    exact e2
  · obtain ⟨h', tk, rfl, hk'⟩ := PySem.W.moved_old e rfl m
    have e3 : preSum (fun i => ns.getD i 0) its.toArray.size = ns.sum := by
      rw [List.size_toArray, ← hlen, preSum_take ns _ (Nat.le_refl _), List.take_length]
    rw [e3]
    exact ⟨.int _, H, I.kept hk', ⟨_, rfl⟩, q⟩

/-- the built-ins that are called by name, and what stands at the name -/
def bfV : BF → Option (Str × Value)
  | .len => some ("len", .builtin "len")
  | .max1 => some ("max", .builtin "max")
  | .max2 => some ("max", .builtin "max")
  | .min1 => some ("min", .builtin "min")
  | .min2 => some ("min", .builtin "min")
  | .sum => some ("sum", .builtin "sum")
  | .all => some ("all", .builtin "all")
  | .list => some ("list", .type "list")
  | .tuple => some ("tuple", .type "tuple")
  | .int => some ("int", .type "int")
  | .bool => some ("bool", .type "bool")
  | .sorted => some ("sorted", .builtin "sorted")
  | _ => none
theorem ShL.one {K : PySem.W.Frag} {F : AP} {H : Hp} {vs : List V} {d : D} (h : ShL K F H vs [d]) : ∃ v, vs = [v] ∧ Sh K F H v d := by
  cases h with
  | cons a b => cases b; exact ⟨_, rfl, a⟩
theorem ShL.two {K : PySem.W.Frag} {F : AP} {H : Hp} {vs : List V} {d e : D} (h : ShL K F H vs [d, e]) : ∃ v w, vs = [v, w] ∧ Sh K F H v d ∧ Sh K F H w e := by
  cases h with
  | cons a b => obtain ⟨w, rfl, c⟩ := b.one; exact ⟨_, _, rfl, a, c⟩
theorem seq_sh {K : PySem.W.Frag} {F : AP} {H : Hp} {v : V} {d : D} {xs : List D} (h : Sh K F H v d) (e : seq? d = some xs) : ∃ a vs, v = .ref a ∧ RpL K F H vs xs ∧ (H a = some (.lst vs) ∨ H a = some (.tup vs)) := by
  cases d with
  | lst ds => cases e; obtain ⟨a, vs, rfl, e, r⟩ := h; exact ⟨a, vs, rfl, r, .inl e⟩
  | tup ds => cases e; obtain ⟨a, vs, rfl, _, e, r⟩ := h; exact ⟨a, vs, rfl, r, .inr e⟩
  | _ => cases e
theorem one1_some {f : D → Option D} {ds : List D} {d : D} (h : one1 f ds = some d) : ∃ x, ds = [x] ∧ f x = some d := by
  rcases ds with _ | ⟨x, _ | ⟨y, r⟩⟩
  · cases h
  · exact ⟨x, rfl, h⟩
  · cases h
theorem two2_some {f : D → D → Option D} {ds : List D} {d : D} (h : two2 f ds = some d) : ∃ x y, ds = [x, y] ∧ f x y = some d := by
  rcases ds with _ | ⟨x, _ | ⟨y, _ | ⟨z, r⟩⟩⟩
  · cases h
  · cases h
  · exact ⟨x, y, rfl, h⟩
  · cases h
theorem seqI_some {f : List Int → Option D} {x d : D} (h : seqI f x = some d) : ∃ xs is, seq? x = some xs ∧ ints? xs = some is ∧ f is = some d := by
  unfold seqI at h
  cases e1 : seq? x with
  | none => rw [e1] at h; cases h
  | some xs =>
    rw [e1] at h
    simp only at h
    cases e2 : ints? xs with
    | none => rw [e2] at h; cases h
    | some is => rw [e2] at h; exact ⟨xs, is, rfl, e2, h⟩
/-! ### sorted -/
theorem insB_perm {α : Type} {le : α → α → Bool} (x : α) : ∀ l : List α, (insB le x l).Perm (x :: l)
  | [] => List.Perm.refl _
  | y :: r => by
    unfold insB
    cases le x y with
    | true => exact List.Perm.refl _
    | false => exact ((insB_perm x r).cons y).trans (List.Perm.swap x y r)
theorem isB_perm {α : Type} {le : α → α → Bool} : ∀ l : List α, (isB le l).Perm l
  | [] => List.Perm.refl _
  | x :: r => (insB_perm x _).trans ((isB_perm r).cons x)
theorem insB_sorted {α : Type} {le : α → α → Bool} (tot : ∀ a b, le a b = false → le b a = true) (tr : ∀ a b c, le a b = true → le b c = true → le a c = true) (x : α) : ∀ {l : List α}, l.Pairwise (fun a b => le a b = true) → (insB le x l).Pairwise (fun a b => le a b = true)
  | [], _ => List.pairwise_singleton _ _
  | y :: r, h => by
    unfold insB
    obtain ⟨h1, h2⟩ := List.pairwise_cons.mp h
    cases e : le x y with
    | true => exact List.pairwise_cons.mpr ⟨fun z hz => by
        rcases List.mem_cons.mp hz with rfl | hz
        · exact e
        · exact tr x y z e (h1 z hz), h⟩
    | false => exact List.pairwise_cons.mpr ⟨fun z hz => by
        rcases List.mem_cons.mp ((insB_perm x r).mem_iff.mp hz) with rfl | hz
        · exact tot z y e
        · exact h1 z hz, insB_sorted tot tr x h2⟩
theorem isB_sorted {α : Type} {le : α → α → Bool} (tot : ∀ a b, le a b = false → le b a = true) (tr : ∀ a b c, le a b = true → le b c = true → le a c = true) : ∀ l : List α, (isB le l).Pairwise (fun a b => le a b = true)
  | [] => List.Pairwise.nil
  | x :: r => insB_sorted tot tr x (isB_sorted tot tr r)
theorem sorted_uniq {α : Type} {le : α → α → Bool} (asym : ∀ a b, le a b = true → le b a = true → a = b) : ∀ {l m : List α}, l.Perm m → l.Pairwise (fun a b => le a b = true) → m.Pairwise (fun a b => le a b = true) → l = m
  | [], m, h, _, _ => (List.nil_perm.mp h).symm
  | x :: r, m, h, h1, h2 => by
    cases m with
    | nil => exact absurd h.length_eq (by simp)
    | cons y s =>
      obtain ⟨a1, a2⟩ := List.pairwise_cons.mp h1
      obtain ⟨b1, b2⟩ := List.pairwise_cons.mp h2
      have e : x = y := by
        have hx : x ∈ y :: s := h.mem_iff.mp List.mem_cons_self
        have hy : y ∈ x :: r := h.mem_iff.mpr List.mem_cons_self
        rcases List.mem_cons.mp hx with e | hx
        · exact e
        · rcases List.mem_cons.mp hy with e | hy
          · exact e.symm
          · exact asym x y (a1 y hy) (b1 x hx)
      subst e
      rw [sorted_uniq asym ((List.perm_cons x).mp h) a2 b2]
theorem leI_tot (a b : Int) (h : leI a b = false) : leI b a = true := by
  unfold leI at *
  rw [decide_eq_false_iff_not] at h
  rw [decide_eq_true_iff]
  omega
theorem leI_tr (a b c : Int) (h : leI a b = true) (h' : leI b c = true) : leI a c = true := by
  unfold leI at *
  rw [decide_eq_true_iff] at *
  omega
theorem leI_as (a b : Int) (h : leI a b = true) (h' : leI b a = true) : a = b := by
  unfold leI at *
  rw [decide_eq_true_iff] at *
  omega
theorem leP_iff {p q : Int × Int} : leP p q = true ↔ p.1 < q.1 ∨ (p.1 = q.1 ∧ p.2 ≤ q.2) := by
  unfold leP
  by_cases e : p.1 = q.1
  · rw [decide_eq_true e]
    simp only [decide_eq_true_iff]
    omega
  · rw [decide_eq_false e]
    simp only [decide_eq_true_iff]
    omega
theorem leP_tot (a b : Int × Int) (h : leP a b = false) : leP b a = true := by
  rw [leP_iff]
  have : ¬ (a.1 < b.1 ∨ (a.1 = b.1 ∧ a.2 ≤ b.2)) := fun z => by rw [leP_iff.mpr z] at h; cases h
  omega
theorem leP_tr (a b c : Int × Int) (h : leP a b = true) (h' : leP b c = true) : leP a c = true := by
  rw [leP_iff] at *
  omega
theorem leP_as (a b : Int × Int) (h : leP a b = true) (h' : leP b a = true) : a = b := by
  rw [leP_iff] at *
  exact Prod.ext (by omega) (by omega)
/-- a pair's two ints in the heap -/
def pk (H : Hp) : V → Int × Int
  | .ref a => match H a with
    | some (.tup [.int i, .int j]) => (i, j)
    | _ => (0, 0)
  | _ => (0, 0)
theorem prs_rp {K : PySem.W.Frag} {F : AP} {H : Hp} : ∀ {ds : List D} {ps : List (Int × Int)} {vs : List V}, prs? ds = some ps → RpL K F H vs ds → vs.map (pk H) = ps ∧ ∀ v ∈ vs, ∃ t, v = .ref t ∧ F t ∧ H t = some (.tup [.int (pk H v).1, .int (pk H v).2])
  | [], ps, vs, h, r => by cases h; cases r; exact ⟨rfl, fun v hv => by cases hv⟩
  | d :: ds, ps, vs, h, r => by
    unfold prs? at h
    split at h
    · rename_i h0; cases h0
    · rename_i a b r' h0
      cases h0
      split at h
      · rename_i ps' e
        cases h
        cases r with
        | cons r1 r2 =>
          obtain ⟨q1, q2⟩ := prs_rp e r2
          cases r1 with
          | @tup t xs _ f eH rr =>
            cases rr with
            | cons x1 rr =>
              cases x1
              cases rr with
              | cons x2 rr =>
                cases x2
                cases rr
                have ep : pk H (.ref t) = (a, b) := by
                  show (match H t with | some (.tup [.int i, .int j]) => (i, j) | _ => (0, 0)) = _
                  rw [eH]
                refine ⟨by rw [List.map_cons, ep, q1], fun v hv => ?_⟩
                rcases List.mem_cons.mp hv with rfl | hv
                · rw [ep]; exact ⟨t, rfl, f, eH⟩
                · exact q2 v hv
      · cases h
    · cases h
theorem pk_rp {K : PySem.W.Frag} {F : AP} {H : Hp} : ∀ {vs : List V}, (∀ v ∈ vs, ∃ t, v = .ref t ∧ F t ∧ H t = some (.tup [.int (pk H v).1, .int (pk H v).2])) → RpL K F H vs ((vs.map (pk H)).map p2D)
  | [], _ => .nil
  | v :: vs, h => by
    obtain ⟨t, rfl, f, e⟩ := h v List.mem_cons_self
    exact .cons (.tup f e (.cons (.int _) (.cons (.int _) .nil))) (pk_rp fun w hw => h w (List.mem_cons_of_mem _ hw))
theorem ints_rpL {K : PySem.W.Frag} {F : AP} {H : Hp} : ∀ is : List Int, RpL K F H (is.map V.int) (is.map D.int)
  | [] => .nil
  | i :: r => .cons (.int i) (ints_rpL r)
theorem blt_ok (hc : X.calm = true) (hu : X.A.units + 65 < cLine) {f : BF} {name : Str} {u : Value} (h : bfV f = some (name, u)) : ∃ r, CallR X u r ∧
    ∀ (F : AP) (H : Hp) (vs : List V) (ds : List D) (d : D) (Q : VK), Dm F H → ShL X.K F H vs ds → dblt f ds = some d → Kt X.K F H true d Q → r vs H Q := by
  cases f with
  | len =>
    cases h
    refine ⟨_, call_len_seq, fun F H vs ds d Q dm hs e k => ?_⟩
    obtain ⟨x, rfl, e⟩ := one1_some e
    obtain ⟨v, rfl, hx⟩ := hs.one
    cases x with
    | lst xs =>
      cases e
      obtain ⟨a, vs, rfl, e, r⟩ := hx
      exact ⟨a, vs, rfl, .inl (SqL.of e), by rw [r.length]; exact k.int dm⟩
    | tup xs =>
      cases e
      obtain ⟨a, vs, rfl, _, e, r⟩ := hx
      exact ⟨a, vs, rfl, .inr (SqT.of e), by rw [r.length]; exact k.int dm⟩
    | scr ns =>
      cases e
      obtain ⟨a, rfl, e⟩ := hx
      exact ⟨a, _, rfl, .inl e, by rw [List.length_map]; exact k.int dm⟩
    | _ => cases e
  | sorted =>
    cases h
    refine ⟨_, ((cr_sortedI.or cr_sortedPO).or (cr_sortTI.or cr_sortTP)).or cr_sortAsc, fun F H vs ds d Q dm hs e k => ?_⟩
    obtain ⟨x, rfl, e⟩ := one1_some e
    obtain ⟨v, rfl, hx⟩ := hs.one
    cases x with
    | lst xs =>
      obtain ⟨a, vs, rfl, eH, r⟩ := hx
      have e : (match sortD xs with | some ys => some (D.lst ys) | none => match rowsOk (pyL xs) with | true => some (D.lst xs) | false => none) = some d := e
      unfold sortD at e
      cases e1 : ints? xs with
      | some is =>
        rw [e1] at e
        cases e
        have ev := ints_rp e1 r
        subst ev
        refine .inl (.inl (.inl ⟨a, is, rfl, SqL.of eH, fun ns' p hp hw np => ?_⟩))
        have hu : ns' = isB leI is := sorted_uniq (le := leI) leI_as (hp.trans (isB_perm is).symm) (hw.imp fun h => decide_eq_true h) (isB_sorted leI_tot leI_tr is)
        subst hu
        exact Kt.newLst k dm (ints_rpL _) p np
      | none =>
        rw [e1] at e
        cases e2 : prs? xs with
        | none =>
          rw [e2] at e
          simp only at e
          cases e3 : rowsOk (pyL xs) with
          | false => rw [e3] at e; cases e
          | true =>
            rw [e3] at e
            cases e
            have e4 : PyData.canLayAll0 (pyL xs) = true := by
              unfold rowsOk at e3
              rw [Bool.and_eq_true, Bool.and_eq_true] at e3
              exact e3.1.1
            exact .inr ⟨a, vs, pyL xs, rfl, SqL.of eH, r.dp e4, e3, hu, fun p np => Kt.newLst k dm r p np⟩
        | some ps =>
          rw [e2] at e
          cases e
          obtain ⟨q1, q2⟩ := prs_rp e2 r
          refine .inl (.inl (.inr ⟨a, vs, pk H, rfl, SqL.of eH, fun v hv => ?_, fun ys p h1 h2 np => ?_⟩))
          · obtain ⟨t, e3, _, e4⟩ := q2 v hv
            exact ⟨t, e3, e4⟩
          · have hpm := h2.perm
            have hu : ys.map (pk H) = isB leP ps := by
              refine sorted_uniq (le := leP) leP_as ?_ ?_ (isB_sorted leP_tot leP_tr ps)
              · rw [← q1]
                exact (hpm.map (pk H)).trans (isB_perm _).symm
              · rw [List.pairwise_map]
                exact h1.imp fun {x y} h => by
                  rw [leP_iff]
                  have := SrtO.lexB_no.mp h
                  omega
            rw [← hu] at k
            exact Kt.newLst k dm (pk_rp fun v hv => q2 v (hpm.mem_iff.mp hv)) p np
    | tup xs =>
      obtain ⟨a, vs, rfl, _, eH, r⟩ := hx
      have e : (match sortD xs with | some ys => some (D.lst ys) | none => none) = some d := e
      unfold sortD at e
      cases e1 : ints? xs with
      | some is =>
        rw [e1] at e
        cases e
        have ev := ints_rp e1 r
        subst ev
        refine .inl (.inr (.inl ⟨a, is, rfl, eH, fun ns' p hp hw np => ?_⟩))
        have hu : ns' = isB leI is := sorted_uniq (le := leI) leI_as (hp.trans (isB_perm is).symm) (hw.imp fun h => decide_eq_true h) (isB_sorted leI_tot leI_tr is)
        subst hu
        exact Kt.newLst k dm (ints_rpL _) p np
      | none =>
        rw [e1] at e
        cases e2 : prs? xs with
        | none => rw [e2] at e; cases e
        | some ps =>
          rw [e2] at e
          cases e
          obtain ⟨q1, q2⟩ := prs_rp e2 r
          refine .inl (.inr (.inr ⟨a, vs, pk H, rfl, eH, fun v hv => ?_, fun ys p h1 h2 np => ?_⟩))
          · obtain ⟨t, e3, _, e4⟩ := q2 v hv
            exact ⟨t, e3, e4⟩
          · have hpm := h2.perm
            have hu : ys.map (pk H) = isB leP ps := by
              refine sorted_uniq (le := leP) leP_as ?_ ?_ (isB_sorted leP_tot leP_tr ps)
              · rw [← q1]
                exact (hpm.map (pk H)).trans (isB_perm _).symm
              · rw [List.pairwise_map]
                exact h1.imp fun {x y} h => by
                  rw [leP_iff]
                  have := SrtO.lexB_no.mp h
                  omega
            rw [← hu] at k
            exact Kt.newLst k dm (pk_rp fun v hv => q2 v (hpm.mem_iff.mp hv)) p np
    | _ => cases e
  | max1 =>
    cases h
    refine ⟨_, (cr_max hc).or (cr_maxT hc hu), fun F H vs ds d Q dm hs e k => ?_⟩
    obtain ⟨x, rfl, e⟩ := one1_some e
    obtain ⟨v, rfl, hx⟩ := hs.one
    obtain ⟨xs, is, e1, e2, e3⟩ := seqI_some e
    obtain ⟨a, vs, rfl, r, p⟩ := seq_sh hx e1
    have ev := ints_rp e2 r
    subst ev
    cases is with
    | nil => cases e3
    | cons i is =>
      cases e3
      rcases p with p | p
      · exact .inl ⟨a, i :: is, rfl, SqL.of p, by simp, fun m h1 h2 => by rw [max_the h1 h2]; exact k.int dm⟩
      · exact .inr ⟨a, i, is, rfl, p, k.int dm⟩
  | min1 =>
    cases h
    refine ⟨_, (cr_min hc).or (cr_minT hc hu), fun F H vs ds d Q dm hs e k => ?_⟩
    obtain ⟨x, rfl, e⟩ := one1_some e
    obtain ⟨v, rfl, hx⟩ := hs.one
    obtain ⟨xs, is, e1, e2, e3⟩ := seqI_some e
    obtain ⟨a, vs, rfl, r, p⟩ := seq_sh hx e1
    have ev := ints_rp e2 r
    subst ev
    cases is with
    | nil => cases e3
    | cons i is =>
      cases e3
      rcases p with p | p
      · exact .inl ⟨a, i :: is, rfl, SqL.of p, by simp, fun m h1 h2 => by rw [min_the h1 h2]; exact k.int dm⟩
      · exact .inr ⟨a, i, is, rfl, p, k.int dm⟩
  | max2 =>
    cases h
    refine ⟨_, call_max2 hc, fun F H vs ds d Q dm hs e k => ?_⟩
    obtain ⟨x, y, rfl, e⟩ := two2_some e
    obtain ⟨v, w, rfl, hx, hy⟩ := hs.two
    cases x with
    | int i =>
      cases y with
      | int j =>
        cases e
        cases Rp.int_of hx
        cases Rp.int_of hy
        exact ⟨i, j, rfl, k.int dm⟩
      | _ => cases e
    | _ => cases e
  | min2 =>
    cases h
    refine ⟨_, call_min2 hc, fun F H vs ds d Q dm hs e k => ?_⟩
    obtain ⟨x, y, rfl, e⟩ := two2_some e
    obtain ⟨v, w, rfl, hx, hy⟩ := hs.two
    cases x with
    | int i =>
      cases y with
      | int j =>
        cases e
        cases Rp.int_of hx
        cases Rp.int_of hy
        exact ⟨i, j, rfl, k.int dm⟩
      | _ => cases e
    | _ => cases e
  | sum =>
    cases h
    refine ⟨_, (cr_sum hc).or (cr_sumT hc), fun F H vs ds d Q dm hs e k => ?_⟩
    obtain ⟨x, rfl, e⟩ := one1_some e
    obtain ⟨v, rfl, hx⟩ := hs.one
    obtain ⟨xs, is, e1, e2, e3⟩ := seqI_some e
    obtain ⟨a, vs, rfl, r, p⟩ := seq_sh hx e1
    have ev := ints_rp e2 r
    subst ev
    cases e3
    rcases p with p | p
    · exact .inl ⟨a, is, rfl, SqL.of p, k.int dm⟩
    · exact .inr ⟨a, is, rfl, p, k.int dm⟩
  | all =>
    cases h
    refine ⟨_, cr_all hc, fun F H vs ds d Q dm hs e k => ?_⟩
    obtain ⟨x, rfl, e⟩ := one1_some e
    obtain ⟨v, rfl, hx⟩ := hs.one
    cases x with
    | lst xs =>
      obtain ⟨a, vs, rfl, ea, r⟩ := hx
      have e : dall (.lst xs) = some d := e
      unfold dall at e
      simp only at e
      cases e1 : bls? xs with
      | none => rw [e1] at e; cases e
      | some bs =>
        rw [e1] at e
        cases e
        rw [bls_rp e1 r] at ea
        exact ⟨a, bs, rfl, SqL.of ea, k.bl dm⟩
    | _ => cases e
  | list =>
    cases h
    refine ⟨_, call_list_of, fun F H vs ds d Q dm hs e k => ?_⟩
    obtain ⟨x, rfl, e⟩ := one1_some e
    obtain ⟨v, rfl, hx⟩ := hs.one
    cases x with
    | lst xs =>
      cases e
      obtain ⟨a, vs, rfl, ea, r⟩ := hx
      exact ⟨a, vs, rfl, .inl (SqL.of ea), k.newLst dm r⟩
    | tup xs =>
      cases e
      obtain ⟨a, vs, rfl, _, ea, r⟩ := hx
      exact ⟨a, vs, rfl, .inr (SqT.of ea), k.newLst dm r⟩
    | _ => cases e
  | tuple =>
    cases h
    refine ⟨_, call_tuple_of, fun F H vs ds d Q dm hs e k => ?_⟩
    obtain ⟨x, rfl, e⟩ := one1_some e
    obtain ⟨v, rfl, hx⟩ := hs.one
    cases x with
    | lst xs =>
      cases e
      obtain ⟨a, vs, rfl, ea, r⟩ := hx
      exact ⟨a, vs, rfl, .inl ⟨SqL.of ea, k.newTup dm r⟩⟩
    | tup xs =>
      cases e
      have hx' := hx.tup
      obtain ⟨a, vs, rfl, _, ea, r⟩ := hx
      exact ⟨a, vs, rfl, .inr ⟨SqT.of ea, k.flat dm hx' rfl⟩⟩
    | _ => cases e
  | int =>
    cases h
    refine ⟨_, call_int1, fun F H vs ds d Q dm hs e k => ?_⟩
    obtain ⟨x, rfl, e⟩ := one1_some e
    obtain ⟨v, rfl, hx⟩ := hs.one
    cases x with
    | int i =>
      cases e
      cases Rp.int_of hx
      exact .inl ⟨i, rfl, k.int dm⟩
    | bl b =>
      cases e
      cases Rp.bl_of hx
      exact .inr ⟨b, rfl, k.int dm⟩
    | _ => cases e
  | bool =>
    cases h
    refine ⟨_, call_bool1, fun F H vs ds d Q dm hs e k => ?_⟩
    obtain ⟨x, rfl, e⟩ := one1_some e
    obtain ⟨v, rfl, hx⟩ := hs.one
    cases x with
    | int i =>
      cases e
      cases Rp.int_of hx
      exact .inl ⟨i, rfl, k.bl dm⟩
    | bl b =>
      cases e
      cases Rp.bl_of hx
      exact .inr ⟨b, rfl, k.bl dm⟩
    | _ => cases e
  | _ => cases h
/-! ### isinstance -/
theorem kit_all : ∀ n ∈ ["NoneType", "bool", "int", "str", "tuple", "list"], ∀ T ∈ ["int", "bool", "str", "tuple", "list"], kitB n T = tyAns n T := by decide +kernel
theorem tyAns_mem {n T : String} {b : Bool} (h : tyAns n T = some b) : T ∈ ["int", "bool", "str", "tuple", "list"] := by
  unfold tyAns at h
  split at h
  · rename_i c; rw [c]; decide
  · split at h
    · rename_i c
      simp only [Bool.or_eq_true, decide_eq_true_eq] at c
      rcases c with ((c | c) | c) | c <;> rw [c] <;> decide
    · cases h
theorem tyIs_ok {K : PySem.W.Frag} {F : AP} {H : Hp} {v : V} {d : D} {T : String} {b : Bool} (h : Sh K F H v d) (e : tyIs T d = some b) : TyX K H v (.type (tyN d)) ∧ PySem.W.kitOne K (.type (tyN d)) (.type T) = some b := by
  have fin : ∀ n, n ∈ ["NoneType", "bool", "int", "str", "tuple", "list"] → tyAns n T = some b → PySem.W.kitOne K (.type n) (.type T) = some b := fun n hn ea => kit_ty ((kit_all n hn T (tyAns_mem ea)).trans ea)
  cases d with
  | non => cases Rp.non_of h; exact ⟨.base .non, fin "NoneType" (by decide) e⟩
  | bl b => cases Rp.bl_of h; exact ⟨.base (.bl b), fin "bool" (by decide) e⟩
  | int b => cases Rp.int_of h; exact ⟨.base (.int b), fin "int" (by decide) e⟩
  | str b => cases Rp.str_of h; exact ⟨.base (.str b), fin "str" (by decide) e⟩
  | lst ds => obtain ⟨a, xs, rfl, e1, _⟩ := h; exact ⟨.base (.lst e1), fin "list" (by decide) e⟩
  | tup ds => obtain ⟨a, xs, rfl, _, e1, _⟩ := h; exact ⟨.base (.tup e1), fin "tuple" (by decide) e⟩
  | _ => cases e
theorem boot_ty : ∀ T ∈ ["int", "bool", "str", "tuple", "list"], bootBuiltins (Str.ofString T) = some (.type T) := by
  intro T hT
  simp only [List.mem_cons, List.mem_nil_iff, or_false] at hT
  rcases hT with e | e | e | e | e <;> subst e <;> decide +kernel
end
end Pv

/-! Pv5: expressions: what a compiled expression gives is what the machine gives. -/
namespace Pv
open PySem PySem.Spec PyProof.Rows L2

/-- what a pure def promises -/
def spF (K : PySem.W.Frag) (F : Fn) : Sp := fun vs H Q _ => vs.length = F.ar ∧ ∃ (Fz : AP) (ds : List D) (d : D), Dm Fz H ∧ RpL K Fz H vs ds ∧ F.run ds = some d ∧ Kt K Fz H F.fr d Q
/-- the def at a name keeps it -/
def Callee (X : Cx) (nm : Str) (F : Fn) : Prop := ∃ (f : Addr) (fd : FuncData) (ps : List Str) (j : Nat),
  X.mg nm = some (.ref f) ∧ PySem.W.keepIn X.K (.ref f) = true ∧ Binds X.K fd ps [] ∧ FnOk X.prog X.w X.K X.mg X.base CX0 j f fd ps (spF X.K F) ∧ Room j X.A
def frs (Φ : List Fn) (k : Nat) : Bool := match Φ[k]? with
  | some F => F.fr
  | none => false
/-- what the compiler knows: the slots, the defs that may be called, whether a dict's display holds keys that are tuples, names of dicts that are walked -/
structure Cc where
  N : List Str
  fns : List Str
  dtup : Bool
  whn : Nat
  dv : List Str
def bNames : List Str := ["len", "max", "min", "sum", "all", "list", "tuple", "int", "bool", "str", "isinstance", "range", "enumerate", "zip", "sorted", "set"]
structure Cok (C : Cc) (sc ss : Scope) (Φ : List Fn) (X : Cx) : Prop where
  hN : X.N = C.N
  nd : X.N.Nodup
  hsc : X.env.scope = sc
  kd : sc.kind = .function
  calm : X.calm = true
  hu : X.A.units + 65 < cLine
  st : ∀ x, L2.Loc sc x → L2.Loc ss x → X.fn x = true ∨ sc.names.lookup x = some .local
  bi : ∀ x ∈ bNames, X.mg x = none
  len : Φ.length = C.fns.length
  fn : ∀ (k : Nat) (F : Fn) (nm : Str), Φ[k]? = some F → C.fns[k]? = some nm → Callee X nm F
  xe : X.xe = fun _ _ => False

theorem _root_.L2.PE.wk {X : Cx} {e : Expr} {t t' : TE} (h : PE X e t) (w : ∀ σ H Q, t' σ H Q → t σ H Q) : PE X e t' := ⟨fun pins s σ H Q I q => h.run pins s σ H Q I (w σ H Q q)⟩
theorem _root_.L2.PT.wk {X : Cx} {e : Expr} {t t' : TT} (h : PT X e t) (w : ∀ σ H Q, t' σ H Q → t σ H Q) : PT X e t' := ⟨fun pins s σ H Q I q => h.run pins s σ H Q I (w σ H Q q)⟩
theorem _root_.L2.PA.wk {X : Cx} {e : List Expr} {t t' : TA} (h : PA X e t) (w : ∀ σ H Q, t' σ H Q → t σ H Q) : PA X e t' := ⟨fun pos pins s σ H Q I q => h.run pos pins s σ H Q I (w σ H Q q)⟩

section
variable {K : PySem.W.Frag} {F F' : AP} {H H' : Hp} {o : Bool} {d : D} {Q : VK}
theorem Kt.after (g : Gr F H F' H') (k : Kt K F H o d Q) : Kt K F' H' o d Q := fun F2 H2 v g2 r => k F2 H2 v (g.trans g2) (r.imp fun _ n => g.same.free n)
end

/-- nobody's own name is handed on -/
abbrev Free (own : Ow) (is : List Nat) : Prop := ∀ i ∈ is, own.getD i false = false
theorem Free.l {own : Ow} {a b : List Nat} (h : Free own (a ++ b)) : Free own a := fun i hi => h i (List.mem_append_left _ hi)
theorem Free.r {own : Ow} {a b : List Nat} (h : Free own (a ++ b)) : Free own b := fun i hi => h i (List.mem_append_right _ hi)

section
variable (K : PySem.W.Frag) (Φ : List Fn)
/-- taken -/
def tT (c : CE) : TE := fun σ H Q => ∃ (F : AP) (env : En) (own : Ow) (d : D), St K F H σ env own ∧ Dm F H ∧ Free own (tk c) ∧ ev Φ c env = some d ∧ Kt K F H (fresh (frs Φ) c) d Q
/-- looked at -/
def tB (c : CE) : TE := fun σ H Q => ∃ (F : AP) (env : En) (own : Ow) (d : D), St K F H σ env own ∧ Dm F H ∧ Free own (tkB c) ∧ ev Φ c env = some d ∧ ∀ F' H' v, Gr F H F' H' → Sh K F' H' v d → Q v H'
/-- frozen -/
def tF (c : CE) : TE := fun σ H Q => ∃ (F : AP) (env : En) (own : Ow) (d : D), St K F H σ env own ∧ Dm F H ∧ Free own (tk c) ∧ ev Φ c env = some d ∧ ∀ F' H' v, Gr F H F' H' → Rp K F' H' v d → Q v H'
def tQ (c : CE) : TT := fun σ H Q => ∃ (F : AP) (env : En) (own : Ow) (b : Bool), St K F H σ env own ∧ Dm F H ∧ Free own (tk c) ∧ ev Φ c env = some (.bl b) ∧ ∀ F' H', Gr F H F' H' → Q b H'
def tFs (es : CEs) : TA := fun σ H Q => ∃ (F : AP) (env : En) (own : Ow) (ds : List D), St K F H σ env own ∧ Dm F H ∧ Free own (tks es) ∧ evs Φ es env = some ds ∧ ∀ F' H' vs, Gr F H F' H' → RpL K F' H' vs ds → Q vs H'
def tBs (es : CEs) : TA := fun σ H Q => ∃ (F : AP) (env : En) (own : Ow) (ds : List D), St K F H σ env own ∧ Dm F H ∧ Free own (tksB es) ∧ evs Φ es env = some ds ∧ ∀ F' H' vs, Gr F H F' H' → ShL K F' H' vs ds → Q vs H'
end

structure Snd (X : Cx) (Φ : List Fn) (e : Expr) (c : CE) : Prop where
  t : PE X e (tT X.K Φ c)
  b : PE X e (tB X.K Φ c)
  q : PT X e (tQ X.K Φ c)

section
variable {X : Cx} {Φ : List Fn} {e : Expr} {c : CE}
theorem froz (h : PE X e (tT X.K Φ c)) : PE X e (tF X.K Φ c) := h.wk fun σ H Q ⟨F, env, own, d, st, dm, fr, e, k⟩ => ⟨F, env, own, d, st, dm, fr, e, fun F' H' v g r => by
  obtain ⟨F2, g2, _, r2⟩ := r.freeze g
  exact k F2 H' v g2 r2⟩
theorem bor (h : PE X e (tT X.K Φ c)) (n : isVar c = false) : PE X e (tB X.K Φ c) := h.wk fun σ H Q ⟨F, env, own, d, st, dm, fr, e, k⟩ => ⟨F, env, own, d, st, dm, by unfold tkB at fr; rw [n] at fr; exact fr, e, fun F' H' v g r => k F' H' v g r.sh⟩
/-- a test by its value -/
theorem tst (h : PE X e (tT X.K Φ c)) (he : ∀ whole, isTrue e X.env whole = (do let v ← whole; standAt e.pos; holding [v] (truthy v))) : PT X e (tQ X.K Φ c) :=
  (pt_val h he).wk fun σ H Q ⟨F, env, own, b, st, dm, fr, e, k⟩ => ⟨F, env, own, .bl b, st, dm, fr, e, fun F' H' v g r => by
    have r' : Rp X.K F' H' v (.bl b) := by
      unfold RpO at r
      rw [if_neg (by simp [D.isMut])] at r
      exact r
    exact ⟨b, r'.bl_of, k F' H' g⟩⟩
theorem Snd.of (h : PE X e (tT X.K Φ c)) (n : isVar c = false) (he : ∀ whole, isTrue e X.env whole = (do let v ← whole; standAt e.pos; holding [v] (truthy v)) := by intro _; rfl) : Snd X Φ e c := ⟨h, bor h n, tst h he⟩
/-- two operands that are looked at -/
theorem two_b {F : AP} {H : Hp} {σ : L2.St} {env : En} {own : Ow} {a b : CE} {x y : D} {R : V → V → Hp → Prop} (st : St X.K F H σ env own) (dm : Dm F H) (fa : Free own (tkB a)) (fb : Free own (tkB b)) (ea : ev Φ a env = some x) (eb : ev Φ b env = some y)
    (k : ∀ F' H' v w, Gr F H F' H' → Sh X.K F' H' v x → Sh X.K F' H' w y → R v w H') : tB X.K Φ a σ H fun v H1 => tB X.K Φ b σ H1 fun w H2 => R v w H2 :=
  ⟨F, env, own, x, st, dm, fa, ea, fun F1 H1 v g1 s1 => ⟨F1, env, own, y, st.gr g1, g1.dom, fb, eb, fun F2 H2 w g2 s2 => k F2 H2 v w (g1.trans g2) (s1.gr g2) s2⟩⟩
theorem Gr.dm {F F' : AP} {H H' : Hp} (g : Gr F H F' H') : Dm F' H' := g.dom

/-! ### constants -/
theorem s_int {i : Int} {j : Nat} {pos : Pos} : Snd X Φ (.Constant (.int i) j pos) (.cint i) := Snd.of (pe_int.wk fun σ H Q ⟨F, env, own, d, st, dm, fr, e, k⟩ => by cases e; exact k.int dm) rfl
theorem s_bl {i : Bool} {j : Nat} {pos : Pos} : Snd X Φ (.Constant (.bool i) j pos) (.cbl i) := Snd.of (pe_bl.wk fun σ H Q ⟨F, env, own, d, st, dm, fr, e, k⟩ => by cases e; exact k.bl dm) rfl
theorem s_non {j : Nat} {pos : Pos} : Snd X Φ (.Constant .none j pos) .cnon := Snd.of (pe_non.wk fun σ H Q ⟨F, env, own, d, st, dm, fr, e, k⟩ => by cases e; exact k.flat dm .non rfl) rfl
theorem s_str {i : Str} {j : Nat} {pos : Pos} : Snd X Φ (.Constant (.str i) j pos) (.cstr i) := Snd.of (pe_str.wk fun σ H Q ⟨F, env, own, d, st, dm, fr, e, k⟩ => by cases e; exact k.flat dm (.str i) rfl) rfl

/-! ### names -/
section
variable {K : PySem.W.Frag} {F : AP} {H : Hp} {σ : L2.St} {env : En} {own : Ow} {i : Nat}
theorem getD_some {l : L2.St} {i : Nat} {v : V} (h : l.getD i none = some v) : l[i]? = some (some v) := by
  rw [List.getD_eq_getElem?_getD] at h
  cases z : l[i]? with
  | none => rw [z] at h; cases h
  | some x => rw [z] at h; exact congrArg some h
theorem St.look (s : St K F H σ env own) {d : D} (e : env.getD i none = some d) : ∃ v, σ[i]? = some (some v) ∧ Sh K F H v d := by
  have q := s.slot i
  rw [e] at q
  unfold SlotOk at q
  simp only at q
  split at q
  · obtain ⟨a, e1, _, w⟩ := q
    exact ⟨_, getD_some e1, w.sh⟩
  · obtain ⟨v, e1, r⟩ := q
    exact ⟨v, getD_some e1, r.sh⟩
theorem St.take (s : St K F H σ env own) {d : D} (e : env.getD i none = some d) (o : own.getD i false = false) : ∃ v, σ[i]? = some (some v) ∧ Rp K F H v d := by
  have q := s.slot i
  rw [e, o] at q
  unfold SlotOk at q
  simp only at q
  rw [if_neg (by simp)] at q
  obtain ⟨v, e1, r⟩ := q
  exact ⟨v, getD_some e1, r⟩
end
theorem s_var {i : Nat} {x : Str} {pos : Pos} (hN : X.N[i]? = some x) (hv : Vis X.env.scope x) (hd : (x == ("__debug__" : Str)) = false) (hcd : (x == ("__classdict__" : Str)) = false) : Snd X Φ (.Name x pos) (.var i) := by
  have p := pe_var (pos := pos) hN hv hd hcd
  have t : PE X (.Name x pos) (tT X.K Φ (.var i)) := p.wk fun σ H Q ⟨F, env, own, d, st, dm, fr, e, k⟩ => by
    obtain ⟨v, e1, r⟩ := st.take e (fr i (by simp [tk]))
    exact ⟨v, e1, k.old dm r⟩
  refine ⟨t, p.wk fun σ H Q ⟨F, env, own, d, st, dm, fr, e, k⟩ => ?_, tst t fun _ => rfl⟩
  obtain ⟨v, e1, r⟩ := st.look e
  exact ⟨v, e1, k F H v (Gr.refl dm) r⟩

/-! ### operators -/
variable {a b b' : Expr} {ca cb cb' : CE} {pos : Pos}
theorem s_bin {op : Operator} {bop : BOp} (ho : bopOf op = some bop) (ha : Snd X Φ a ca) (hb : Snd X Φ b cb) : Snd X Φ (.BinOp a op b pos) (.bin bop ca cb) := by
  obtain ⟨r, hr, h⟩ := bin_ok (X := X) ho
  refine Snd.of ((pe_op hr ha.b hb.b).wk fun σ H Q ⟨F, env, own, d, st, dm, fr, e, k⟩ => ?_) rfl
  have e' : ev Φ (.bin bop ca cb) env = some d := e
  unfold ev at e'
  cases ea : ev Φ ca env with
  | none => rw [ea] at e'; cases e'
  | some x =>
    rw [ea] at e'
    simp only at e'
    cases eb : ev Φ cb env with
    | none => rw [eb] at e'; cases e'
    | some y =>
      rw [eb] at e'
      exact two_b st dm (Free.l fr) (Free.r fr) ea eb fun F' H' v w g s1 s2 => h F' H' v w x y d Q g.dom s1 s2 e' (Kt.after g k)
theorem s_neg (ha : Snd X Φ a ca) : Snd X Φ (.UnaryOp .USub a pos) (.neg ca) := by
  refine Snd.of ((pe_un un_neg ha.t).wk fun σ H Q ⟨F, env, own, d, st, dm, fr, e, k⟩ => ?_) rfl
  have e' : ev Φ (.neg ca) env = some d := e
  unfold ev at e'
  split at e'
  · rename_i i ea
    cases e'
    exact ⟨F, env, own, .int i, st, dm, fr, ea, fun F' H' v g r => by
      have r' : Rp X.K F' H' v (.int i) := by
        unfold RpO at r
        rw [if_neg (by simp [D.isMut])] at r
        exact r
      exact ⟨i, r'.int_of, (Kt.after g k).int g.dom⟩⟩
  · cases e'
theorem ev_cmp {op : COp} {env : En} {d : D} (h : ev Φ (.cmp op ca cb) env = some d) : ∃ x y k, ev Φ ca env = some x ∧ ev Φ cb env = some y ∧ dcmp op x y = some k ∧ d = .bl k := by
  unfold ev at h
  cases ea : ev Φ ca env with
  | none => rw [ea] at h; cases h
  | some x =>
    rw [ea] at h
    simp only at h
    cases eb : ev Φ cb env with
    | none => rw [eb] at h; cases h
    | some y =>
      rw [eb] at h
      simp only at h
      cases ek : dcmp op x y with
      | none => rw [ek] at h; cases h
      | some k => rw [ek] at h; cases h; exact ⟨x, y, k, rfl, rfl, ek, rfl⟩
theorem s_cmp {op : CmpOp} {cop : COp} (hu : X.A.units + 65 < cLine) (ho : copOf op = some cop) (hm : behindInMarks op b = false) (ha : Snd X Φ a ca) (hb : Snd X Φ b cb) : Snd X Φ (.Compare a [op] [b] pos) (.cmp cop ca cb) := by
  obtain ⟨r, hr, h⟩ := cmp_ok (X := X) ho hu
  have t : PE X (.Compare a [op] [b] pos) (tT X.K Φ (.cmp cop ca cb)) := (pe_cmpR hr ha.b hb.b hm).wk fun σ H Q ⟨F, env, own, d, st, dm, fr, e, k⟩ => by
    obtain ⟨x, y, j, ea, eb, ej, rfl⟩ := ev_cmp e
    exact two_b st dm (Free.l fr) (Free.r fr) ea eb fun F' H' v w g s1 s2 => h F' H' v w x y j Q s1 s2 ej ((Kt.after g k).bl g.dom)
  refine ⟨t, bor t rfl, (pt_cmpR hr ha.b hb.b hm).wk fun σ H Q ⟨F, env, own, d, st, dm, fr, e, k⟩ => ?_⟩
  obtain ⟨x, y, j, ea, eb, ej, ed⟩ := ev_cmp e
  cases ed
  exact two_b st dm (Free.l fr) (Free.r fr) ea eb fun F' H' v w g s1 s2 => h F' H' v w x y d _ s1 s2 ej ⟨d, rfl, k F' H' g⟩
theorem ev_chain {op op' : COp} {env : En} {d : D} (h : ev Φ (.chain op op' ca cb cb') env = some d) : ∃ x y k, ev Φ ca env = some x ∧ ev Φ cb env = some y ∧ dcmp op x y = some k ∧
    ((k = false ∧ d = .bl false) ∨ (k = true ∧ ∃ z j, ev Φ cb' env = some z ∧ dcmp op' y z = some j ∧ d = .bl j)) := by
  unfold ev at h
  cases ea : ev Φ ca env with
  | none => rw [ea] at h; cases h
  | some x =>
    rw [ea] at h
    simp only at h
    cases eb : ev Φ cb env with
    | none => rw [eb] at h; cases h
    | some y =>
      rw [eb] at h
      simp only at h
      cases ek : dcmp op x y with
      | none => rw [ek] at h; cases h
      | some k =>
        rw [ek] at h
        cases k with
        | false => cases h; exact ⟨x, y, false, rfl, rfl, ek, .inl ⟨rfl, rfl⟩⟩
        | true =>
          simp only at h
          cases ec : ev Φ cb' env with
          | none => rw [ec] at h; cases h
          | some z =>
            rw [ec] at h
            simp only at h
            cases ej : dcmp op' y z with
            | none => rw [ej] at h; cases h
            | some j => rw [ej] at h; cases h; exact ⟨x, y, true, rfl, rfl, ek, .inr ⟨rfl, z, j, rfl, ej, rfl⟩⟩
theorem s_chain {op op' : CmpOp} {cop cop' : COp} (hu : X.A.units + 65 < cLine) (ho : copOf op = some cop) (ho' : copOf op' = some cop') (hm : lastMarks [op, op'] [b, b'] = false) (ha : Snd X Φ a ca) (hb : Snd X Φ b cb) (hb' : Snd X Φ b' cb') :
    Snd X Φ (.Compare a [op, op'] [b, b'] pos) (.chain cop cop' ca cb cb') := by
  obtain ⟨r, hr, h⟩ := cmp_ok (X := X) ho hu
  obtain ⟨r', hr', h'⟩ := cmp_ok (X := X) ho' hu
  have t : PE X (.Compare a [op, op'] [b, b'] pos) (tT X.K Φ (.chain cop cop' ca cb cb')) := (pe_chain hr hr' ha.b hb.b hb'.b hm).wk fun σ H Q ⟨F, env, own, d, st, dm, fr, e, k⟩ => by
    obtain ⟨x, y, j, ea, eb, ej, c⟩ := ev_chain e
    refine two_b st dm (Free.l fr) (Free.l (Free.r fr)) ea eb fun F' H' v w g s1 s2 => h F' H' v w x y j _ s1 s2 ej ⟨j, rfl, ?_⟩
    rcases c with ⟨rfl, rfl⟩ | ⟨rfl, z, j', ez, ej', rfl⟩
    · exact (Kt.after g k).bl g.dom
    · rw [if_pos rfl]
      exact ⟨F', env, own, z, st.gr g, g.dom, Free.r (Free.r fr), ez, fun F2 H2 u g2 s3 => h' F2 H2 w u y z j' Q (s2.gr g2) s3 ej' ((Kt.after (g.trans g2) k).bl g2.dom)⟩
  refine ⟨t, bor t rfl, (pt_chain hr hr' ha.b hb.b hb'.b hm).wk fun σ H Q ⟨F, env, own, d, st, dm, fr, e, k⟩ => ?_⟩
  obtain ⟨x, y, j, ea, eb, ej, c⟩ := ev_chain e
  refine two_b st dm (Free.l fr) (Free.l (Free.r fr)) ea eb fun F' H' v w g s1 s2 => h F' H' v w x y j _ s1 s2 ej ⟨j, rfl, ?_⟩
  rcases c with ⟨rfl, ed⟩ | ⟨rfl, z, j', ez, ej', ed⟩
  · cases ed
    exact ⟨false, rfl, k F' H' g⟩
  · cases ed
    rw [if_pos rfl]
    exact ⟨F', env, own, z, st.gr g, g.dom, Free.r (Free.r fr), ez, fun F2 H2 u g2 s3 => h' F2 H2 w u y z d _ (s2.gr g2) s3 ej' ⟨d, rfl, k F2 H2 (g.trans g2)⟩⟩

/-! ### and, or, not, if -/
theorem flatO {K : PySem.W.Frag} {o : Bool} {F : AP} {H : Hp} {N : AP} {v : V} {d : D} (h : RpO K o F H N v d) (m : d.isMut = false) : Rp K F H v d := by
  unfold RpO at h
  rw [if_neg (by rw [m]; simp)] at h
  exact h
theorem ev_and {env : En} {d : D} (h : ev Φ (.andd ca cb) env = some d) : (ev Φ ca env = some (.bl false) ∧ d = .bl false) ∨ (ev Φ ca env = some (.bl true) ∧ ∃ k, ev Φ cb env = some (.bl k) ∧ d = .bl k) := by
  unfold ev at h
  split at h
  · rename_i e; cases h; exact .inl ⟨e, rfl⟩
  · rename_i e
    split at h
    · rename_i k e2; cases h; exact .inr ⟨e, k, e2, rfl⟩
    · cases h
  · cases h
theorem ev_or {env : En} {d : D} (h : ev Φ (.orr ca cb) env = some d) : (ev Φ ca env = some (.bl true) ∧ d = .bl true) ∨ (ev Φ ca env = some (.bl false) ∧ ∃ k, ev Φ cb env = some (.bl k) ∧ d = .bl k) := by
  unfold ev at h
  split at h
  · rename_i e; cases h; exact .inl ⟨e, rfl⟩
  · rename_i e
    split at h
    · rename_i k e2; cases h; exact .inr ⟨e, k, e2, rfl⟩
    · cases h
  · cases h
/-- what stands in a chain of and, or: as a value, as a test whatever its whole -/
structure SndW (X : Cx) (Φ : List Fn) (e : Expr) (c : CE) : Prop where
  t : PE X e (tT X.K Φ c)
  q : PW X e (tQ X.K Φ c)
theorem _root_.L2.PW.wk {e : Expr} {t t' : TT} (h : PW X e t) (w : ∀ σ H Q, t' σ H Q → t σ H Q) : PW X e t' := ⟨fun wh pins s σ H Q I q => h.run wh pins s σ H Q I (w σ H Q q)⟩
theorem s_one {op : PySem.BoolOp} (ha : Snd X Φ a ca) : SndW X Φ (.BoolOp op [a] pos) ca := ⟨pe_one ha.t, by
  cases op with
  | And => exact pw_and1 ha.q
  | Or => exact pw_or1 ha.q⟩
theorem s_and {rest : List Expr} (ha : Snd X Φ a ca) (hb : SndW X Φ (.BoolOp .And (b :: rest) pos) cb) : SndW X Φ (.BoolOp .And (a :: b :: rest) pos) (.andd ca cb) := by
  refine ⟨(pe_and ha.t hb.t).wk fun σ H Q ⟨F, env, own, d, st, dm, fr, e, k⟩ => ?_, (pw_and ha.q hb.q).wk fun σ H Q ⟨F, env, own, d, st, dm, fr, e, k⟩ => ?_⟩
  · rcases ev_and e with ⟨e1, rfl⟩ | ⟨e1, j, e2, rfl⟩
    · exact ⟨F, env, own, _, st, dm, Free.l fr, e1, fun F' H' v g r => ⟨false, (flatO r rfl).bl_of, (Kt.after g k).bl g.dom⟩⟩
    · exact ⟨F, env, own, _, st, dm, Free.l fr, e1, fun F' H' v g r => ⟨true, (flatO r rfl).bl_of, by
        rw [if_pos rfl]
        exact ⟨F', env, own, _, st.gr g, g.dom, Free.r fr, e2, fun F2 H2 w g2 r2 => (Kt.after g k) F2 H2 w g2 (RpO.flat (flatO r2 rfl) rfl)⟩⟩⟩
  · rcases ev_and e with ⟨e1, ed⟩ | ⟨e1, j, e2, ed⟩
    · cases ed
      exact ⟨F, env, own, _, st, dm, Free.l fr, e1, fun F' H' g => k F' H' g⟩
    · cases ed
      exact ⟨F, env, own, _, st, dm, Free.l fr, e1, fun F' H' g => iteT ⟨F', env, own, _, st.gr g, g.dom, Free.r fr, e2, fun F2 H2 g2 => k F2 H2 (g.trans g2)⟩⟩
theorem s_or {rest : List Expr} (ha : Snd X Φ a ca) (hb : SndW X Φ (.BoolOp .Or (b :: rest) pos) cb) : SndW X Φ (.BoolOp .Or (a :: b :: rest) pos) (.orr ca cb) := by
  refine ⟨(pe_or ha.t hb.t).wk fun σ H Q ⟨F, env, own, d, st, dm, fr, e, k⟩ => ?_, (pw_or ha.q hb.q).wk fun σ H Q ⟨F, env, own, d, st, dm, fr, e, k⟩ => ?_⟩
  · rcases ev_or e with ⟨e1, rfl⟩ | ⟨e1, j, e2, rfl⟩
    · exact ⟨F, env, own, _, st, dm, Free.l fr, e1, fun F' H' v g r => ⟨true, (flatO r rfl).bl_of, by rw [if_pos rfl]; exact (Kt.after g k).bl g.dom⟩⟩
    · exact ⟨F, env, own, _, st, dm, Free.l fr, e1, fun F' H' v g r => ⟨false, (flatO r rfl).bl_of, by
        rw [if_neg (by simp)]
        exact ⟨F', env, own, _, st.gr g, g.dom, Free.r fr, e2, fun F2 H2 w g2 r2 => (Kt.after g k) F2 H2 w g2 (RpO.flat (flatO r2 rfl) rfl)⟩⟩⟩
  · rcases ev_or e with ⟨e1, ed⟩ | ⟨e1, j, e2, ed⟩
    · cases ed
      exact ⟨F, env, own, _, st, dm, Free.l fr, e1, fun F' H' g => iteT (k F' H' g)⟩
    · cases ed
      exact ⟨F, env, own, _, st, dm, Free.l fr, e1, fun F' H' g => iteF ⟨F', env, own, _, st.gr g, g.dom, Free.r fr, e2, fun F2 H2 g2 => k F2 H2 (g.trans g2)⟩⟩
theorem SndW.snd (h : SndW X Φ e c) (n : isVar c = false) : Snd X Φ e c := ⟨h.t, bor h.t n, h.q.pt⟩
theorem s_not (ha : Snd X Φ a ca) : Snd X Φ (.UnaryOp .Not a pos) (.nott ca) := by
  have ek : ∀ {env : En} {d : D}, ev Φ (.nott ca) env = some d → ∃ k, ev Φ ca env = some (.bl k) ∧ d = .bl (!k) := fun {env d} h => by
    unfold ev at h
    split at h
    · rename_i k e; cases h; exact ⟨k, e, rfl⟩
    · cases h
  have t : PE X (.UnaryOp .Not a pos) (tT X.K Φ (.nott ca)) := (pe_not ha.t).wk fun σ H Q ⟨F, env, own, d, st, dm, fr, e, k⟩ => by
    obtain ⟨j, e1, rfl⟩ := ek e
    exact ⟨F, env, own, _, st, dm, fr, e1, fun F' H' v g r => ⟨j, (flatO r rfl).bl_of, (Kt.after g k).bl g.dom⟩⟩
  refine ⟨t, bor t rfl, (pt_not ha.q).wk fun σ H Q ⟨F, env, own, d, st, dm, fr, e, k⟩ => ?_⟩
  obtain ⟨j, e1, ed⟩ := ek e
  cases ed
  exact ⟨F, env, own, _, st, dm, fr, e1, fun F' H' g => k F' H' g⟩
end
end Pv

/-! Pv6: expressions, further: displays, subscripts, slices, calls. -/
namespace Pv
open PySem PySem.Spec PyProof.Rows L2
section
variable {X : Cx} {Φ : List Fn} {e a b b' : Expr} {c ca cb cb' : CE} {pos : Pos}

/-! ### a if t else b -/
theorem ev_ite {env : En} {d : D} (h : ev Φ (.ite c ca cb) env = some d) : (ev Φ c env = some (.bl true) ∧ ev Φ ca env = some d) ∨ (ev Φ c env = some (.bl false) ∧ ev Φ cb env = some d) := by
  unfold ev at h
  split at h
  · rename_i e; exact .inl ⟨e, h⟩
  · rename_i e; exact .inr ⟨e, h⟩
  · cases h
theorem RpO.weak {K : PySem.W.Frag} {o o' : Bool} {F F0 : AP} {H H0 : Hp} {v : V} {d : D} (g : Gr F0 H0 F H) (h : RpO K o F H (fun a => H0 a = none) v d) (ho : o' = true → o = true) :
    ∃ F', Gr F0 H0 F' H ∧ RpO K o' F' H (fun a => H0 a = none) v d := by
  by_cases c : o' = true
  · rw [c, ← ho c]; exact ⟨F, g, h⟩
  · obtain ⟨F', g', _, r⟩ := h.freeze g
    exact ⟨F', g', RpO.of r (by cases o' <;> simp_all)⟩
theorem s_ite {t : Expr} (hc : Snd X Φ t c) (ha : Snd X Φ a ca) (hb : Snd X Φ b cb) : Snd X Φ (.IfExp t a b pos) (.ite c ca cb) := by
  have tt : PE X (.IfExp t a b pos) (tT X.K Φ (.ite c ca cb)) := (pe_ifExp hc.q ha.t hb.t).wk fun σ H Q ⟨F, env, own, d, st, dm, fr, e, k⟩ => by
    have hfr : fresh (frs Φ) (.ite c ca cb) = (fresh (frs Φ) ca && fresh (frs Φ) cb) := rfl
    rcases ev_ite e with ⟨e1, e2⟩ | ⟨e1, e2⟩
    · exact ⟨F, env, own, _, st, dm, Free.l fr, e1, fun F' H' g => iteT ⟨F', env, own, d, st.gr g, g.dom, Free.l (Free.r fr), e2, fun F2 H2 v g2 r => by
        obtain ⟨F3, g3, r3⟩ := r.weak g2 (o' := fresh (frs Φ) (.ite c ca cb)) (fun z => by rw [hfr, Bool.and_eq_true] at z; exact z.1)
        exact Kt.after g k F3 H2 v g3 r3⟩⟩
    · exact ⟨F, env, own, _, st, dm, Free.l fr, e1, fun F' H' g => iteF ⟨F', env, own, d, st.gr g, g.dom, Free.r (Free.r fr), e2, fun F2 H2 v g2 r => by
        obtain ⟨F3, g3, r3⟩ := r.weak g2 (o' := fresh (frs Φ) (.ite c ca cb)) (fun z => by rw [hfr, Bool.and_eq_true] at z; exact z.2)
        exact Kt.after g k F3 H2 v g3 r3⟩⟩
  refine ⟨tt, bor tt rfl, ⟨fun pins s σ H Q I ⟨F, env, own, d, st, dm, fr, e, k⟩ => ?_⟩⟩
  have hq : tQ X.K Φ c σ H fun j H1 => if j = true then tQ X.K Φ ca σ H1 Q else tQ X.K Φ cb σ H1 Q := by
    rcases ev_ite e with ⟨e1, e2⟩ | ⟨e1, e2⟩
    · exact ⟨F, env, own, _, st, dm, Free.l fr, e1, fun F' H' g => iteT ⟨F', env, own, d, st.gr g, g.dom, Free.l (Free.r fr), e2, fun F2 H2 g2 => k F2 H2 (g.trans g2)⟩⟩
    · exact ⟨F, env, own, _, st, dm, Free.l fr, e1, fun F' H' g => iteF ⟨F', env, own, d, st.gr g, g.dom, Free.r (Free.r fr), e2, fun F2 H2 g2 => k F2 H2 (g.trans g2)⟩⟩
  refine isTrue_IfExp (thn (hc.q.run pins s σ H _ I hq) fun j s1 ⟨H1, I1, q1⟩ => ?_)
  cases j with
  | true => exact ha.q.run pins s1 σ H1 Q I1 q1
  | false => exact hb.q.run pins s1 σ H1 Q I1 q1

/-! ### argument lists, displays -/
def notStar : Expr → Bool
  | .Starred _ _ => false
  | _ => true
theorem star_cons {env : Env} {es : List Expr} (h : notStar e = true) : starEach (e :: es) env = (false, eval e env) :: starEach es env := by
  cases e <;> first | rfl | cases h
theorem star_plain {env : Env} : ∀ {es : List Expr}, (∀ e ∈ es, notStar e = true) → (backTo pos (starEach es env)).any (·.1) = false
  | [], _ => rfl
  | e :: es, h => by
    rw [star_cons (h e List.mem_cons_self)]
    show (false || (backTo pos (starEach es env)).any (·.1)) = false
    rw [star_plain fun x hx => h x (List.mem_cons_of_mem _ hx)]
    rfl
theorem evs_cons {es : CEs} {env : En} {ds : List D} (h : evs Φ (.cons c es) env = some ds) : ∃ d r, ev Φ c env = some d ∧ evs Φ es env = some r ∧ ds = d :: r := by
  unfold evs at h
  cases e1 : ev Φ c env with
  | none => rw [e1] at h; cases h
  | some d =>
    rw [e1] at h
    simp only at h
    cases e2 : evs Φ es env with
    | none => rw [e2] at h; cases h
    | some r => rw [e2] at h; cases h; exact ⟨d, r, rfl, rfl, rfl⟩
theorem as_nil : PA X [] (tFs X.K Φ .nil) := pa_nil.wk fun σ H Q ⟨F, env, own, ds, st, dm, fr, e, k⟩ => by
  cases e
  exact k F H [] (Gr.refl dm) .nil
theorem as_cons {es : List Expr} {cs : CEs} (ns : notStar e = true) (he : Snd X Φ e c) (hs : PA X es (tFs X.K Φ cs)) : PA X (e :: es) (tFs X.K Φ (.cons c cs)) :=
  (pa_cons (froz he.t) hs (star_cons ns)).wk fun σ H Q ⟨F, env, own, ds, st, dm, fr, e, k⟩ => by
    obtain ⟨d, r, e1, e2, rfl⟩ := evs_cons e
    exact ⟨F, env, own, d, st, dm, Free.l fr, e1, fun F' H' v g r1 => ⟨F', env, own, r, st.gr g, g.dom, Free.r fr, e2, fun F2 H2 vs g2 r2 => k F2 H2 _ (g.trans g2) (.cons (r1.kp g2.kp) r2)⟩⟩
theorem ab_nil : PA X [] (tBs X.K Φ .nil) := pa_nil.wk fun σ H Q ⟨F, env, own, ds, st, dm, fr, e, k⟩ => by
  cases e
  exact k F H [] (Gr.refl dm) .nil
theorem ShL.gr {K : PySem.W.Frag} {F F' : AP} {H H' : Hp} (g : Gr F H F' H') : ∀ {vs : List V} {ds : List D}, ShL K F H vs ds → ShL K F' H' vs ds
  | _, _, .nil => .nil
  | _, _, .cons a b => .cons (a.gr g) (ShL.gr g b)
theorem ab_cons {es : List Expr} {cs : CEs} (ns : notStar e = true) (he : Snd X Φ e c) (hs : PA X es (tBs X.K Φ cs)) : PA X (e :: es) (tBs X.K Φ (.cons c cs)) :=
  (pa_cons he.b hs (star_cons ns)).wk fun σ H Q ⟨F, env, own, ds, st, dm, fr, e, k⟩ => by
    obtain ⟨d, r, e1, e2, rfl⟩ := evs_cons e
    exact ⟨F, env, own, d, st, dm, Free.l fr, e1, fun F' H' v g r1 => ⟨F', env, own, r, st.gr g, g.dom, Free.r fr, e2, fun F2 H2 vs g2 r2 => k F2 H2 _ (g.trans g2) (.cons (r1.gr g2) r2)⟩⟩
theorem s_tup {es : List Expr} {cs : CEs} {k : Nat} (hs : PA X es (tFs X.K Φ cs)) : Snd X Φ (.Tuple es k pos) (.tup cs) := by
  refine Snd.of ((pe_tup hs).wk fun σ H Q ⟨F, env, own, d, st, dm, fr, e, k⟩ => ?_) rfl
  have e' : ev Φ (.tup cs) env = some d := e
  unfold ev at e'
  cases e1 : evs Φ cs env with
  | none => rw [e1] at e'; cases e'
  | some ds =>
    rw [e1] at e'
    simp only at e'
    split at e'
    case isFalse => cases e'
    rename_i hl
    cases e'
    exact ⟨F, env, own, ds, st, dm, fr, e1, fun F' H' vs g r => ⟨by rw [r.length]; exact hl, (Kt.after g k).newTup g.dom r⟩⟩
theorem s_lst {es : List Expr} {cs : CEs} (hs : PA X es (tFs X.K Φ cs)) : Snd X Φ (.List es pos) (.lst cs) := by
  refine Snd.of ((pe_lst hs).wk fun σ H Q ⟨F, env, own, d, st, dm, fr, e, k⟩ => ?_) rfl
  have e' : ev Φ (.lst cs) env = some d := e
  unfold ev at e'
  cases e1 : evs Φ cs env with
  | none => rw [e1] at e'; cases e'
  | some ds =>
    rw [e1] at e'
    simp only at e'
    split at e'
    case isFalse => cases e'
    rename_i hl
    cases e'
    exact ⟨F, env, own, ds, st, dm, fr, e1, fun F' H' vs g r => ⟨by rw [r.length]; exact hl, (Kt.after g k).newLst g.dom r⟩⟩
theorem s_dnil {t : Bool} : Snd X Φ (.Dict [] [] pos) (.dnil t) := by
  cases t with
  | false => exact Snd.of (pe_dnewK.wk fun σ H Q ⟨F, env, own, d, st, dm, fr, e, k⟩ => by cases e; exact Kt.newDk k dm .nil) rfl
  | true => exact Snd.of (pe_dnewT.wk fun σ H Q ⟨F, env, own, d, st, dm, fr, e, k⟩ => by cases e; exact Kt.newDt k dm .nil) rfl

/-! ### subscripts, slices -/
def isSl : Expr → Bool
  | .Slice _ _ _ _ => true
  | _ => false
theorem plainIx (h : isSl b = false) : PlainIx b := by
  intro o i
  cases b <;> first | rfl | cases h
theorem s_idx (hu : X.A.units + 65 < cLine) (n : isSl b = false) (ha : Snd X Φ a ca) (hb : Snd X Φ b cb) : Snd X Φ (.Subscript a b pos) (.idx ca cb) := by
  obtain ⟨r, hr, h⟩ := idx_ok (X := X) hu
  refine Snd.of ((pe_ix hr ha.b hb.t (plainIx n)).wk fun σ H Q ⟨F, env, own, d, st, dm, fr, e, k⟩ => ?_) rfl
  have e' : ev Φ (.idx ca cb) env = some d := e
  unfold ev at e'
  cases ea : ev Φ ca env with
  | none => rw [ea] at e'; cases e'
  | some x =>
    rw [ea] at e'
    simp only at e'
    cases eb : ev Φ cb env with
    | none => rw [eb] at e'; cases e'
    | some y =>
      rw [eb] at e'
      exact ⟨F, env, own, x, st, dm, Free.l fr, ea, fun F1 H1 v g1 s1 => ⟨F1, env, own, y, st.gr g1, g1.dom, Free.r fr, eb, fun F2 H2 w g2 r2 =>
        h F2 H2 v w x y d Q g2.dom (s1.gr g2) r2.sh e' (Kt.after (g1.trans g2) k)⟩⟩
/-- an int that is reckoned -/
theorem intT {σ : L2.St} {H : Hp} {F : AP} {env : En} {own : Ow} {i : Int} {Q : VK} (st : St X.K F H σ env own) (dm : Dm F H) (fr : Free own (tk c)) (e : ev Φ c env = some (.int i)) (k : ∀ F' H', Gr F H F' H' → Q (.int i) H') : tT X.K Φ c σ H Q :=
  ⟨F, env, own, .int i, st, dm, fr, e, fun F' H' v g r => by rw [(flatO r rfl).int_of]; exact k F' H' g⟩
theorem s_sl00 {p2 : Pos} (ha : Snd X Φ a ca) : Snd X Φ (.Subscript a (.Slice none none none p2) pos) (.sl00 ca) := by
  obtain ⟨r, hr, h⟩ := sl_ok (X := X)
  refine Snd.of ((pe_slice hr ha.b po_none po_none).wk fun σ H Q ⟨F, env, own, d, st, dm, fr, e, k⟩ => ?_) rfl
  have e' : ev Φ (.sl00 ca) env = some d := e
  unfold ev at e'
  cases ea : ev Φ ca env with
  | none => rw [ea] at e'; cases e'
  | some x =>
    rw [ea] at e'
    exact ⟨F, env, own, x, st, dm, fr, ea, fun F1 H1 v g1 s1 => h F1 H1 v x d none none Q g1.dom s1 e' (Kt.after g1 k)⟩
theorem s_sl10 {p2 : Pos} (ha : Snd X Φ a ca) (hb : Snd X Φ b cb) : Snd X Φ (.Subscript a (.Slice (some b) none none p2) pos) (.sl10 ca cb) := by
  obtain ⟨r, hr, h⟩ := sl_ok (X := X)
  refine Snd.of ((pe_slice hr ha.b (po_some hb.t) po_none).wk fun σ H Q ⟨F, env, own, d, st, dm, fr, e, k⟩ => ?_) rfl
  have e' : ev Φ (.sl10 ca cb) env = some d := e
  unfold ev at e'
  cases ea : ev Φ ca env with
  | none => rw [ea] at e'; cases e'
  | some x =>
    rw [ea] at e'
    simp only at e'
    split at e'
    case h_2 => cases e'
    rename_i i eb
    exact ⟨F, env, own, x, st, dm, Free.l fr, ea, fun F1 H1 v g1 s1 => intT (st.gr g1) g1.dom (Free.r fr) eb fun F2 H2 g2 => ⟨i, rfl, h F2 H2 v x d (some i) none Q g2.dom (s1.gr g2) e' (Kt.after (g1.trans g2) k)⟩⟩
theorem s_sl01 {p2 : Pos} (ha : Snd X Φ a ca) (hb : Snd X Φ b cb) : Snd X Φ (.Subscript a (.Slice none (some b) none p2) pos) (.sl01 ca cb) := by
  obtain ⟨r, hr, h⟩ := sl_ok (X := X)
  refine Snd.of ((pe_slice hr ha.b po_none (po_some hb.t)).wk fun σ H Q ⟨F, env, own, d, st, dm, fr, e, k⟩ => ?_) rfl
  have e' : ev Φ (.sl01 ca cb) env = some d := e
  unfold ev at e'
  cases ea : ev Φ ca env with
  | none => rw [ea] at e'; cases e'
  | some x =>
    rw [ea] at e'
    simp only at e'
    split at e'
    case h_2 => cases e'
    rename_i i eb
    exact ⟨F, env, own, x, st, dm, Free.l fr, ea, fun F1 H1 v g1 s1 => intT (st.gr g1) g1.dom (Free.r fr) eb fun F2 H2 g2 => ⟨i, rfl, h F2 H2 v x d none (some i) Q g2.dom (s1.gr g2) e' (Kt.after (g1.trans g2) k)⟩⟩
theorem s_sl11 {p2 : Pos} (ha : Snd X Φ a ca) (hb : Snd X Φ b cb) (hb' : Snd X Φ b' cb') : Snd X Φ (.Subscript a (.Slice (some b) (some b') none p2) pos) (.sl11 ca cb cb') := by
  obtain ⟨r, hr, h⟩ := sl_ok (X := X)
  refine Snd.of ((pe_slice hr ha.b (po_some hb.t) (po_some hb'.t)).wk fun σ H Q ⟨F, env, own, d, st, dm, fr, e, k⟩ => ?_) rfl
  have e' : ev Φ (.sl11 ca cb cb') env = some d := e
  unfold ev at e'
  cases ea : ev Φ ca env with
  | none => rw [ea] at e'; cases e'
  | some x =>
    rw [ea] at e'
    simp only at e'
    split at e'
    case h_2 => cases e'
    rename_i i eb
    split at e'
    case h_2 => cases e'
    rename_i j ec
    exact ⟨F, env, own, x, st, dm, Free.l fr, ea, fun F1 H1 v g1 s1 => intT (st.gr g1) g1.dom (Free.l (Free.r fr)) eb fun F2 H2 g2 => ⟨i, rfl, intT ((st.gr g1).gr g2) g2.dom (Free.r (Free.r fr)) ec fun F3 H3 g3 => ⟨j, rfl,
      h F3 H3 v x d (some i) (some j) Q g3.dom ((s1.gr g2).gr g3) e' (Kt.after ((g1.trans g2).trans g3) k)⟩⟩⟩
theorem s_rev {k : Nat} {p1 p2 p3 : Pos} (ha : Snd X Φ a ca) : Snd X Φ (.Subscript a (.Slice none none (some (.UnaryOp .USub (.Constant (.int 1) k p1) p2)) p3) pos) (.rev ca) := by
  refine Snd.of ((pe_revS ha.b).wk fun σ H Q ⟨F, env, own, d, st, dm, fr, e, k⟩ => ?_) rfl
  have e' : ev Φ (.rev ca) env = some d := e
  unfold ev at e'
  cases ea : ev Φ ca env with
  | none => rw [ea] at e'; cases e'
  | some x =>
    rw [ea] at e'
    refine ⟨F, env, own, x, st, dm, fr, ea, fun F1 H1 v g1 s1 => ?_⟩
    cases x with
    | lst xs =>
      cases e'
      obtain ⟨a, vs, rfl, e1, r⟩ := s1
      exact ⟨a, vs, rfl, .inl ⟨e1, (Kt.after g1 k).newLst g1.dom r.reverse⟩⟩
    | tup xs =>
      cases e'
      obtain ⟨a, vs, rfl, _, e1, r⟩ := s1
      exact ⟨a, vs, rfl, .inr ⟨e1, (Kt.after g1 k).newTup g1.dom r.reverse⟩⟩
    | _ => cases e'

/-! ### calls -/
theorem ev_call {cs : CEs} {k : Nat} {F : Fn} {env : En} {d : D} (hF : Φ[k]? = some F) (e : ev Φ (.call k cs) env = some d) : ∃ ds, evs Φ cs env = some ds ∧ ds.length = F.ar ∧ F.run ds = some d := by
  have e' := e
  unfold ev at e'
  cases e1 : evs Φ cs env with
  | none => rw [e1] at e'; cases e'
  | some ds =>
    rw [e1] at e'
    simp only [hF] at e'
    split at e'
    case isFalse => cases e'
    rename_i hl
    exact ⟨ds, rfl, hl, e'⟩
theorem call_wk {cs : CEs} {k : Nat} {F : Fn} (hF : Φ[k]? = some F) {σ : L2.St} {H : Hp} {Q : VK} (h : tT X.K Φ (.call k cs) σ H Q) : tCall (spF X.K F) [] E0 (tFs X.K Φ cs) σ H Q := by
  obtain ⟨Fz, env, own, d, st, dm, fr, e, k'⟩ := h
  obtain ⟨ds, e1, hl, e'⟩ := ev_call hF e
  have hfr : fresh (frs Φ) (.call k cs) = F.fr := by
    show frs Φ k = F.fr
    unfold frs
    rw [hF]
  rw [hfr] at k'
  refine ⟨Fz, env, own, ds, st, dm, fr, e1, fun F' H' vs g r => ?_⟩
  show spF X.K F (vs ++ []) H' Q E0
  rw [List.append_nil]
  exact ⟨by rw [r.length]; exact hl, F', ds, d, g.dom, r, e', Kt.after g k'⟩
theorem s_call {x : Str} {p : Pos} {e : Expr} {es : List Expr} {cs : CEs} {k : Nat} {F : Fn} (hg : Gl X x) (hdb : (x == ("__debug__" : Str)) = false) (hF : Φ[k]? = some F) (hC : Callee X x F) (ns : ∀ e' ∈ e :: es, notStar e' = true) (hs : PA X (e :: es) (tFs X.K Φ cs)) :
    Snd X Φ (.Call (.Name x p) (e :: es) [] pos) (.call k cs) := by
  obtain ⟨f, fd, ps, j, hm, hk, hb, ok, hr⟩ := hC
  exact Snd.of ((pe_call ok hr hg hm hk hb .nil pass0 hs hdb (star_cons (ns e List.mem_cons_self)) (star_plain fun x hx => ns x (List.mem_cons_of_mem _ hx))).wk fun σ H Q h => call_wk hF h) rfl
theorem s_call0 {x : Str} {p : Pos} {k : Nat} {F : Fn} (hg : Gl X x) (hdb : (x == ("__debug__" : Str)) = false) (hF : Φ[k]? = some F) (hC : Callee X x F) : Snd X Φ (.Call (.Name x p) [] [] pos) (.call k .nil) := by
  obtain ⟨f, fd, ps, j, hm, hk, hb, ok, hr⟩ := hC
  refine Snd.of ((pe_call0 ok hr hg hm hk hb .nil pass0 hdb).wk fun σ H Q h => ?_) rfl
  obtain ⟨Fz, env, own, ds, st, dm, fr, e1, q⟩ := call_wk hF h
  cases e1
  exact q Fz H [] (Gr.refl dm) .nil

/-! ### built-in functions -/
theorem boot_of {f : BF} {name : Str} {u : Value} (h : bfV f = some (name, u)) : bootBuiltins name = some u := by
  cases f <;> cases h <;> decide +kernel
theorem name_of {f : BF} {name : Str} {u : Value} (h : bfV f = some (name, u)) : name ≠ "__name__" ∧ (name == ("__debug__" : Str)) = false ∧ name ∈ bNames := by
  cases f <;> cases h <;> exact ⟨by decide +kernel, by decide +kernel, by decide +kernel⟩
theorem val_of {f : BF} {name : Str} {u : Value} (h : bfV f = some (name, u)) : (∃ id, u = .builtin id) ∨ ∃ T, u = .type T := by
  cases f <;> cases h <;> first | exact .inl ⟨_, rfl⟩ | exact .inr ⟨_, rfl⟩
theorem s_blt {p : Pos} {e : Expr} {es : List Expr} {cs : CEs} {f : BF} {name : Str} {u : Value} (hc : X.calm = true) (hu : X.A.units + 65 < cLine) (hf : bfV f = some (name, u)) (hg : Gl X name) (hm : X.mg name = none) (ns : ∀ e' ∈ e :: es, notStar e' = true) (hs : PA X (e :: es) (tBs X.K Φ cs)) :
    Snd X Φ (.Call (.Name name p) (e :: es) [] pos) (.blt f cs) := by
  obtain ⟨r, hr, h⟩ := blt_ok (X := X) hc hu hf
  obtain ⟨n1, n2, _⟩ := name_of hf
  have hv := boot_of hf
  have t0 : PE X (.Call (.Name name p) (e :: es) [] pos) (tCB r (tBs X.K Φ cs)) := by
    rcases val_of hf with ⟨id, rfl⟩ | ⟨T, rfl⟩
    · exact pe_callB hr hg hm hv hs n1 n2 (star_cons (ns e List.mem_cons_self)) (star_plain fun x hx => ns x (List.mem_cons_of_mem _ hx))
    · exact pe_callTy hr hg hm hv hs n1 n2 (star_cons (ns e List.mem_cons_self)) (star_plain fun x hx => ns x (List.mem_cons_of_mem _ hx))
  refine Snd.of (t0.wk fun σ H Q ⟨F, env, own, d, st, dm, fr, e, k⟩ => ?_) rfl
  have e' : ev Φ (.blt f cs) env = some d := e
  unfold ev at e'
  cases e1 : evs Φ cs env with
  | none => rw [e1] at e'; cases e'
  | some ds =>
    rw [e1] at e'
    exact ⟨F, env, own, ds, st, dm, fr, e1, fun F' H' vs g r => h F' H' vs ds d Q g.dom r e' (Kt.after g k)⟩
/-- isinstance(x, T) -/
theorem s_isi {p p2 : Pos} {e : Expr} {T : Ty} (hg : Gl X "isinstance") (hm : X.mg "isinstance" = none) (hT : T.nm ∈ ["int", "bool", "str", "tuple", "list"]) (hgT : Gl X (Str.ofString T.nm)) (hmT : X.mg (Str.ofString T.nm) = none) (ns : notStar e = true) (he : Snd X Φ e c) :
    Snd X Φ (.Call (.Name "isinstance" p) [e, .Name (Str.ofString T.nm) p2] [] pos) (.blt (.isi T) (.cons c .nil)) := by
  have nT : Str.ofString T.nm ≠ ("__name__" : Str) ∧ (Str.ofString T.nm == ("__debug__" : Str)) = false := by
    simp only [List.mem_cons, List.mem_nil_iff, or_false] at hT
    rcases hT with e | e | e | e | e <;> rw [e] <;> exact ⟨by decide +kernel, by decide +kernel⟩
  have hT' : PE X (.Name (Str.ofString T.nm) p2) (tC (.ty T.nm)) := pe_bltn hgT hmT (boot_ty T.nm hT) rfl nT.1 nT.2
  refine Snd.of ((pe_callB call_isi hg hm (by decide +kernel) (pa_cons he.b (pa_cons hT' pa_nil) (star_cons ns)) (he := star_cons ns)).wk fun σ H Q ⟨F, env, own, d, st, dm, fr, e, k⟩ => ?_) rfl
  have e' : ev Φ (.blt (.isi T) (.cons c .nil)) env = some d := e
  unfold ev at e'
  cases e1 : evs Φ (.cons c .nil) env with
  | none => rw [e1] at e'; cases e'
  | some ds =>
    rw [e1] at e'
    obtain ⟨d0, r, e2, e3, rfl⟩ := evs_cons e1
    cases e3
    have e4 : disi T d0 = some d := e'
    unfold disi at e4
    rw [tyE_eq] at e4
    cases e5 : tyIs T.nm d0 with
    | none => rw [e5] at e4; cases e4
    | some b =>
      rw [e5] at e4
      cases e4
      refine ⟨F, env, own, d0, st, dm, fun i hi => fr i (List.mem_append_left _ hi), e2, fun F' H' v g s1 => ?_⟩
      obtain ⟨ty, ki⟩ := tyIs_ok s1 e5
      exact ⟨v, .ty T.nm, _, .type T.nm, b, rfl, .ty T.nm, ty, ki, (Kt.after g k).bl g.dom⟩
end
end Pv

/-! Pv7: get, list(range), isinstance of two, targets, what is walked, list comprehensions. -/
namespace Pv
open PySem PySem.Spec PyProof.Rows L2

section
variable {X : Cx} {Φ : List Fn} {e a b b' : Expr} {c ca cb cb' : CE} {pos : Pos}
/-! ### d.get -/
def noSuper : Expr → Bool
  | .Call (.Name _ _) [] [] _ => false
  | _ => true
theorem base_of {m : Str} {env : Env} (h : noSuper e = true) : attributeBase e m env (eval e env) = eval e env := by
  unfold attributeBase
  split
  · cases h
  · rfl
theorem m1_of {m : Str} {apos cpos : Pos} (ho : noSuper a = true) (hs : notStar b = true) (hl : (apos.endLine == cpos.line) = true) : M1 X a m apos b cpos := by
  have e : starEach [b] X.env = [(false, eval b X.env)] := star_cons hs
  exact ⟨base_of ho, by rw [e]; rfl, hl, by rw [e]; rfl⟩
theorem m2_of {m : Str} {apos cpos : Pos} (ho : noSuper a = true) (hs : notStar b = true) (hs' : notStar b' = true) (hl : (apos.endLine == cpos.line) = true) : M2 X a m apos b b' cpos := by
  have e : starEach [b, b'] X.env = [(false, eval b X.env), (false, eval b' X.env)] := by rw [star_cons hs, star_cons hs']; rfl
  exact ⟨base_of ho, by rw [e]; rfl, hl, by rw [e]; rfl⟩
theorem isD_rp {K : PySem.W.Frag} {F : AP} {H : Hp} {v : V} {x y : D} {r : Option D} (h : Sh K F H v x) (e : dget x y = some r) : ∃ a, v = .ref a ∧ IsD H a := by
  cases x with
  | dk es => obtain ⟨a, kvs, rfl, q, _⟩ := h; exact ⟨a, rfl, .inl ⟨kvs, q⟩⟩
  | dt es => obtain ⟨a, kvs, rfl, q, _⟩ := h; exact ⟨a, rfl, .inr ⟨kvs, q⟩⟩
  | _ => cases e
theorem s_get1 {apos cpos : Pos} (hu : X.A.units + 65 < cLine) (ho : noSuper a = true) (ns : notStar b = true) (hl : (apos.endLine == cpos.line) = true) (ha : Snd X Φ a ca) (hb : Snd X Φ b cb) :
    Snd X Φ (.Call (.Attribute a "get" apos) [b] [] cpos) (.mth .get1 ca (.cons cb .nil)) := by
  refine Snd.of ((pe_dget1 (by omega) ha.b (froz hb.t) (m1_of ho ns hl)).wk fun σ H Q ⟨F, env, own, d, st, dm, fr, e, k⟩ => ?_) rfl
  have e' : ev Φ (.mth .get1 ca (.cons cb .nil)) env = some d := e
  unfold ev at e'
  cases e1 : ev Φ ca env with
  | none => rw [e1] at e'; cases e'
  | some x =>
    rw [e1] at e'
    simp only at e'
    cases e2 : evs Φ (.cons cb .nil) env with
    | none => rw [e2] at e'; cases e'
    | some ds =>
      rw [e2] at e'
      obtain ⟨y, r, e3, e4, rfl⟩ := evs_cons e2
      cases e4
      refine ⟨F, env, own, x, st, dm, fun i hi => fr i (List.mem_append_left _ hi), e1, fun F1 H1 v g1 s1 => ?_⟩
      unfold dmth at e'
      simp only at e'
      have key : ∀ r, dget x y = some r → (r.getD .non = d) → ∃ a, v = .ref a ∧ IsD H1 a ∧ tF X.K Φ cb σ H1 fun w H2 => ∃ o, DGet H2 a w o ∧ Q (o.getD .non) H2 := fun r er ed => by
        obtain ⟨a, rfl, hd⟩ := isD_rp s1 er
        refine ⟨a, rfl, hd, F1, env, own, y, st.gr g1, g1.dom, fun i hi => fr i (List.mem_append_right _ (List.mem_append_left _ hi)), e3, fun F2 H2 w g2 r2 => ?_⟩
        obtain ⟨a', o, q1, _, q3, q4⟩ := dget_ok (s1.gr g2) r2.sh er
        cases q1
        refine ⟨o, q3, ?_⟩
        have kk := Kt.after (g1.trans g2) k
        rcases q4 with ⟨rfl, rfl⟩ | ⟨d', v', rfl, rfl, rd⟩
        · cases ed; exact Kt.flat kk g2.dom .non rfl
        · cases ed; exact Kt.old kk g2.dom rd
      split at e'
      · rename_i z er; cases e'; exact key _ er rfl
      · rename_i er; cases e'; exact key _ er rfl
      · cases e'
theorem s_get2 {apos cpos : Pos} (hu : X.A.units + 65 < cLine) (ho : noSuper a = true) (ns : notStar b = true) (ns' : notStar b' = true) (hl : (apos.endLine == cpos.line) = true) (ha : Snd X Φ a ca) (hb : Snd X Φ b cb) (hb' : Snd X Φ b' cb') :
    Snd X Φ (.Call (.Attribute a "get" apos) [b, b'] [] cpos) (.mth .get2 ca (.cons cb (.cons cb' .nil))) := by
  refine Snd.of ((pe_dget2 (by omega) ha.b (froz hb.t) (froz hb'.t) (m2_of ho ns ns' hl)).wk fun σ H Q ⟨F, env, own, d, st, dm, fr, e, k⟩ => ?_) rfl
  have e' : ev Φ (.mth .get2 ca (.cons cb (.cons cb' .nil))) env = some d := e
  unfold ev at e'
  cases e1 : ev Φ ca env with
  | none => rw [e1] at e'; cases e'
  | some x =>
    rw [e1] at e'
    simp only at e'
    cases e2 : evs Φ (.cons cb (.cons cb' .nil)) env with
    | none => rw [e2] at e'; cases e'
    | some ds =>
      rw [e2] at e'
      obtain ⟨y, r, e3, e4, rfl⟩ := evs_cons e2
      obtain ⟨z, r, e5, e6, rfl⟩ := evs_cons e4
      cases e6
      refine ⟨F, env, own, x, st, dm, fun i hi => fr i (List.mem_append_left _ hi), e1, fun F1 H1 v g1 s1 => ?_⟩
      unfold dmth at e'
      simp only at e'
      have key : ∀ r, dget x y = some r → (r.getD z = d) → ∃ a, v = .ref a ∧ IsD H1 a ∧ tF X.K Φ cb σ H1 fun w H2 => tF X.K Φ cb' σ H2 fun u H3 => ∃ o, DGet H3 a w o ∧ Q (o.getD u) H3 := fun r er ed => by
        obtain ⟨a, rfl, hd⟩ := isD_rp s1 er
        refine ⟨a, rfl, hd, F1, env, own, y, st.gr g1, g1.dom, fun i hi => fr i (List.mem_append_right _ (List.mem_append_left _ hi)), e3, fun F2 H2 w g2 r2 => ?_⟩
        refine ⟨F2, env, own, z, (st.gr g1).gr g2, g2.dom, fun i hi => fr i (List.mem_append_right _ (List.mem_append_right _ (List.mem_append_left _ hi))), e5, fun F3 H3 u g3 r3 => ?_⟩
        obtain ⟨a', o, q1, _, q3, q4⟩ := dget_ok ((s1.gr g2).gr g3) (r2.kp g3.kp).sh er
        cases q1
        refine ⟨o, q3, ?_⟩
        have kk := Kt.after ((g1.trans g2).trans g3) k
        rcases q4 with ⟨rfl, rfl⟩ | ⟨d', v', rfl, rfl, rd⟩
        · cases ed; exact Kt.old kk g3.dom r3
        · cases ed; exact Kt.old kk g3.dom rd
      split at e'
      · rename_i z er; cases e'; exact key _ er rfl
      · rename_i er; cases e'; exact key _ er rfl
      · cases e'

/-! ### list(range(a, b)) -/
theorem rngD_get (lo c : Int) (n i : Nat) : (rngD lo c n)[i]? = if i < n then some (.int (lo + (i : Int) * c)) else none := by
  unfold rngD
  rw [List.getElem?_map]
  by_cases h : i < n
  · rw [if_pos h, List.getElem?_range h]; rfl
  · rw [if_neg h, List.getElem?_eq_none (by rw [List.length_range]; omega)]; rfl
theorem rngD_len (lo c : Int) (n : Nat) : (rngD lo c n).length = n := by
  unfold rngD
  rw [List.length_map, List.length_range]
theorem rng_rp {K : PySem.W.Frag} {F : AP} {H : Hp} (lo : Int) : ∀ l : List Nat, RpL K F H (l.map fun i => V.int (lo + (i : Nat))) (l.map fun (k : Nat) => D.int (lo + (k : Int) * 1))
  | [] => .nil
  | k :: l => by
    rw [List.map_cons, List.map_cons, Int.mul_one]
    exact .cons (.int _) (rng_rp lo l)
theorem smallR_of {i : Int} (h : smallR i = true) : -(2 ^ 62) ≤ i ∧ i < 2 ^ 62 := by
  unfold smallR at h
  rw [Bool.and_eq_true] at h
  exact ⟨of_decide_eq_true h.1, of_decide_eq_true h.2⟩
theorem s_lrng {p p2 pos2 : Pos} (hc : X.calm = true) (hg : Gl X "list") (hm : X.mg "list" = none) (hg2 : Gl X "range") (hm2 : X.mg "range" = none) (ns : notStar a = true) (ns' : notStar b = true) (ha : Snd X Φ a ca) (hb : Snd X Φ b cb) :
    Snd X Φ (.Call (.Name "list" p) [.Call (.Name "range" p2) [a, b] [] pos2] [] pos) (.lrng ca cb) := by
  refine Snd.of ((pe_listRg hc hg hm (prg_2 hg2 hm2 ha.t hb.t (star_cons ns) (star_cons ns') (star_plain fun x hx => by
    rcases List.mem_cons.mp hx with e | hx
    · rw [e]; exact ns'
    · cases hx))).wk fun σ H Q ⟨F, env, own, d, st, dm, fr, e, k⟩ => ?_) rfl
  have e' : ev Φ (.lrng ca cb) env = some d := e
  unfold ev at e'
  split at e'
  case h_2 => cases e'
  rename_i i e1
  split at e'
  case h_2 => cases e'
  rename_i j e2
  split at e'
  case isFalse => cases e'
  rename_i hb
  cases e'
  simp only [Bool.and_eq_true, decide_eq_true_eq] at hb
  have h1 := smallR_of hb.1.1
  have h2 := smallR_of hb.1.2
  refine intT st dm (Free.l fr) e1 fun F1 H1 g1 => intT (st.gr g1) g1.dom (Free.r fr) e2 fun F2 H2 g2 => ?_
  refine ⟨i, j, rfl, rfl, ⟨h1.1, h1.2, h2.1, h2.2, by have := hb.2; rw [sizeLine_eq] at this; omega⟩, (Kt.after (g1.trans g2) k).newLst g2.dom ?_⟩
  exact rng_rp i _

/-! ### isinstance(x, (S, T)) -/
theorem bn_ty : ∀ T ∈ ["int", "bool", "str", "tuple", "list"], Str.ofString T ≠ ("__name__" : Str) ∧ (Str.ofString T == ("__debug__" : Str)) = false ∧ Str.ofString T ∈ bNames := by
  intro T hT
  simp only [List.mem_cons, List.mem_nil_iff, or_false] at hT
  rcases hT with e | e | e | e | e <;> subst e <;> exact ⟨by decide +kernel, by decide +kernel, by decide +kernel⟩
theorem s_isi2 {p p2 p3 p4 : Pos} {k4 : Nat} {e : Expr} {T T' : Ty} (hg : Gl X "isinstance") (hm : X.mg "isinstance" = none) (hT : T.nm ∈ ["int", "bool", "str", "tuple", "list"]) (hT' : T'.nm ∈ ["int", "bool", "str", "tuple", "list"]) (hgT : Gl X (Str.ofString T.nm)) (hmT : X.mg (Str.ofString T.nm) = none) (hgT' : Gl X (Str.ofString T'.nm)) (hmT' : X.mg (Str.ofString T'.nm) = none) (ns : notStar e = true) (he : Snd X Φ e c) :
    Snd X Φ (.Call (.Name "isinstance" p) [e, .Tuple [.Name (Str.ofString T.nm) p2, .Name (Str.ofString T'.nm) p3] k4 p4] [] pos) (.blt (.isi2 T T') (.cons c .nil)) := by
  have n1 := bn_ty T.nm hT
  have n2 := bn_ty T'.nm hT'
  have t1 : PE X (.Name (Str.ofString T.nm) p2) (tC (.ty T.nm)) := pe_bltn hgT hmT (boot_ty T.nm hT) rfl n1.1 n1.2.1
  have t2 : PE X (.Name (Str.ofString T'.nm) p3) (tC (.ty T'.nm)) := pe_bltn hgT' hmT' (boot_ty T'.nm hT') rfl n2.1 n2.2.1
  refine Snd.of ((pe_callB call_isiT hg hm (by decide +kernel) (pa_cons he.b (pa_cons (pe_tup (pa_cons t1 (pa_cons t2 pa_nil))) pa_nil) (star_cons ns)) (he := star_cons ns)).wk fun σ H Q ⟨F, env, own, d, st, dm, fr, e, k⟩ => ?_) rfl
  have e' : ev Φ (.blt (.isi2 T T') (.cons c .nil)) env = some d := e
  unfold ev at e'
  cases e1 : evs Φ (.cons c .nil) env with
  | none => rw [e1] at e'; cases e'
  | some ds =>
    rw [e1] at e'
    obtain ⟨d0, r, e2, e3, rfl⟩ := evs_cons e1
    cases e3
    have e4 : disi2 T T' d0 = some d := e'
    unfold disi2 at e4
    simp only [tyE_eq] at e4
    refine ⟨F, env, own, d0, st, dm, fun i hi => fr i (List.mem_append_left _ hi), e2, fun F' H' v g s1 => ⟨by show 2 ≤ sizeLine; decide, fun tp htp => ?_⟩⟩
    have g2 : Gr F' H' F' (upd H' tp (.tup [.ty T.nm, .ty T'.nm])) := Gr.laid' g.dom htp
    have s2 := s1.gr g2
    have fin : ∀ b, TyX X.K (upd H' tp (.tup [.ty T.nm, .ty T'.nm])) v (.type (tyN d0)) → PySem.W.kitAny X.K (.type (tyN d0)) [.type T.nm, .type T'.nm] = some b → d = .bl b →
        rIsiT X.K [v, .ref tp] (upd H' tp (.tup [.ty T.nm, .ty T'.nm])) Q := fun b ty ki ed => by
      subst ed
      exact ⟨v, tp, [.ty T.nm, .ty T'.nm], _, [.type T.nm, .type T'.nm], b, rfl, upd_same, .cons (.ty T.nm) (.cons (.ty T'.nm) .nil), ty, ki, (Kt.after (g.trans g2) k).bl g2.dom⟩
    cases e5 : tyIs T.nm d0 with
    | none => rw [e5] at e4; cases e4
    | some b =>
      rw [e5] at e4
      obtain ⟨ty, ki⟩ := tyIs_ok s2 e5
      cases b with
      | true =>
        cases e4
        exact fin true ty (kitAny_cons ki (fun z => nomatch z) fun _ => rfl) rfl
      | false =>
        simp only at e4
        cases e6 : tyIs T'.nm d0 with
        | none => rw [e6] at e4; cases e4
        | some b' =>
          rw [e6] at e4
          cases e4
          obtain ⟨_, ki'⟩ := tyIs_ok s2 e6
          exact fin b' ty (kitAny_cons ki (fun _ => kitAny_cons ki' (fun h => by rw [h]; exact kitAny_nil) fun h => h) fun z => nomatch z) rfl

/-! ### targets -/
section
variable {K : PySem.W.Frag} {F F' F0 : AP} {H H' H0 : Hp} {σ : L2.St} {env : En} {own : Ow}
def F00 : AP := fun _ => False
def H00 : Hp := fun _ => none
/-- no entry is known -/
theorem St.stt (s : St K F H σ env own) (dm : Dm F H) : Stt K F00 H00 F H σ env own := ⟨s, ⟨fun _ z => z.elim, fun _ _ => .inr rfl, (fun _ _ z => nomatch z), dm⟩, fun _ _ _ => rfl⟩
/-- the slots of a target -/
def tgI : Tg → List Nat
  | .one i => [i]
  | .many is => is
/-- the reading of a target: the frozen value into its slots -/
def tG (K : PySem.W.Frag) (tg : Tg) : TG := fun v σ H Q => ∃ (F0 : AP) (H0 : Hp) (F : AP) (env : En) (own : Ow) (d : D) (env' : En), Stt K F0 H0 F H σ env own ∧ Rp K F H v d ∧ setT tg env d = some env' ∧
  ∀ σ', Stt K F0 H0 F H σ' env' (tgO own tg) → σ'.length = σ.length → (∀ j, j ∉ tgI tg → σ'[j]? = σ[j]?) → Q σ' H
/-- several -/
def tGs (K : PySem.W.Frag) (is : List Nat) : TGs := fun vs σ H Q => ∃ (F0 : AP) (H0 : Hp) (F : AP) (env : En) (own : Ow) (ds : List D) (env' : En), Stt K F0 H0 F H σ env own ∧ RpL K F H vs ds ∧ setM env is ds = some env' ∧
  ∀ σ', Stt K F0 H0 F H σ' env' (dropS own is) → σ'.length = σ.length → (∀ j, j ∉ is → σ'[j]? = σ[j]?) → Q σ' H
end
theorem _root_.L2.PG.wk {tg : Expr} {t t' : TG} (h : PG X tg t) (w : ∀ v σ H Q, t' v σ H Q → t v σ H Q) : PG X tg t' := ⟨fun pins s σ H v u Q I r q => h.run pins s σ H v u Q I r (w v σ H Q q)⟩
theorem _root_.L2.PGs.wk {tg : List Expr} {t t' : TGs} (h : PGs X tg t) (w : ∀ v σ H Q, t' v σ H Q → t v σ H Q) : PGs X tg t' := ⟨fun pins s σ H v u Q I r q => h.run pins s σ H v u Q I r (w v σ H Q q)⟩
theorem g_name {i : Nat} {x : Str} (nd : X.N.Nodup) (hN : X.N[i]? = some x) (hx : L2.Loc X.env.scope x) (hf : X.fn x = true ∨ X.env.scope.names.lookup x = some .local) : PG X (.Name x pos) (tG X.K (.one i)) :=
  (pg_name nd hN hx hf).wk fun v σ H Q ⟨F0, H0, F, env, own, d, env', s, r, e, k⟩ => by
    cases e
    exact k _ (s.set r i) (List.length_set ..) fun j hj => List.getElem?_set_ne (fun z => hj (by rw [z]; exact List.mem_singleton_self _))
def isName : Expr → Bool
  | .Name _ _ => true
  | _ => false
theorem asg_cons {env : Env} {es : List Expr} (h : isName e = true) : assignEach (e :: es) env = (false, assign e env) :: assignEach es env := by
  cases e <;> first | rfl | cases h
theorem gs_nil : PGs X [] (tGs X.K []) := pgs_nil.wk fun vs σ H Q ⟨F0, H0, F, env, own, ds, env', s, r, e, k⟩ => by
  cases ds with
  | nil => cases r; cases e; exact ⟨rfl, k σ s rfl fun _ _ => rfl⟩
  | cons d ds => cases e
theorem gs_cons {i : Nat} {is : List Nat} {x : Str} {es : List Expr} (nd : X.N.Nodup) (hN : X.N[i]? = some x) (hx : L2.Loc X.env.scope x) (hf : X.fn x = true ∨ X.env.scope.names.lookup x = some .local) (hs : PGs X es (tGs X.K is)) : PGs X (.Name x pos :: es) (tGs X.K (i :: is)) :=
  (pgs_cons (pg_name nd hN hx hf) hs (by rw [asg_cons rfl]; rfl)).wk fun vs σ H Q ⟨F0, H0, F, env, own, ds, env', s, r, e, k⟩ => by
    cases ds with
    | nil => cases e
    | cons d ds =>
      cases r with
      | cons r1 r2 =>
        refine ⟨_, _, rfl, F0, H0, F, env.set i (some d), own.set i false, ds, env', s.set r1 i, r2, e, fun σ' s' hl hj => k σ' s' (hl.trans (List.length_set ..)) fun j hn => ?_⟩
        simp only [List.mem_cons, not_or] at hn
        rw [hj j hn.2, List.getElem?_set_ne (Ne.symm hn.1)]
theorem g_tup {is : List Nat} {es : List Expr} {k : Nat} (hc : X.calm = true) (hn : ∀ e ∈ es, isName e = true) (hl : es.length = is.length) (hs : PGs X es (tGs X.K is)) : PG X (.Tuple es k pos) (tG X.K (.many is)) := by
  have len : ∀ es : List Expr, (∀ e ∈ es, isName e = true) → (assignEach es X.env).length = es.length ∧ (assignEach es X.env).findIdx? (·.1) = none := fun es => by
    induction es with
    | nil => intro _; exact ⟨rfl, rfl⟩
    | cons e es ih =>
      intro h
      obtain ⟨h1, h2⟩ := ih fun x hx => h x (List.mem_cons_of_mem _ hx)
      rw [asg_cons (h e List.mem_cons_self)]
      refine ⟨by rw [List.length_cons, h1]; rfl, ?_⟩
      rw [List.findIdx?_cons]
      simp only [h2, Bool.false_eq_true, if_false]
      rfl
  obtain ⟨h1, h2⟩ := len es hn
  refine (pg_tup (n := is.length) hc hs (h1.trans hl) h2).wk fun v σ H Q ⟨F0, H0, F, env, own, d, env', s, r, e, k⟩ => ?_
  cases d with
  | tup ds =>
    cases r with
    | tup f eH rs =>
      have sl : ∀ (is : List Nat) (env : En) (ds : List D) (env' : En), setM env is ds = some env' → ds.length = is.length := fun is => by
        induction is with
        | nil =>
          intro env ds env' e
          cases ds with
          | nil => rfl
          | cons => cases e
        | cons i is ih =>
          intro env ds env' e
          cases ds with
          | nil => cases e
          | cons d ds => rw [List.length_cons, List.length_cons, ih _ ds env' e]
      exact ⟨_, _, rfl, SqT.of eH, by rw [rs.length]; exact sl is env ds env' e, F0, H0, F, env, own, ds, env', s, rs, e, k⟩
  | _ => cases e
end
end Pv

/-! Pv7t: set(list of tuples of ints), a list of any length with few members. -/
namespace Pv
open PySem PySem.Spec PyProof.Rows L2
theorem pig {α : Type} [DecidableEq α] : ∀ {l M : List α}, l.Nodup → (∀ x ∈ l, x ∈ M) → l.length ≤ M.length
  | [], _, _, _ => Nat.zero_le _
  | x :: l, M, nd, sub => by
    obtain ⟨n1, n2⟩ := List.nodup_cons.mp nd
    have hx := sub x List.mem_cons_self
    have ih := pig n2 (M := M.erase x) fun y hy => (List.mem_erase_of_ne (fun e => n1 (by rw [← e]; exact hy))).mpr (sub y (List.mem_cons_of_mem _ hy))
    have := List.length_erase_of_mem hx
    have := List.length_pos_of_mem hx
    rw [List.length_cons]
    omega
/-- what stood in one heap stands in another -/
def Kep (h h' : Heap) : Prop := ∀ b o, h.get? b = some o → h'.get? b = some o
section
variable {P : Program} {w : World} {A : Around} {E : Value → Shared → Prop} {s : Shared}
theorem setLoopT {it S : Addr} {fpr own : List Addr} {Gn : Array GenState → Array GenState → Prop} {cnt : Nat} {Pi : Nat → Value → Prop} {Si : Nat → Shared → Prop} {R : Result → Shared → Prop} (M : List (List Int)) (hM : M.length < 62)
    (W : WalksS P w A.in1 it fpr own Gn cnt Pi Si) (nS : S ∉ fpr) (qs : List (Addr × List Int)) (inM : ∀ p ∈ qs, p.2 ∈ M) (len : cnt = qs.length) (vals : ∀ i v, Pi i v → ∃ p, qs[i]? = some p ∧ v = .ref p.1)
    (H0 : Heap) (tq : ∀ p ∈ qs, IsT P w H0 p.2 p.1) (zS : H0.get? S = none) (zo : ∀ b ∈ own, H0.get? b = none) (un : A.in1.units < cLine) : ∀ (k i : Nat) (s : Shared), cnt - i = k → i ≤ cnt → Si i s → Kep H0 s.heap → (∃ L es ep t, SetTR P w s.heap S L es ep t ∧ Got qs i L) →
      (∀ s2 L es ep t, Moved (S :: own) Gn s s2 → SetTR P w s2.heap S L es ep t → Got qs cnt L → Kep H0 s2.heap → R (.ok (.ret .none)) s2) → codeAny (model P w) A (.builtin "set.update.loop" ⟨[.ref S, .ref it], []⟩) R s := by
  have nSo : S ∉ own := fun z => nS (W.sub _ z)
  have up : ∀ b ∈ own, b ∈ S :: own := fun b z => List.mem_cons_of_mem _ z
  have mk : ∀ {s1 s2 : Shared}, Moved own Gn s1 s2 → Kep H0 s1.heap → Kep H0 s2.heap := fun mv kp b o e =>
    mv.heap b o (fun z => by rw [zo b z] at e; cases e) (kp b o e)
  intro k
  induction k with
  | zero =>
    intro i s ek le st kp ⟨L, es, ep, t, SS, g⟩ fin
    obtain rfl : i = cnt := by omega
    refine codeAny_builtin F.entry_set_update_loop ?_
    rw [Around.under_plainId F.plain_set_update_loop _]
    show wpAny _ A.in1 (pyNext (.ref it) >>= _) _ _ s
    refine wpAny_bind (W.done s _ _ st fun s2 mv => ?_)
    show wpAny _ A.in1 (ret Value.none) _ _ s2
    have kp2 := mk mv kp
    have hin : ∀ p ∈ L, p ∈ qs := fun p z => List.mem_of_mem_take (g.sub p z)
    exact wpAny_pure (fin s2 L es ep t (mv.mono up) (SS.keep (fun o e => mv.heap S o nSo e) fun p z => isT_keep (tq p (hin p z)) kp2) g kp2)
  | succ k ih =>
    intro i s ek le st kp ⟨L, es, ep, t, SS, g⟩ fin
    have lt : i < cnt := by omega
    refine codeAny_builtin F.entry_set_update_loop ?_
    rw [Around.under_plainId F.plain_set_update_loop _]
    show wpAny _ A.in1 (pyNext (.ref it) >>= _) _ _ s
    refine wpAny_bind (W.item i s _ _ lt st fun v s2 pv st2 mv => ?_)
    obtain ⟨q, hq, rfl⟩ := vals i v pv
    have kp2 := mk mv kp
    have hin : ∀ p ∈ L, p ∈ qs := fun p z => List.mem_of_mem_take (g.sub p z)
    have S2 : SetTR P w s2.heap S L es ep t := SS.keep (fun o e => mv.heap S o nSo e) fun p z => isT_keep (tq p (hin p z)) kp2
    have tx : IsT P w s2.heap q.2 q.1 := isT_keep (tq q (List.mem_of_getElem? hq)) kp2
    have few : L.length < 62 := by
      have := pig S2.nd (M := M) fun x hx => by
        obtain ⟨p, hp, rfl⟩ := List.mem_map.mp hx
        exact inM p (hin p hp)
      rw [List.length_map] at this
      omega
    show wpAny _ A.in1 (holding [Value.ref q.1] (setAdd S (.ref q.1)) >>= _) _ _ s2
    refine wpAny_bind (wpAny_holding ?_)
    unfold setAdd
    refine wpAny_holding (wpAny_bind (wpAny_pyHash_tuple un tx ?_))
    refine add_at (s := { s2 with toks := s2.toks + (q.2.length + 1) }) S2 tx un (by omega) fun b h3 L3 es3 ep3 t3 sb S3 c1 c2 => ?_
    have g3 : Got qs (i + 1) L3 := by
      by_cases c : q.2 ∈ L.map (·.2)
      · rw [c1 c]; exact g.same hq c
      · exact g.more hq (c2 c)
    have kp3 : Kep H0 h3 := fun b o e => (sb.2 b (fun z => by rw [z, zS] at e; cases e)).trans (kp2 b o e)
    refine wpAny_pure ⟨plainId_quiet F.plain_set_update_loop _, ih (i + 1) _ (by omega) lt (W.frame _ s2 _ _ st2 (Nat.le_add_right _ _) fun b hb o e => ?_) kp3 ⟨L3, es3, ep3, t3, S3, g3⟩ fun s4 L4 es4 ep4 t4 mv4 S4 g4 kp4 => ?_⟩
    · exact (sb.2 b (fun z : b = S => nS (by rw [← z]; exact hb))).trans e
    · exact fin s4 L4 es4 ep4 t4 (Moved.trans W.gtrans ((mv.mono up).then_heap (Nat.le_add_right _ _) fun b o hb e => (sb.2 b (fun z : b = S => hb (by rw [z]; exact List.mem_cons_self))).trans e) mv4) S4 g4 kp4
/-- the set as it is made -/
abbrev foS (w : World) : Obj := { cls := .type "set", dict := none, data := .set #[] 0 (.fresh 0 0 (!w.params.followText "set-order")) }
theorem setL_tups {la : Addr} {its : Array Value} (M : List (List Int)) (hM : M.length < 62) (qs : List (Addr × List Int)) (inM : ∀ p ∈ qs, p.2 ∈ M) {R : Value → Shared → Prop} (nh : A.handled = none) (isl : s.heap.IsList la its) (ia : its.toList = qs.map fun p => Value.ref p.1) (tq : ∀ p ∈ qs, IsT P w s.heap p.2 p.1) (un : A.units + 3 < cLine)
    (go : ∀ (h2 : Heap) (tk2 : Nat) L es ep t, SetTR P w h2 s.heap.objs.size L es ep t → Got qs qs.length L → Kep s.heap h2 → R (.ref s.heap.objs.size) { s with heap := h2, toks := tk2 }) :
    wpAny (model P w) A (call (.type "set") [.ref la]) R E s := by
  have zl : its.size = qs.length := by
    have e := congrArg List.length ia
    rw [Array.length_toList, List.length_map] at e; exact e
  obtain ⟨c, tl, hmro⟩ := F.called_set.mro
  have made := F.called_set.made
  have isub := F.called_set.sub
  refine wpAny_call (codeAny_of_tree ?_)
  show wpAny _ _ (callAny (.type "set") _) _ _ _
  refine wpAny_pure ⟨Code.quiet_builtin _ (by decide +kernel), codeAny_builtin F.entry_type_call ?_⟩
  rw [Around.under_plain (weight_type_call_type "set" [.ref la] []) rfl]
  have n1 := F.called_set.notType
  have n2 := F.called_set.canCreate
  have tc := F.typeCall_set_1 (.ref la)
  repeat (any_goals (first | assumption | wp_step))
  refine codeAny_mono (code_set_led1 (.ref la) (E := E) (Q₁ := fun ob s2 => ob = .ref s.heap.objs.size ∧ s2 = { s with heap := s.heap.push (foS w) }) ⟨rfl, rfl⟩) fun r s2 hr => ?_
  cases r with
  | error er => exact hr
  | ok fl =>
    cases fl with
    | ret ob =>
      obtain ⟨rfl, rfl⟩ := hr
      have gS : (s.heap.push (foS w)).get? s.heap.objs.size = some (foS w) := Heap.get?_push_size _ rfl
      have tS' : Shared.TypeIs { s with heap := s.heap.push (foS w) } (.ref s.heap.objs.size) "set" := ⟨_, gS, rfl⟩
      have iLk := F.called_set.init.lookup
      have iBd := F.called_set.init.bind (.ref s.heap.objs.size)
      repeat (any_goals (first | assumption | wp_step))
      refine codeAny_mono (codeAny_call_builtin (R := wants (fun r s3 => r = .none ∧ ∃ h2 tk2 L es ep t, s3 = { s with heap := h2, toks := tk2 } ∧ SetTR P w h2 s.heap.objs.size L es ep t ∧ Got qs qs.length L ∧ Kep s.heap h2) E) F.called_set.init.plain F.entry_set_init (check_set_init_1 tS' ?_)) fun r2 s3 hr2 => ?_
      · obtain ⟨⟨lc, ld, ldat, lsl⟩, gl, hcl, nl, hdl⟩ := isl
        simp only at hcl hdl
        subst hcl; subst hdl
        have gl' : (s.heap.push (foS w)).get? la = some { cls := .type "list", dict := ld, data := .seq its nl, slots := lsl } := Heap.get?_push_of_some _ gl
        have u1 := F.sub_list_set
        have u2 := F.sub_list_frozenset
        have u3 : (Value.type "list" == Value.type "dict") = false := by decide
        have isl2 : (s.heap.push (foS w)).IsList la its := ⟨_, gl', rfl, nl, rfl⟩
        unfold Builtin.«set.__init__» noKeywords Builtin.Frozenset.updateFrom
        generalize eI : pyIter = Z
        wp_walk
        subst eI
        refine wpAny_pyIter_list isl2 ?_
        refine wpAny_bind (wpAny_runValue ?_)
        have lS : la < s.heap.objs.size := Heap.lt_size gl
        have nh3 : A.in1.in1.in1.handled = none := by simp [nh]
        have sz1 : (s.heap.push (foS w)).objs.size = s.heap.objs.size + 1 := Heap.size_push ..
        have laI : la ≠ (s.heap.push (foS w)).objs.size := by rw [sz1]; exact Nat.ne_of_lt (Nat.lt_succ_of_lt lS)
        have outS : s.heap.objs.size ∉ [(s.heap.push (foS w)).objs.size, la] := by
          simp only [List.mem_cons, List.not_mem_nil, or_false, not_or]
          rw [sz1]
          exact ⟨Nat.ne_of_lt (Nat.lt_succ_self _), Nat.ne_of_gt lS⟩
        have vals : ∀ (i : Nat) (v : Value), its[i]? = some v → ∃ p, qs[i]? = some p ∧ v = .ref p.1 := fun i v hv => by
          have e : its.toList[i]? = some v := by rw [Array.getElem?_toList]; exact hv
          rw [ia, List.getElem?_map] at e
          cases e2 : qs[i]? with
          | none => rw [e2] at e; cases e
          | some p => rw [e2] at e; cases e; exact ⟨p, rfl, rfl⟩
        have no : ∀ b, s.heap.objs.size ≤ b → s.heap.get? b = none := fun b hb => by
          cases e : s.heap.get? b with
          | none => rfl
          | some o => exact absurd (Nat.lt_of_lt_of_le (Heap.lt_size e) hb) (Nat.lt_irrefl _)
        refine setLoopT M hM ((Walks.list nh3 _ la laI its).toS) outS qs inM zl vals s.heap tq (no _ (Nat.le_refl _)) (fun b hb => no b (by rw [List.mem_singleton.mp hb, sz1]; omega)) un (its.size - 0) 0 _ (by omega) (Nat.zero_le _) ⟨⟨_, Heap.get?_push_size _ rfl, rfl, rfl⟩, (isl2.push _)⟩ (fun b o e => Heap.get?_push_of_some _ (Heap.get?_push_of_some _ e)) ?q0 ?qR
        case q0 => exact ⟨[], #[], 0, _, setTR_fresh (Heap.get?_push_of_some _ gS), Got.zero qs⟩
        case qR =>
          intro s4 L es ep t mv R4 g4 kp4
          obtain ⟨h4, g5, d4, tk4, o4⟩ := s4
          have eg : g5 = s.gens := mv.gens
          have ed : d4 = s.drawn := mv.drawn
          have eo : o4 = s.os := mv.os
          subst eg; subst ed; subst eo
          show wpAny _ _ _ _ _ _
          refine wpAny_pure ?_
          show wpAny _ _ (ret Value.none) _ _ _
          rw [zl] at g4
          exact wpAny_pure ⟨rfl, h4, tk4, L, es, ep, t, rfl, R4, g4, kp4⟩
      · cases r2 with
        | error er => exact hr2
        | ok fl2 =>
          cases fl2 with
          | ret rr =>
            obtain ⟨rfl, h4, tk4, L, es, ep, t, rfl, R4, g4, kp4⟩ := hr2
            repeat (any_goals (first | assumption | wp_step))
            exact go h4 tk4 L es ep t R4 g4 kp4
          | _ => exact hr2.elim
    | _ => exact hr.elim
end
section
variable {X : Cx}
/-- set(xs), xs a list of tuples of ints with few members -/
def rSetM (K : PySem.W.Frag) (P : Program) (w : World) : List V → Hp → VK → Prop := fun vs H Q => ∃ (l : Addr) (ks : List (Addr × List Int)) (M : List (List Int)), vs = [V.ref l] ∧ SqL K H l (ks.map fun q => V.ref q.1) ∧ (∀ q ∈ ks, SqT K H q.1 (q.2.map V.int)) ∧ M.length < 62 ∧ (∀ q ∈ ks, q.2 ∈ M) ∧
  ∀ a L, H a = none → (∀ q ∈ L, q ∈ ks) → (∀ q ∈ ks, q.2 ∈ L.map (·.2)) → Q (.ref a) (upd H a (SetTO P w a L))
theorem cr_setM (hc : X.calm = true) (hu : X.A.units + 64 < cLine) : CallR X (.type "set") (rSetM X.K X.prog X.w) := by
  intro pins s σ H vs us Q I r h
  obtain ⟨l, ks, M, rfl, hl, tk, fM, iM, q⟩ := h
  rw [Vals.ref1 r]
  obtain ⟨its, rv, pl, hz⟩ := I.list hl
  have nn : H s.heap.objs.size = none := I.hok.fresh (Nat.le_refl _)
  refine setL_tups (P := X.prog) (w := X.w) M fM ks iM (I.ok.hd hc) pl.isList (by simpa using refs_of_vals rv) (fun p hp => I.isT (tk p hp)) (by omega) fun h2 t2 L es ep t R g kp => ?_
  exact ⟨.ref s.heap.objs.size, upd H s.heap.objs.size (SetTO X.prog X.w s.heap.objs.size L), I.laid (t' := t2) kp (Nat.le_refl _) (setTO_new R.t0), rfl, q _ L nn (fun p hp => List.mem_of_mem_take (g.sub p hp)) fun p hp => g.all p (by rw [List.take_length]; exact hp)⟩
end
end Pv

/-! Pv8z: zip of a tuple and a list (turned from the kit's zip of two tuples). -/
namespace Pv
open PySem PySem.Spec PyProof.Rows L2
open PySem.Sem (wp)
section
variable {P0 : Program} {w : World} {A : Around} {Er : Value → Shared → Prop} {s : Shared}
theorem zm_next_item {zi pI pO ia ib sa sb : Addr} {na nb : Nat} {us bs : Array Value} {x y a b : Value} {Q : Value → Shared → Prop} (ap : ZipApart zi pI pO ia ib sa sb)
    (vz : IsZip s.heap zi pI pO .none) (vI : IsPair s.heap pI (.ref ia) (.ref ib)) (vO : IsPair s.heap pO a b)
    (ja : s.heap.IsTupleIter ia sa na) (jb : s.heap.IsListIter ib sb nb) (ta : s.heap.IsTuple sa us) (lb : s.heap.IsList sb bs) (gx : us[na]? = some x) (gy : bs[nb]? = some y)
    (fin : ∀ h', IsZip h' zi pI pO (rawInt s.heap.objs.size) → IsPair h' pO x y → h'.IsTupleIter ia sa (na + 1) → h'.IsListIter ib sb (nb + 1) → IsPair h' s.heap.objs.size x y → h'.objs.size = s.heap.objs.size + 1 →
      (∀ cc ob, cc ≠ zi → cc ≠ pO → cc ≠ ia → cc ≠ ib → s.heap.get? cc = some ob → h'.get? cc = some ob) → Q (.ref s.heap.objs.size) { s with heap := h' }) :
    wpAny (model P0 w) A (Builtin.«zip.__next__» ⟨[.ref zi], []⟩) (fun fin s' => ∃ v, fin = .done (.ret v) ∧ Q v s') Er s := by
  show wpAny _ _ (field (.ref zi) 2 >>= _) _ _ _
  refine wpAny_bind (wpAny_field vz rfl (x := .bool false) rfl ?_)
  show wpAny _ _ (field (.ref zi) 3 >>= _) _ _ _
  refine wpAny_bind (wpAny_field vz rfl (x := .ref pI) rfl ?_)
  refine wpAny_bind (wpAny_seqItems vI rfl ?_)
  show wpAny _ _ (Builtin.SmallTypes.ownedTupleIsFree (.ref zi) >>= _) _ _ _
  refine wpAny_bind ?_
  unfold Builtin.SmallTypes.ownedTupleIsFree
  refine wpAny_bind (wpAny_field vz rfl (x := .none) rfl (wpAny_pure ?_))
  simp only [if_true]
  refine wpAny_bind (wpAny_rule ?_)
  refine wpAny_bind (wpAny_field vz rfl (x := .ref pO) rfl ?_)
  refine wpAny_bind (wpAny_setField_rec vz (by simp) fun h₁ vz₁ kb₁ => ?_)
  replace vz₁ : IsZip h₁ zi pI pO .ellipsis := vz₁
  refine wpAny_bind ?_
  simp only [List.zipIdx_cons, List.zipIdx_nil, List.forIn_cons, List.forIn_nil]

  refine wpAny_bind (wpAny_bind (wpAny_onRaise ?_))
  show wpAny _ _ (Builtin.SmallTypes.nextOf (.ref ia) >>= _) _ _ _
  refine wpAny_bind (RZ.nextOf_tuple_item (ja.extBut kb₁.extBut ap.i1z) (ta.extBut kb₁.extBut ap.l1z) gx fun h₂ ja₂ kb₂ => wpAny_pure ?_)
  have vO₂ : IsPair h₂ pO a b := kb₂.extBut _ _ ap.TOi1 (kb₁.extBut _ _ ap.TOz vO)
  refine wpAny_bind (wpAny_seqItems vO₂ rfl ?_)
  refine wpAny_bind (wpAny_updateSeq_pair vO₂ fun h₃ vO₃ kb₃ => ?_)
  replace vO₃ : IsPair h₃ pO x b := vO₃
  refine wpAny_bind (wpAny_letGo (wpAny_pure ?_))

  refine wpAny_bind (wpAny_bind (wpAny_onRaise ?_))
  show wpAny _ _ (Builtin.SmallTypes.nextOf (.ref ib) >>= _) _ _ _
  refine wpAny_bind (wpAny_nextOf_list_item (((jb.extBut kb₁.extBut ap.i2z).extBut kb₂.extBut ap.i12.symm).extBut kb₃.extBut ap.TOi2.symm)
    (((lb.extBut kb₁.extBut ap.l2z).extBut kb₂.extBut ap.l2i1).extBut kb₃.extBut ap.l2TO) gy fun h₄ jb₄ kb₄ => wpAny_pure ?_)
  have vO₄ : IsPair h₄ pO x b := kb₄.extBut _ _ ap.TOi2 vO₃
  refine wpAny_bind (wpAny_seqItems vO₄ rfl ?_)
  refine wpAny_bind (wpAny_updateSeq_pair vO₄ fun h₅ vO₅ kb₅ => ?_)
  replace vO₅ : IsPair h₅ pO x y := vO₅
  refine wpAny_bind (wpAny_letGo (wpAny_pure (wpAny_pure ?_)))

  refine wpAny_bind (wpAny_seqItems vO₅ rfl ?_)
  refine wpAny_bind (wpAny_newTuple ?_)
  have szq : h₅.objs.size = s.heap.objs.size := by rw [kb₅.1, kb₄.1, kb₃.1, kb₂.1, kb₁.1]
  have vz₅ : IsZip h₅ zi pI pO .ellipsis := kb₅.extBut _ _ ap.TOz.symm (kb₄.extBut _ _ ap.i2z.symm (kb₃.extBut _ _ ap.TOz.symm (kb₂.extBut _ _ ap.i1z.symm vz₁)))
  have kp₅ : ∀ cc ob, cc ≠ zi → cc ≠ pO → cc ≠ ia → cc ≠ ib → s.heap.get? cc = some ob → h₅.get? cc = some ob := fun cc ob c1 c2 c3 c4 ee =>
    kb₅.extBut _ _ c2 (kb₄.extBut _ _ c4 (kb₃.extBut _ _ c2 (kb₂.extBut _ _ c3 (kb₁.extBut _ _ c1 ee))))
  have ja₅ : h₅.IsTupleIter ia sa (na + 1) := ((ja₂.extBut kb₃.extBut ap.TOi1.symm).extBut kb₄.extBut ap.i12).extBut kb₅.extBut ap.TOi1.symm
  have jb₅ : h₅.IsListIter ib sb (nb + 1) := jb₄.extBut kb₅.extBut ap.TOi2.symm
  have zlt : zi < h₅.objs.size := Heap.lt_size vz₅
  have olt : pO < h₅.objs.size := Heap.lt_size vO₅
  have alt : ia < h₅.objs.size := by obtain ⟨_, ee, _⟩ := ja₅; exact Heap.lt_size ee
  have blt : ib < h₅.objs.size := by obtain ⟨_, ee, _⟩ := jb₅; exact Heap.lt_size ee
  show wpAny _ _ (Builtin.SmallTypes.ownedTupleHandOut (.ref zi) (.ref h₅.objs.size) >>= _) _ _ _
  refine wpAny_bind ?_
  unfold Builtin.SmallTypes.ownedTupleHandOut
  have vz₆ : IsZip (h₅.push { cls := .type "tuple", data := .seq #[x, y] }) zi pI pO .ellipsis := Heap.get?_push_of_some _ vz₅
  refine wpAny_bind (wpAny_setField_rec vz₆ (by simp) fun h₇ vz₇ kb₇ => ?_)
  replace vz₇ : IsZip h₇ zi pI pO (rawInt h₅.objs.size) := vz₇
  refine wpAny_setField_rec vz₇ (by simp) fun h₈ vz₈ kb₈ => ?_
  replace vz₈ : IsZip h₈ zi pI pO (rawInt h₅.objs.size) := vz₈
  have upw : ∀ cc ob, cc ≠ zi → h₅.get? cc = some ob → h₈.get? cc = some ob := fun cc ob c1 ee => kb₈.extBut _ _ c1 (kb₇.extBut _ _ c1 (Heap.get?_push_of_some _ ee))
  have ty₈ : IsPair h₈ h₅.objs.size x y := kb₈.extBut _ _ (Nat.ne_of_gt zlt) (kb₇.extBut _ _ (Nat.ne_of_gt zlt) (Heap.get?_push_size _ rfl))
  have n8 : h₈.objs.size = h₅.objs.size + 1 := by rw [kb₈.1, kb₇.1, Heap.size_push]
  rw [szq] at vz₈ ty₈ n8
  refine wpAny_pure ⟨_, rfl, ?_⟩
  show Q (.ref h₅.objs.size) _
  rw [szq]
  exact fin h₈ vz₈ (upw _ _ ap.TOz vO₅) (ja₅.at fun ob ee => upw _ ob ap.i1z ee) (jb₅.at fun ob ee => upw _ ob ap.i2z ee) ty₈ n8 fun cc ob c1 c2 c3 c4 ee => upw cc ob c1 (kp₅ cc ob c1 c2 c3 c4 ee)

theorem zm_next_end {zi pI pO ia ib sa sb : Addr} {na nb : Nat} {us bs : Array Value} {a b : Value} {Q : Fin → Shared → Prop} (calm : A.handled = none) (ap : ZipApart zi pI pO ia ib sa sb)
    (vz : IsZip s.heap zi pI pO .none) (vI : IsPair s.heap pI (.ref ia) (.ref ib)) (vO : IsPair s.heap pO a b)
    (ja : s.heap.IsTupleIter ia sa na) (jb : s.heap.IsListIter ib sb nb) (ta : s.heap.IsTuple sa us) (lb : s.heap.IsList sb bs) (stop : us[na]? = none ∨ bs[nb]? = none)
    (ferr : ∀ h' ee, (∀ cc ob, cc ≠ zi → cc ≠ pO → cc ≠ ia → cc ≠ ib → s.heap.get? cc = some ob → h'.get? cc = some ob) → (∃ ob, h'.get? ee = some ob ∧ ob.cls = .type "StopIteration") → Er (.ref ee) { s with heap := h' }) :
    wpAny (model P0 w) A (Builtin.«zip.__next__» ⟨[.ref zi], []⟩) Q Er s := by
  show wpAny _ _ (field (.ref zi) 2 >>= _) _ _ _
  refine wpAny_bind (wpAny_field vz rfl (x := .bool false) rfl ?_)
  show wpAny _ _ (field (.ref zi) 3 >>= _) _ _ _
  refine wpAny_bind (wpAny_field vz rfl (x := .ref pI) rfl ?_)
  refine wpAny_bind (wpAny_seqItems vI rfl ?_)
  show wpAny _ _ (Builtin.SmallTypes.ownedTupleIsFree (.ref zi) >>= _) _ _ _
  refine wpAny_bind ?_
  unfold Builtin.SmallTypes.ownedTupleIsFree
  refine wpAny_bind (wpAny_field vz rfl (x := .none) rfl (wpAny_pure ?_))
  simp only [if_true]
  refine wpAny_bind (wpAny_rule ?_)
  refine wpAny_bind (wpAny_field vz rfl (x := .ref pO) rfl ?_)
  refine wpAny_bind (wpAny_setField_rec vz (by simp) fun h₁ vz₁ kb₁ => ?_)
  replace vz₁ : IsZip h₁ zi pI pO .ellipsis := vz₁
  refine wpAny_bind ?_
  simp only [List.zipIdx_cons, List.zipIdx_nil, List.forIn_cons, List.forIn_nil]
  refine wpAny_bind (wpAny_bind (wpAny_onRaise ?_))
  show wpAny _ _ (Builtin.SmallTypes.nextOf (.ref ia) >>= _) _ _ _
  cases gx : us[na]? with
  | none =>
    refine wpAny_bind (RZ.nextOf_tuple_end calm (ja.extBut kb₁.extBut ap.i1z) (ta.extBut kb₁.extBut ap.l1z) gx fun h₂ ee kb₂ he => ?_)
    obtain ⟨oo, goo, coo⟩ := he
    have vz₂ : IsZip h₂ zi pI pO .ellipsis := kb₂ _ _ ap.i1z.symm vz₁
    have nez : ee ≠ zi := fun x => by subst x; rw [vz₂] at goo; cases goo; simp at coo
    refine wpAny_setField_rec vz₂ (by simp) fun h₃ _ kb₃ => ferr h₃ ee (fun cc ob c1 _ c3 _ x => kb₃.extBut _ _ c1 (kb₂ _ _ c3 (kb₁.extBut _ _ c1 x))) ⟨oo, kb₃.extBut _ _ nez goo, coo⟩
  | some x =>
    have gy : bs[nb]? = none := by rcases stop with h | h; rw [gx] at h; cases h; exact h
    refine wpAny_bind (RZ.nextOf_tuple_item (ja.extBut kb₁.extBut ap.i1z) (ta.extBut kb₁.extBut ap.l1z) gx fun h₂ ja₂ kb₂ => wpAny_pure ?_)
    have vO₂ : IsPair h₂ pO a b := kb₂.extBut _ _ ap.TOi1 (kb₁.extBut _ _ ap.TOz vO)
    refine wpAny_bind (wpAny_seqItems vO₂ rfl ?_)
    refine wpAny_bind (wpAny_updateSeq_pair vO₂ fun h₃ vO₃ kb₃ => ?_)
    refine wpAny_bind (wpAny_letGo (wpAny_pure ?_))
    refine wpAny_bind (wpAny_bind (wpAny_onRaise ?_))
    show wpAny _ _ (Builtin.SmallTypes.nextOf (.ref ib) >>= _) _ _ _
    refine wpAny_bind (wpAny_nextOf_list_end calm (((jb.extBut kb₁.extBut ap.i2z).extBut kb₂.extBut ap.i12.symm).extBut kb₃.extBut ap.TOi2.symm)
      (((lb.extBut kb₁.extBut ap.l2z).extBut kb₂.extBut ap.l2i1).extBut kb₃.extBut ap.l2TO) gy fun h₄ ee kb₄ he => ?_)
    obtain ⟨oo, goo, coo⟩ := he
    have vz₄ : IsZip h₄ zi pI pO .ellipsis := kb₄ _ _ ap.i2z.symm (kb₃.extBut _ _ ap.TOz.symm (kb₂.extBut _ _ ap.i1z.symm vz₁))
    have nez : ee ≠ zi := fun x => by subst x; rw [vz₄] at goo; cases goo; simp at coo
    refine wpAny_setField_rec vz₄ (by simp) fun h₅ _ kb₅ => ferr h₅ ee (fun cc ob c1 c2 c3 c4 x => kb₅.extBut _ _ c1 (kb₄ _ _ c4 (kb₃.extBut _ _ c2 (kb₂.extBut _ _ c3 (kb₁.extBut _ _ c1 x))))) ⟨oo, kb₅.extBut _ _ nez goo, coo⟩

theorem pyNext_zipM_item {zi pI pO ia ib sa sb : Addr} {na nb : Nat} {us bs : Array Value} {x y a b : Value} {Q : Option Value → Shared → Prop} (ap : ZipApart zi pI pO ia ib sa sb)
    (vz : IsZip s.heap zi pI pO .none) (vI : IsPair s.heap pI (.ref ia) (.ref ib)) (vO : IsPair s.heap pO a b)
    (ja : s.heap.IsTupleIter ia sa na) (jb : s.heap.IsListIter ib sb nb) (ta : s.heap.IsTuple sa us) (lb : s.heap.IsList sb bs) (gx : us[na]? = some x) (gy : bs[nb]? = some y)
    (fin : ∀ h', IsZip h' zi pI pO (rawInt s.heap.objs.size) → IsPair h' pO x y → h'.IsTupleIter ia sa (na + 1) → h'.IsListIter ib sb (nb + 1) → IsPair h' s.heap.objs.size x y → h'.objs.size = s.heap.objs.size + 1 →
      (∀ cc ob, cc ≠ zi → cc ≠ pO → cc ≠ ia → cc ≠ ib → s.heap.get? cc = some ob → h'.get? cc = some ob) → Q (some (.ref s.heap.objs.size)) { s with heap := h' }) :
    wpAny (model P0 w) A (pyNext (.ref zi)) Q Er s := by
  have ty : s.TypeIs (.ref zi) "zip" := ⟨_, vz, rfl⟩
  unfold pyNext
  exact wpAny_bind (wpAny_attempt (wpAny_callSpecial?_slot (name := Str.ofString "__next__") ty F.slot_zip_next
    (wpAny_call_entry F.slot_zip_next ty F.entry_zip_next
      (zm_next_item ap vz vI vO ja jb ta lb gx gy fun h' a1 a2 a3 a4 a5 a6 a7 => wpAny_pure (fin h' a1 a2 a3 a4 a5 a6 a7)) (F.args_zip_next_1 _))))

theorem pyNext_zipM_end {zi pI pO ia ib sa sb : Addr} {na nb : Nat} {us bs : Array Value} {a b : Value} {Q : Option Value → Shared → Prop} (calm : A.handled = none) (ap : ZipApart zi pI pO ia ib sa sb)
    (vz : IsZip s.heap zi pI pO .none) (vI : IsPair s.heap pI (.ref ia) (.ref ib)) (vO : IsPair s.heap pO a b)
    (ja : s.heap.IsTupleIter ia sa na) (jb : s.heap.IsListIter ib sb nb) (ta : s.heap.IsTuple sa us) (lb : s.heap.IsList sb bs) (stop : us[na]? = none ∨ bs[nb]? = none)
    (fin : ∀ h', (∀ cc ob, cc ≠ zi → cc ≠ pO → cc ≠ ia → cc ≠ ib → s.heap.get? cc = some ob → h'.get? cc = some ob) → Q none { s with heap := h' }) : wpAny (model P0 w) A (pyNext (.ref zi)) Q Er s := by
  have ty : s.TypeIs (.ref zi) "zip" := ⟨_, vz, rfl⟩
  unfold pyNext
  refine wpAny_bind (wpAny_attempt (wpAny_callSpecial?_slot (name := Str.ofString "__next__") ty F.slot_zip_next
    (wpAny_call_entry F.slot_zip_next ty F.entry_zip_next (zm_next_end calm ap vz vI vO ja jb ta lb stop fun h' ee kp he => ?_) (F.args_zip_next_1 _))))
  obtain ⟨ob, ho, cm0⟩ := he
  refine wpAny_bind (wpAny_isInstance (T := "StopIteration") (b := true) ⟨ob, ho, cm0⟩ isSubtype_stop ?_)
  exact wpAny_pure (fin _ kp)
end
abbrev zm1 (h : Heap) (sa : Addr) : Heap := h.push { cls := .type "tuple_iterator", data := .fields #[.ref sa, .int 0 0] }
abbrev zm2 (h : Heap) (sa sb : Addr) : Heap := (zm1 h sa).push { cls := .type "list_iterator", data := .fields #[.ref sb, .int 0 0] }
abbrev zm3 (h : Heap) (sa sb : Addr) : Heap := (zm2 h sa sb).push { cls := .type "tuple", data := .seq #[.ref h.objs.size, .ref (zm1 h sa).objs.size] }
abbrev zm4 (h : Heap) (sa sb : Addr) : Heap := (zm3 h sa sb).push { cls := .type "tuple", data := .seq #[.none, .none] }
abbrev zm5 (h : Heap) (sa sb : Addr) : Heap := (zm4 h sa sb).push { cls := .type "zip", data := .fields #[.none, .bool false, .bool false, .ref (zm2 h sa sb).objs.size, .ref (zm3 h sa sb).objs.size] }

theorem meets_zm (sa sb : Addr) (us bs : Array Value) :
    Meets (Builtin.«zip.__new__» ⟨[.type "zip", .ref sa, .ref sb], []⟩) (fun _ R s => s.heap.IsTuple sa us ∧ s.heap.IsList sb bs ∧
      R (.ok (.ret (.ref (zm4 s.heap sa sb).objs.size))) { s with heap := zm5 s.heap sa sb }) :=
  .of_wp fun P0 w A R s h => by
    obtain ⟨hp, g, d, tk, os⟩ := s; obtain ⟨ta, lb, h⟩ := h
    have hsub := sub_zip
    have hL1 : Heap.IsTuple (Shared.heap ⟨hp, g, d, tk, os⟩) sa us := ta
    have hL2 : Heap.IsList (Shared.heap ⟨hp.push { cls := .type "tuple_iterator", data := .fields #[.ref sa, .int 0 0] }, g, d, tk, os⟩) sb bs := Heap.IsList.push lb _
    wp_walk using wpAny_pyIter_tuple hL1, wpAny_pyIter_list hL2
    exact ⟨_, rfl, h⟩

section
variable {P0 : Program} {w : World} {A : Around} {Er : Value → Shared → Prop} {s : Shared}

theorem call_zm {sa sb : Addr} {us bs : Array Value} {Q : Value → Shared → Prop} (ta : s.heap.IsTuple sa us) (lb : s.heap.IsList sb bs)
    (h : ∀ h', IsZip h' (s.heap.objs.size + 4) (s.heap.objs.size + 2) (s.heap.objs.size + 3) .none → IsPair h' (s.heap.objs.size + 2) (.ref s.heap.objs.size) (.ref (s.heap.objs.size + 1)) →
      IsPair h' (s.heap.objs.size + 3) .none .none → h'.IsTupleIter s.heap.objs.size sa 0 → h'.IsListIter (s.heap.objs.size + 1) sb 0 → h'.objs.size = s.heap.objs.size + 5 →
      (∀ cc ob, s.heap.get? cc = some ob → h'.get? cc = some ob) → Q (.ref (s.heap.objs.size + 4)) { s with heap := h' }) :
    wpAny (model P0 w) A (call (.type "zip") [.ref sa, .ref sb]) Q Er s := by
  refine callType_new F.called_zip (by decide) (F.typeCall_zip_2 _ _) (F.newCall_zip_2 _ _) (fun obj => F.args_object_init_3 obj _ _) F.entry_zip_new
    (meets_zm sa sb us bs) ⟨ta, lb, ?_⟩
  have n1 : (zm1 s.heap sa).objs.size = s.heap.objs.size + 1 := Heap.size_push ..
  have n2 : (zm2 s.heap sa sb).objs.size = s.heap.objs.size + 2 := by rw [Heap.size_push, n1]
  have n3 : (zm3 s.heap sa sb).objs.size = s.heap.objs.size + 3 := by rw [Heap.size_push, n2]
  have n4 : (zm4 s.heap sa sb).objs.size = s.heap.objs.size + 4 := by rw [Heap.size_push, n3]
  have n5 : (zm5 s.heap sa sb).objs.size = s.heap.objs.size + 5 := by rw [Heap.size_push, n4]
  have p5 : (zm5 s.heap sa sb).get? (zm4 s.heap sa sb).objs.size = some _ := Heap.get?_push_size _ rfl
  have p4 : (zm5 s.heap sa sb).get? (zm3 s.heap sa sb).objs.size = some _ := Heap.get?_push_of_some _ (Heap.get?_push_size _ rfl)
  have p3 : (zm5 s.heap sa sb).get? (zm2 s.heap sa sb).objs.size = some _ := Heap.get?_push_of_some _ (Heap.get?_push_of_some _ (Heap.get?_push_size _ rfl))
  have p2 : (zm5 s.heap sa sb).get? (zm1 s.heap sa).objs.size = some _ := Heap.get?_push_of_some _ (Heap.get?_push_of_some _ (Heap.get?_push_of_some _ (Heap.get?_push_size _ rfl)))
  have p1 : (zm5 s.heap sa sb).get? s.heap.objs.size = some _ := Heap.get?_push_of_some _ (Heap.get?_push_of_some _ (Heap.get?_push_of_some _ (Heap.get?_push_of_some _ (Heap.get?_push_size _ rfl))))
  show _ ∧ _
  rw [n2, n3, n4] at p5
  rw [n1, n2] at p3
  rw [n3] at p4
  rw [n1] at p2
  rw [n4]
  exact ⟨⟨_, p5, rfl⟩, h _ p5 p3 p4 ⟨_, p1, rfl, rfl⟩ ⟨_, p2, rfl, rfl⟩ n5 fun cc ob x =>
    Heap.get?_push_of_some _ (Heap.get?_push_of_some _ (Heap.get?_push_of_some _ (Heap.get?_push_of_some _ (Heap.get?_push_of_some _ x))))⟩
end
def ItzM (K : PySem.W.Frag) (a b : Addr) : It :=
  ⟨fun i H => ∃ (us bs : List V) (x y : V), SqT K H a us ∧ SqL K H b bs ∧ us[i]? = some x ∧ bs[i]? = some y,
    fun i H v H' => ∃ T x y, v = .ref T ∧ H T = none ∧ H' = upd H T (.tup [x, y]) ∧ (∀ us, SqT K H a us → us[i]? = some x) ∧ ∀ bs, SqL K H b bs → bs[i]? = some y,
    fun i H => ∃ us bs : List V, SqT K H a us ∧ SqL K H b bs ∧ (us.length ≤ i ∨ bs.length ≤ i)⟩
theorem turn_zipM {P : Program} {w : World} {K : PySem.W.Frag} {elts : List Expr} {kk : Nat} {tpos : Pos} {a b zi pI pO ia ib : Addr} (ap : ZipApart zi pI pO ia ib a b) :
    Turn P w K (.Tuple elts kk tpos) (ItzM K a b) [zi, pI, pO, ia, ib] zi (fun i h => IsZip h zi pI pO .none ∧ IsPair h pI (.ref ia) (.ref ib) ∧ (∃ x y, IsPair h pO x y) ∧ h.IsTupleIter ia a i ∧ h.IsListIter ib b i) where
  mem := by simp
  obj := fun i h sta cc cm0 => by
    obtain ⟨vz, vI, ⟨x, y, vO⟩, ⟨o1, e1, _, d1⟩, ⟨o2, e2, _, d2⟩⟩ := sta
    have ee' : cc = zi ∨ cc = pI ∨ cc = pO ∨ cc = ia ∨ cc = ib := by simpa using cm0
    rcases ee' with r | r | r | r | r
    · rw [r]; exact ⟨_, vz, fun v r => nomatch r⟩
    · rw [r]; exact ⟨_, vI, fun v r => nomatch r⟩
    · rw [r]; exact ⟨_, vO, fun v r => nomatch r⟩
    · rw [r]; exact ⟨o1, e1, fun v r => by rw [d1] at r; cases r⟩
    · rw [r]; exact ⟨o2, e2, fun v r => by rw [d2] at r; cases r⟩
  keep := fun i h h' sta k => by
    obtain ⟨vz, vI, ⟨x, y, vO⟩, ja, jb⟩ := sta
    exact ⟨k zi (by simp) _ vz, k pI (by simp) _ vI, ⟨x, y, k pO (by simp) _ vO⟩, ja.at fun ob r => k ia (by simp) ob r, jb.at fun ob r => k ib (by simp) ob r⟩
  item := by
    intro X eP ew eK cm0 i pn s σ H Er I fp0 sta gg
    subst eP ew eK
    obtain ⟨vz, vI, ⟨x0, y0, vO⟩, ja, jb⟩ := sta
    obtain ⟨us, bs, x, y, qa, qb, gx, gy⟩ := gg
    obtain ⟨us1, vs1, r1, _⟩ := I.tuple qa
    obtain ⟨us2, vs2, r2, _⟩ := I.list qb
    obtain ⟨u, gu, rw1⟩ := vs1.get gx
    obtain ⟨u2, gu2, rw2⟩ := vs2.get gy
    have zl : zi < s.heap.objs.size := Heap.lt_size vz
    refine pyNext_zipM_item ap vz vI vO ja jb r1 r2.isList (x := u) (y := u2) (by simpa using gu) (by simpa using gu2) fun h' zi' pO' ja' jb' ty szq kp => ?_
    refine ⟨_, rfl, wpAny_letOwnedTupleGo_zip (s := { s with heap := h' }) zi' fun h'' zi'' sb => ?_⟩
    have hT2 : h''.get? s.heap.objs.size = some { cls := .type "tuple", data := .seq #[u, u2] } := (sb.2 _ (Nat.ne_of_gt zl)).trans ty
    have new : ObjOk X.prog X.w (upd H s.heap.objs.size (.tup [x, y])) h'' s.heap.objs.size (.tup [x, y]) :=
      ⟨by show 2 ≤ sizeLine; decide, [u, u2], .cons rw1 (.cons rw2 .nil), ⟨_, hT2, rfl, _, rfl⟩⟩
    have J1 : Inv X pn σ (upd H s.heap.objs.size (.tup [x, y])) { s with heap := h'' } :=
      I.turnedNew (t' := s.toks) (ch := [zi, pI, pO, ia, ib]) (fun cc ob hb r => (sb.2 cc (fun r' => hb (by simp [r']))).trans (kp cc ob (fun r' => hb (by simp [r'])) (fun r' => hb (by simp [r'])) (fun r' => hb (by simp [r'])) (fun r' => hb (by simp [r'])) r)) fp0 (Nat.le_refl _) new
    refine ⟨.ref s.heap.objs.size, _, J1, rfl, ⟨_, x, y, rfl, I.hok.fresh (Nat.le_refl _), rfl, fun l hl => by rw [I.tuple_inj hl qa]; exact gx, fun l hl => by rw [I.list_inj hl qb]; exact gy⟩, ⟨zi'', ?_, ⟨u, u2, ?_⟩, ?_, ?_⟩, fun cc cm => ?_⟩
    · exact (sb.2 _ ap.TIz).trans (kp _ _ ap.TIz ap.TITO ap.TIi1 ap.TIi2 vI)
    · exact (sb.2 _ ap.TOz).trans pO'
    · exact ja'.at fun ob r => (sb.2 _ ap.i1z).trans r
    · exact jb'.at fun ob r => (sb.2 _ ap.i2z).trans r
    · have clt : cc < s.heap.objs.size := by
        have ee' : cc = zi ∨ cc = pI ∨ cc = pO ∨ cc = ia ∨ cc = ib := by simpa using cm
        rcases ee' with r | r | r | r | r
        · rw [r]; exact zl
        · rw [r]; exact Heap.lt_size vI
        · rw [r]; exact Heap.lt_size vO
        · rw [r]; obtain ⟨_, e1, _⟩ := ja; exact Heap.lt_size e1
        · rw [r]; obtain ⟨_, e2, _⟩ := jb; exact Heap.lt_size e2
      rw [upd_ne (Nat.ne_of_lt clt)]
      exact (fp0 cc cm).1
  done := by
    intro X eP ew eK cm0 i pn s σ H Er I fp0 sta gg
    subst eP ew eK
    obtain ⟨vz, vI, ⟨x0, y0, vO⟩, ja, jb⟩ := sta
    obtain ⟨us, bs, qa, qb, stop⟩ := gg
    obtain ⟨us1, vs1, r1, _⟩ := I.tuple qa
    obtain ⟨us2, vs2, r2, _⟩ := I.list qb
    have sa := vs1.length
    have sb := vs2.length
    have he : us1.toArray[i]? = none ∨ us2.toArray[i]? = none := by
      rcases stop with r | r
      · exact .inl (by simp; omega)
      · exact .inr (by simp; omega)
    exact pyNext_zipM_end (I.ok.hd cm0) ap vz vI vO ja jb r1 r2.isList he fun h' kp => ⟨rfl, I.turnedL (t' := s.toks) (ch := [zi, pI, pO, ia, ib]) (fun cc ob hb r =>
      kp cc ob (fun r' => hb (by simp [r'])) (fun r' => hb (by simp [r'])) (fun r' => hb (by simp [r'])) (fun r' => hb (by simp [r'])) r) fp0⟩
  self := fun A i s Q Er sta h => wpAny_pyIter_zip sta.1 h

/-- zip of two lists, or of a tuple and a list -/
def iZipM (K : PySem.W.Frag) (ta : TA) : TI := fun σ H R => ta σ H fun vs H1 => ∃ a b xs ys, vs = [.ref a, .ref b] ∧ SqL K H1 b ys ∧ ((SqL K H1 a xs ∧ R (Itz K a b) H1) ∨ (SqT K H1 a xs ∧ R (ItzM K a b) H1))
theorem pi_zipM {X : Cx} {x y : Expr} {ta : TA} {p pos tpos : Pos} {elts : List Expr} {kk : Nat} (hg : Gl X "zip") (hm : X.mg "zip" = none) (ha : PA X [x, y] ta) (hs : starEach [x, y] X.env = (false, eval x X.env) :: starEach [y] X.env) (hpl : (backTo pos (starEach [y] X.env)).any (·.1) = false) : PI X (.Tuple elts kk tpos) (.Call (.Name "zip" p) [x, y] [] pos) (iZipM X.K ta) := by
  refine ⟨fun pins s σ H R I h => Call_ (ld_blt I hg hm PyProof.Rows.boot_zip (PyProof.Rows.callWith_type1 (thn (ha.run pos pins s σ H _ I h) fun us s1 ⟨vs, H1, I1, r1, q1⟩ => ?_) hs hpl))⟩
  obtain ⟨a, b, xs, ys, rfl, qb, q1⟩ := q1
  obtain ⟨u1, u2, rfl, e1, e2⟩ := vals2 r1
  obtain rfl : u1 = Value.ref a := e1
  obtain rfl : u2 = Value.ref b := e2
  have fr : ∀ d, d ∈ [s1.heap.objs.size + 4, s1.heap.objs.size + 2, s1.heap.objs.size + 3, s1.heap.objs.size, s1.heap.objs.size + 1] → FpOk X pins H1 d := fun d hd => by
    have le : s1.heap.objs.size ≤ d := by
      simp only [List.mem_cons, List.not_mem_nil, or_false] at hd
      rcases hd with z | z | z | z | z <;> (rw [z]; first | exact Nat.le_add_right _ _ | exact Nat.le_refl _)
    exact I1.fpOk le (I1.hok.fresh le)
  obtain ⟨its2, rv2, p2, _⟩ := I1.list qb
  rcases q1 with ⟨qa, q⟩ | ⟨qa, q⟩
  · obtain ⟨its, rv, p1, _⟩ := I1.list qa
    refine call_zip_2 p1.isList p2.isList fun g vz vI vO ja jb szq kp => wpAny_pyIter_zip vz ?_
    exact ⟨s1.heap.objs.size + 4, _, _, _, H1, rfl, I1.kept (t' := s1.toks) kp, turn_zip (PySem.W.ktu_apart s1.heap.objs.size a b p1.lt p2.lt), ⟨vz, vI, ⟨_, _, vO⟩, ja, jb⟩, fr, q⟩
  · obtain ⟨its, rv, p1, _⟩ := I1.tuple qa
    obtain ⟨o1, ho1, _⟩ := id p1
    refine call_zm (show s1.heap.IsTuple a its.toArray from p1) p2.isList fun g vz vI vO ja jb szq kp => wpAny_pyIter_zip vz ?_
    exact ⟨s1.heap.objs.size + 4, _, _, _, H1, rfl, I1.kept (t' := s1.toks) kp, turn_zipM (PySem.W.ktu_apart s1.heap.objs.size a b (Heap.lt_size ho1) p2.lt), ⟨vz, vI, ⟨_, _, vO⟩, ja, jb⟩, fr, q⟩
end Pv

/-! Pv8e: enumerate over a tuple. -/
namespace Pv
open PySem PySem.Spec PyProof.Rows L2
theorem new_enumT (a : Addr) (its : Array Value) (m : Nat) (dd : Option Addr) (zs : Array (Option Value)) :
    Meets (Builtin.«enumerate.__new__» ⟨[.type "enumerate", .ref a], []⟩) (fun _ R s => s.heap.get? a = some { cls := .type "tuple", dict := dd, data := .seq its m, slots := zs } ∧
      R (.ok (.ret (.ref (s.heap.push { cls := .type "tuple_iterator", data := .fields #[.ref a, .int 0 0] }).objs.size)))
        { s with heap := (s.heap.push { cls := .type "tuple_iterator", data := .fields #[.ref a, .int 0 0] }).push { cls := .type "enumerate", data := .fields #[.none, .bool false, .ref s.heap.objs.size, rawInt 0, .none, .none] } }) :=
  .of_wp fun prog w A R s h => by
    obtain ⟨hp, g, d, tk, os⟩ := s
    obtain ⟨ha, h⟩ := h
    have z1 := sub_enumerate
    have z2 : Heap.IsTuple (Shared.heap ⟨hp, g, d, tk, os⟩) a its := ⟨_, ha, rfl, m, rfl⟩
    wp_walk using AutoSeq1.wpAny_loadPart' ha
    refine wpAny_stack_any fun st => wpAny_pure ?_
    split
    · rename_i c _ _ _ _ _
      cases (c == Value.type "enumerate")
      · wp_walk using AutoSeq1.wpAny_loadPart' ha, wpAny_pyIter_tuple z2
        exact ⟨_, rfl, h⟩
      · wp_walk using AutoSeq1.wpAny_loadPart' ha, wpAny_pyIter_tuple z2
        exact ⟨_, rfl, h⟩
    · wp_walk using AutoSeq1.wpAny_loadPart' ha, wpAny_pyIter_tuple z2
      exact ⟨_, rfl, h⟩
section
variable {prog : Program} {w : World} {A : Around} {E : Value → Shared → Prop} {s : Shared}
theorem call_enumT {a : Addr} {its : Array Value} {R : Value → Shared → Prop} (it : s.heap.IsTuple a its)
    (go : ∀ h', IsEnum h' (s.heap.objs.size + 1) s.heap.objs.size 0 .none → h'.IsTupleIter s.heap.objs.size a 0 → h'.objs.size = s.heap.objs.size + 2 →
      (∀ b o, s.heap.get? b = some o → h'.get? b = some o) → R (.ref (s.heap.objs.size + 1)) { s with heap := h' }) :
    wpAny (model prog w) A (call (.type "enumerate") [.ref a]) R E s := by
  obtain ⟨⟨c, dd, dt, zs⟩, ha, hc, m, hd⟩ := it
  replace hc : c = .type "tuple" := hc
  replace hd : dt = .seq its m := hd
  subst hc hd
  refine callType_new F.called_enumerate (by decide) (F.typeCall_enumerate_1 _) (F.newCall_enumerate_1 _) (fun obj => F.args_object_init_2 obj _) F.entry_enumerate_new
    (new_enumT a its m dd zs) ⟨ha, ?_⟩
  have z1 : (s.heap.push { cls := .type "tuple_iterator", data := .fields #[.ref a, .int 0 0] }).objs.size = s.heap.objs.size + 1 := Heap.size_push ..
  show _ ∧ _
  rw [z1]
  have z2 : IsEnum ((s.heap.push { cls := .type "tuple_iterator", data := .fields #[.ref a, .int 0 0] }).push
      { cls := .type "enumerate", data := .fields #[.none, .bool false, .ref s.heap.objs.size, rawInt 0, .none, .none] }) (s.heap.objs.size + 1) s.heap.objs.size 0 .none := by
    have := Heap.get?_push_size (s.heap.push { cls := .type "tuple_iterator", data := .fields #[.ref a, .int 0 0] })
      (o := { cls := .type "enumerate", data := .fields #[.none, .bool false, .ref s.heap.objs.size, rawInt 0, .none, .none] }) rfl
    rw [z1] at this; exact this
  refine ⟨⟨_, z2, rfl⟩, go _ z2 ⟨_, Heap.get?_push_of_some _ (Heap.get?_push_size _ rfl), rfl, rfl⟩ (by rw [Heap.size_push, z1]) fun b o x => Heap.get?_push_of_some _ (Heap.get?_push_of_some _ x)⟩
end
/-- the tuple at a, each item in a new pair -/
def IteT (K : PySem.W.Frag) (a : Addr) : It :=
  ⟨fun i H => ∃ (xs : List V) (x : V), SqT K H a xs ∧ xs[i]? = some x, fun i H v H' => ∃ T x, v = .ref T ∧ H T = none ∧ H' = upd H T (.tup [.int (i : Nat), x]) ∧ ∀ xs, SqT K H a xs → xs[i]? = some x, fun i H => ∃ xs : List V, SqT K H a xs ∧ xs.length ≤ i⟩
theorem turn_enumT {P : Program} {w : World} {K : PySem.W.Frag} {elts : List Expr} {kk : Nat} {tpos : Pos} (a e it : Addr) :
    Turn P w K (.Tuple elts kk tpos) (IteT K a) [e, it] e (fun i h => (∃ old, IsEnum h e it ((i : Nat) : Int) old) ∧ h.IsTupleIter it a i ∧ e ≠ it) where
  mem := by simp
  obj := fun i h st b hb => by
    obtain ⟨⟨old, he⟩, ⟨o, ho, hc, hd⟩, _⟩ := st
    have e' : b = e ∨ b = it := by simpa using hb
    rcases e' with z | z
    · rw [z]; exact ⟨_, he, fun v q => nomatch q⟩
    · rw [z]; exact ⟨o, ho, fun v q => by rw [hd] at q; cases q⟩
  keep := fun i h h' st k => let ⟨⟨old, he⟩, hi, hne⟩ := st; ⟨⟨old, k e (by simp) _ he⟩, hi.at fun o q => k it (by simp) o q, hne⟩
  item := by
    intro X hP hw hK hc i pins s σ H E I hf st hg
    subst hP hw hK
    obtain ⟨⟨old, he⟩, hit, hne⟩ := st
    obtain ⟨xs, x, hq, hx⟩ := hg
    obtain ⟨its, rv, p, hz⟩ := I.tuple hq
    obtain ⟨u, hu, ru⟩ := rv.get hx
    have hel : e < s.heap.objs.size := Heap.lt_size he
    have hil : it < s.heap.objs.size := by obtain ⟨_, q, _⟩ := hit; exact Heap.lt_size q
    have hal : ∃ o, s.heap.get? a = some o := let ⟨o, ho, _⟩ := p; ⟨o, ho⟩
    have pT : s.heap.IsTuple a its.toArray := p
    have hna : a ≠ it := fun z => by
      obtain ⟨o, ho, hcl, _⟩ := pT
      obtain ⟨o', ho', hcl', _⟩ := hit
      rw [z, ho'] at ho
      cases ho
      exact absurd (Value.type.inj (hcl.symm.trans hcl')) (by decide)
    have hea : e ≠ a := fun z => by
      obtain ⟨o, ho, hcl, _⟩ := pT
      have he' : s.heap.get? e = _ := he
      rw [z, ho] at he'
      cases he'
      exact absurd (Value.type.inj hcl) (by decide)
    refine wpAny_pyNext_enum_itemD (Draws.tuple (A := X.A.in1) (I.ok.hd hc) it a hna its.toArray) he ⟨hit, pT⟩ (by simpa using (List.getElem?_eq_some_iff.mp hu).1) hne (by simp [hne, hea]) fun y h' tk hy ho hst hT hsz hk => ?_
    have ey : y = u := by
      have hy' : its[i]? = some y := by simpa using hy
      rw [hu] at hy'
      cases hy'
      rfl
    subst ey
    have hit' := hst.1
    refine ⟨_, rfl, wpAny_letOwnedTupleGo_enum (s := { s with heap := h', toks := tk + 1 }) ho fun h'' he' sb => ?_⟩
    have hT2 : h''.get? s.heap.objs.size = some { cls := .type "tuple", data := .seq #[.int i tk, y] } := (sb.2 _ (Nat.ne_of_gt hel)).trans hT
    have new : ObjOk X.prog X.w (upd H s.heap.objs.size (.tup [.int (i : Nat), x])) h'' s.heap.objs.size (.tup [.int (i : Nat), x]) :=
      ⟨by show 2 ≤ sizeLine; decide, [.int i tk, y], .cons ⟨_, rfl⟩ (.cons ru .nil), ⟨_, hT2, rfl, _, rfl⟩⟩
    have I1 : Inv X pins σ (upd H s.heap.objs.size (.tup [.int (i : Nat), x])) { s with heap := h'', toks := tk + 1 } :=
      I.turnedNew (ch := [e, it]) (fun b ob hb q => (sb.2 b (fun z => hb (by simp [z]))).trans (hk b ob (fun z => hb (by simp [z])) (fun z => hb (by simp [z])) q)) hf (Nat.le_refl _) new
    refine ⟨.ref s.heap.objs.size, _, I1, rfl, ⟨_, x, rfl, I.hok.fresh (Nat.le_refl _), rfl, fun ys hy => by rw [I.tuple_inj hy hq]; exact hx⟩, ⟨⟨y, ?_⟩, hit'.at fun o q => (sb.2 it (Ne.symm hne)).trans q, hne⟩, fun b hb => ?_⟩
    · have e1 : ((i + 1 : Nat) : Int) = (i : Int) + 1 := by omega
      rw [e1]; exact he'
    · have hb' : b < s.heap.objs.size := by
        have e' : b = e ∨ b = it := by simpa using hb
        rcases e' with z | z
        · rw [z]; exact hel
        · rw [z]; exact hil
      rw [upd_ne (Nat.ne_of_lt hb')]
      exact (hf b hb).1
  done := by
    intro X hP hw hK hc i pins s σ H E I hf st hg
    subst hP hw hK
    obtain ⟨⟨old, he⟩, hit, hne⟩ := st
    obtain ⟨xs, hq, hx⟩ := hg
    obtain ⟨its, rv, p, hz⟩ := I.tuple hq
    obtain ⟨f0, f1, f2, f3, f4, f5⟩ := hf it (by simp)
    have hl := rv.length
    have pT : s.heap.IsTuple a its.toArray := p
    have hna : a ≠ it := fun z => by
      obtain ⟨o, ho, hcl, _⟩ := pT
      obtain ⟨o', ho', hcl', _⟩ := hit
      rw [z, ho'] at ho
      cases ho
      exact absurd (Value.type.inj (hcl.symm.trans hcl')) (by decide)
    have hT : s.TypeIs (.ref e) "enumerate" := ⟨_, he, rfl⟩
    unfold pyNext
    refine wpAny_bind (wpAny_attempt (wpAny_callSpecial?_slot (name := Str.ofString "__next__") hT F.slot_enumerate_next
      (wpAny_call_entry F.slot_enumerate_next hT F.entry_enumerate_next ?_ (F.args_enumerate_next_1 _))))
    show wpAny _ _ (field (.ref e) 2 >>= _) _ _ _
    refine wpAny_bind (wpAny_field he rfl (x := .ref it) rfl ?_)
    refine wpAny_bind (wpAny_nextOf_tuple_end (I.ok.hd hc) hit pT (by simp; omega) fun h' x he' hx' => ?_)
    obtain ⟨o, ho, hcl⟩ := hx'
    refine wpAny_bind (wpAny_isInstance (T := "StopIteration") (b := true) ⟨o, ho, hcl⟩ isSubtype_stop ?_)
    exact wpAny_pure ⟨rfl, I.turned (t' := s.toks) (fun b o hb q => he' b o hb q) f0 f1 f3 f4 f5⟩
  self := fun A i s Q E st h => let ⟨⟨_, he⟩, _⟩ := st; wpAny_pyIter_enum he h
def iEnumT (K : PySem.W.Frag) (ta : TA) : TI := fun σ H R => ta σ H fun vs H1 => ∃ a xs, vs = [.ref a] ∧ SqT K H1 a xs ∧ R (IteT K a) H1
theorem pi_enumT {X : Cx} {e : Expr} {ta : TA} {p pos tpos : Pos} {elts : List Expr} {kk : Nat} (hg : Gl X "enumerate") (hm : X.mg "enumerate" = none) (ha : PA X [e] ta) (hs : starEach [e] X.env = [(false, eval e X.env)] := by rfl) :
    PI X (.Tuple elts kk tpos) (.Call (.Name "enumerate" p) [e] [] pos) (iEnumT X.K ta) := by
  refine ⟨fun pins s σ H R I h => ?_⟩
  refine Call_ (ld_blt I hg hm boot_enumerate (PyProof.Rows.callWith_type1 (thn (ha.run pos pins s σ H _ I h) fun us s1 ⟨vs, H1, I1, r1, q1⟩ => ?_) hs rfl))
  obtain ⟨a, xs, ex, hq, q⟩ := q1
  subst ex
  cases r1 with
  | cons r rr =>
    cases rr
    cases r
    obtain ⟨its, rv, p', hz⟩ := I1.tuple hq
    refine call_enumT (show s1.heap.IsTuple a its.toArray from p') fun h' he hit hsz hk => wpAny_pyIter_enum he ?_
    have I2 : Inv X pins σ H1 { s1 with heap := h' } := I1.kept (t' := s1.toks) hk
    refine ⟨s1.heap.objs.size + 1, [s1.heap.objs.size + 1, s1.heap.objs.size], _, _, H1, rfl, I2, turn_enumT a (s1.heap.objs.size + 1) s1.heap.objs.size, ⟨⟨.none, he⟩, hit, Nat.succ_ne_self _⟩, fun b hb => ?_, q⟩
    have e' : b = s1.heap.objs.size + 1 ∨ b = s1.heap.objs.size := by simpa using hb
    have hle : s1.heap.objs.size ≤ b := by
      rcases e' with z | z
      · rw [z]; exact Nat.le_add_right _ _
      · rw [z]; exact Nat.le_refl _
    exact I1.fpOk hle (I1.hok.fresh hle)
end Pv

/-! Pv8: what is walked; list comprehensions. -/
namespace Pv
open PySem PySem.Spec PyProof.Rows L2
abbrev PvD := D

/-- J yields the items xs, whatever is done to what is not frozen -/
def Yl (K : PySem.W.Frag) (F' : AP) (H' : Hp) (J : It) (xs : List D) : Prop := ∀ (i : Nat) (F2 : AP) (H2 : Hp), Kp F' H' F2 H2 → Dm F2 H2 →
  (∀ d, xs[i]? = some d → J.go i H2 ∧ ∀ x H3, J.yld i H2 x H3 → ∃ F3, Gr F2 H2 F3 H3 ∧ Rp K F3 H3 x d) ∧ (xs.length ≤ i → J.stop i H2)
def tI (K : PySem.W.Frag) (Φ : List Fn) (it : CIt) : TI := fun σ H R => ∃ (F : AP) (env : En) (own : Ow) (xs : List D), St K F H σ env own ∧ Dm F H ∧ Free own (tkI it) ∧ evI Φ it env = some xs ∧ ∀ F' H' J, Gr F H F' H' → Yl K F' H' J xs → R J H'
section
variable {X : Cx} {Φ : List Fn} {e a b b' : Expr} {c ca cb cb' : CE} {pos : Pos} {tg : Expr}
theorem _root_.L2.PI.wk {tg e : Expr} {t t' : TI} (h : PI X tg e t) (w : ∀ σ H Q, t' σ H Q → t σ H Q) : PI X tg e t' := ⟨fun pins s σ H Q I q => h.run pins s σ H Q I (w σ H Q q)⟩
theorem _root_.L2.PI.or {tg e : Expr} {t t' : TI} (h : PI X tg e t) (h' : PI X tg e t') : PI X tg e (fun σ H R => t σ H R ∨ t' σ H R) := ⟨fun pins s σ H Q I q => q.elim (h.run pins s σ H Q I) (h'.run pins s σ H Q I)⟩

theorem yl_rng {K : PySem.W.Frag} {F : AP} {H : Hp} (lo : Int) (n : Nat) : Yl K F H (Itr lo n) (rngD lo 1 n) := fun i F2 H2 k dm => by
  refine ⟨fun d e => ?_, fun h => by rw [rngD_len] at h; exact h⟩
  rw [rngD_get] at e
  split at e
  · rename_i h
    cases e
    refine ⟨h, fun x H3 y => ?_⟩
    obtain ⟨rfl, rfl⟩ := y
    exact ⟨F2, Gr.refl dm, by rw [Int.mul_one]; exact .int _⟩
  · cases e
theorem yl_rngc {K : PySem.W.Frag} {F : AP} {H : Hp} (lo c : Int) (n : Nat) : Yl K F H (Itc lo c n) (rngD lo c n) := fun i F2 H2 k dm => by
  refine ⟨fun d e => ?_, fun h => by rw [rngD_len] at h; exact h⟩
  rw [rngD_get] at e
  split at e
  · rename_i h
    cases e
    refine ⟨h, fun x H3 y => ?_⟩
    obtain ⟨rfl, rfl⟩ := y
    exact ⟨F2, Gr.refl dm, .int _⟩
  · cases e
theorem sql_inj {K : PySem.W.Frag} {H : Hp} {a : Addr} {xs ys : List V} (h : H a = some (.lst xs)) (h' : ∀ zs, SqL K H a zs → zs = ys) : xs = ys := h' xs (SqL.of h)
theorem yl_lst {K : PySem.W.Frag} {F : AP} {H : Hp} {a : Addr} {vs : List V} {xs : List D} (f : F a) (e : H a = some (.lst vs)) (r : RpL K F H vs xs) : Yl K F H (Itl K a) xs := fun i F2 H2 k dm => by
  have e2 := k.lst f e
  refine ⟨fun d ed => ?_, fun h => ⟨vs, SqL.of e2, by rw [r.length]; exact h⟩⟩
  obtain ⟨v, ev, rv⟩ := r.get ed
  refine ⟨⟨vs, v, SqL.of e2, ev⟩, fun x H3 y => ?_⟩
  obtain ⟨rfl, y⟩ := y
  have := y vs (SqL.of e2)
  rw [ev] at this
  cases this
  exact ⟨F2, Gr.refl dm, rv.kp k⟩
theorem yl_tup {K : PySem.W.Frag} {F : AP} {H : Hp} {a : Addr} {vs : List V} {xs : List D} (f : F a) (e : H a = some (.tup vs)) (r : RpL K F H vs xs) : Yl K F H (Itt K a) xs := fun i F2 H2 k dm => by
  have e2 := k.tup f e
  refine ⟨fun d ed => ?_, fun h => ⟨vs, SqT.of e2, by rw [r.length]; exact h⟩⟩
  obtain ⟨v, ev, rv⟩ := r.get ed
  refine ⟨⟨vs, v, SqT.of e2, ev⟩, fun x H3 y => ?_⟩
  obtain ⟨rfl, y⟩ := y
  have := y vs (SqT.of e2)
  rw [ev] at this
  cases this
  exact ⟨F2, Gr.refl dm, rv.kp k⟩
theorem enumD_get : ∀ (xs : List D) (k i : Nat) (d : D), (enumD k xs)[i]? = some d → ∃ x, xs[i]? = some x ∧ d = .tup [.int ((k + i : Nat) : Int), x]
  | [], _, _, _, h => by simp [enumD] at h
  | x :: r, k, 0, d, h => by simp [enumD] at h; exact ⟨x, rfl, h.symm⟩
  | x :: r, k, i + 1, d, h => by
    have h : (enumD (k + 1) r)[i]? = some d := h
    obtain ⟨y, e1, e2⟩ := enumD_get r (k + 1) i d h
    exact ⟨y, e1, by rw [e2, show k + 1 + i = k + (i + 1) by omega]⟩
theorem enumD_len : ∀ (xs : List D) (k : Nat), (enumD k xs).length = xs.length
  | [], _ => rfl
  | x :: r, k => by show (enumD (k + 1) r).length + 1 = r.length + 1; rw [enumD_len]
theorem zipD_get : ∀ (xs ys : List D) (i : Nat) (d : D), (zipD xs ys)[i]? = some d → ∃ x y, xs[i]? = some x ∧ ys[i]? = some y ∧ d = .tup [x, y]
  | [], _, _, _, h => by simp [zipD] at h
  | _ :: _, [], _, _, h => by simp [zipD] at h
  | x :: r, y :: s, 0, d, h => by simp [zipD] at h; exact ⟨x, y, rfl, rfl, h.symm⟩
  | x :: r, y :: s, i + 1, d, h => by
    have h : (zipD r s)[i]? = some d := h
    obtain ⟨x', y', e1, e2, e3⟩ := zipD_get r s i d h
    exact ⟨x', y', e1, e2, e3⟩
theorem zipD_len : ∀ (xs ys : List D), (zipD xs ys).length = min xs.length ys.length
  | [], _ => by simp [zipD]
  | _ :: _, [] => by simp [zipD]
  | x :: r, y :: s => by simp [zipD, zipD_len r s]
theorem yl_enum {K : PySem.W.Frag} {F : AP} {H : Hp} {a : Addr} {vs : List V} {xs : List D} (f : F a) (e : H a = some (.lst vs)) (r : RpL K F H vs xs) : Yl K F H (Ite K a) (enumD 0 xs) := fun i F2 H2 k dm => by
  have e2 := k.lst f e
  refine ⟨fun d ed => ?_, fun h => ⟨vs, SqL.of e2, by rw [r.length]; rw [enumD_len] at h; exact h⟩⟩
  obtain ⟨z, ez, rfl⟩ := enumD_get xs 0 i d ed
  obtain ⟨v, ev, rv⟩ := r.get ez
  refine ⟨⟨vs, v, SqL.of e2, ev⟩, fun x H3 y => ?_⟩
  obtain ⟨T, w, rfl, nT, rfl, y⟩ := y
  have := y vs (SqL.of e2)
  rw [ev] at this
  cases this
  have g := Gr.laid (o := .tup [.int (i : Nat), v]) dm nT
  exact ⟨_, g, .tup (.inr rfl) upd_same (.cons (by rw [Nat.zero_add]; exact .int _) (.cons ((rv.kp k).kp g.kp) .nil))⟩
theorem yl_enumT {K : PySem.W.Frag} {F : AP} {H : Hp} {a : Addr} {vs : List V} {xs : List D} (f : F a) (e : H a = some (.tup vs)) (r : RpL K F H vs xs) : Yl K F H (IteT K a) (enumD 0 xs) := fun i F2 H2 k dm => by
  have e2 := k.tup f e
  refine ⟨fun d ed => ?_, fun h => ⟨vs, SqT.of e2, by rw [r.length]; rw [enumD_len] at h; exact h⟩⟩
  obtain ⟨z, ez, rfl⟩ := enumD_get xs 0 i d ed
  obtain ⟨v, ev, rv⟩ := r.get ez
  refine ⟨⟨vs, v, SqT.of e2, ev⟩, fun x H3 y => ?_⟩
  obtain ⟨T, w, rfl, nT, rfl, y⟩ := y
  have := y vs (SqT.of e2)
  rw [ev] at this
  cases this
  have g := Gr.laid (o := .tup [.int (i : Nat), v]) dm nT
  exact ⟨_, g, .tup (.inr rfl) upd_same (.cons (by rw [Nat.zero_add]; exact .int _) (.cons ((rv.kp k).kp g.kp) .nil))⟩
theorem yl_zip {K : PySem.W.Frag} {F : AP} {H : Hp} {a b : Addr} {vs ws : List V} {xs ys : List D} (f : F a) (e : H a = some (.lst vs)) (r : RpL K F H vs xs) (f' : F b) (e' : H b = some (.lst ws)) (r' : RpL K F H ws ys) : Yl K F H (Itz K a b) (zipD xs ys) := fun i F2 H2 k dm => by
  have e2 := k.lst f e
  have e2' := k.lst f' e'
  refine ⟨fun d ed => ?_, fun h => ⟨vs, ws, SqL.of e2, SqL.of e2', by rw [r.length, r'.length]; rw [zipD_len] at h; omega⟩⟩
  obtain ⟨z, z', ez, ez', rfl⟩ := zipD_get xs ys i d ed
  obtain ⟨v, ev, rv⟩ := r.get ez
  obtain ⟨v', ev', rv'⟩ := r'.get ez'
  refine ⟨⟨vs, ws, v, v', SqL.of e2, SqL.of e2', ev, ev'⟩, fun x H3 y => ?_⟩
  obtain ⟨T, w, w', rfl, nT, rfl, y, y'⟩ := y
  have h1 := y vs (SqL.of e2)
  have h2 := y' ws (SqL.of e2')
  rw [ev] at h1
  rw [ev'] at h2
  cases h1
  cases h2
  have g := Gr.laid (o := .tup [v, v']) dm nT
  exact ⟨_, g, .tup (.inr rfl) upd_same (.cons ((rv.kp k).kp g.kp) (.cons ((rv'.kp k).kp g.kp) .nil))⟩
theorem yl_zipM {K : PySem.W.Frag} {F : AP} {H : Hp} {a b : Addr} {vs ws : List V} {xs ys : List D} (f : F a) (e : H a = some (.tup vs)) (r : RpL K F H vs xs) (f' : F b) (e' : H b = some (.lst ws)) (r' : RpL K F H ws ys) : Yl K F H (ItzM K a b) (zipD xs ys) := fun i F2 H2 k dm => by
  have e2 := k.tup f e
  have e2' := k.lst f' e'
  refine ⟨fun d ed => ?_, fun h => ⟨vs, ws, SqT.of e2, SqL.of e2', by rw [r.length, r'.length]; rw [zipD_len] at h; omega⟩⟩
  obtain ⟨z, z', ez, ez', rfl⟩ := zipD_get xs ys i d ed
  obtain ⟨v, ev, rv⟩ := r.get ez
  obtain ⟨v', ev', rv'⟩ := r'.get ez'
  refine ⟨⟨vs, ws, v, v', SqT.of e2, SqL.of e2', ev, ev'⟩, fun x H3 y => ?_⟩
  obtain ⟨T, w, w', rfl, nT, rfl, y, y'⟩ := y
  have h1 := y vs (SqT.of e2)
  have h2 := y' ws (SqL.of e2')
  rw [ev] at h1
  rw [ev'] at h2
  cases h1
  cases h2
  have g := Gr.laid (o := .tup [v, v']) dm nT
  exact ⟨_, g, .tup (.inr rfl) upd_same (.cons ((rv.kp k).kp g.kp) (.cons ((rv'.kp k).kp g.kp) .nil))⟩

/-! ### the walked things, by their readings -/
theorem ev_asInt {env : En} {o : Option D} {β : Type} {f : Int → Option β} {z : β} (h : (match o with | some (.int j) => f j | _ => none) = some z) : ∃ j, o = some (.int j) ∧ f j = some z := by
  split at h
  · rename_i j; exact ⟨j, rfl, h⟩
  · cases h
theorem i_rng1 {p : Pos} (hg : Gl X "range") (hm : X.mg "range" = none) (ns : notStar a = true) (ha : Snd X Φ a ca) : PI X tg (.Call (.Name "range" p) [a] [] pos) (tI X.K Φ (.rng1 ca)) :=
  (pi_range1 hg hm (pa_cons ha.t pa_nil (star_cons ns)) (star_cons ns)).wk fun σ H R ⟨F, env, own, xs, st, dm, fr, e, k⟩ => by
    have e' := e
    unfold evI at e'
    split at e'
    case h_2 => cases e'
    rename_i j e1
    split at e'
    case isFalse => cases e'
    rename_i hs
    cases e'
    have hb := smallR_of hs
    exact intT st dm fr e1 fun F1 H1 g1 => ⟨j, rfl, hb.1, hb.2, k F1 H1 _ g1 (yl_rng 0 j.toNat)⟩
theorem i_rng2 {p : Pos} (hg : Gl X "range") (hm : X.mg "range" = none) (ns : notStar a = true) (ns' : notStar b = true) (ha : Snd X Φ a ca) (hb : Snd X Φ b cb) : PI X tg (.Call (.Name "range" p) [a, b] [] pos) (tI X.K Φ (.rng2 ca cb)) :=
  (pi_range2 hg hm (pa_cons ha.t (pa_cons hb.t pa_nil (star_cons ns')) (star_cons ns)) (by rw [star_cons ns, star_cons ns']; rfl) (star_cons ns')).wk fun σ H R ⟨F, env, own, xs, st, dm, fr, e, k⟩ => by
    have e' := e
    unfold evI at e'
    split at e'
    case h_2 => cases e'
    rename_i i e1
    split at e'
    case h_2 => cases e'
    rename_i j e2
    split at e'
    case isFalse => cases e'
    rename_i hs
    cases e'
    rw [Bool.and_eq_true] at hs
    have h1 := smallR_of hs.1
    have h2 := smallR_of hs.2
    exact intT st dm (Free.l fr) e1 fun F1 H1 g1 => intT (st.gr g1) g1.dom (Free.r fr) e2 fun F2 H2 g2 => ⟨i, j, rfl, ⟨h1.1, h1.2, h2.1, h2.2⟩, k F2 H2 _ (g1.trans g2) (yl_rng i (j - i).toNat)⟩
theorem i_rngd {p p1 p2 : Pos} {kk : Nat} (hg : Gl X "range") (hm : X.mg "range" = none) (ns : notStar a = true) (ns' : notStar b = true) (ha : Snd X Φ a ca) (hb : Snd X Φ b cb) : PI X tg (.Call (.Name "range" p) [a, b, .UnaryOp .USub (.Constant (.int 1) kk p1) p2] [] pos) (tI X.K Φ (.rngd ca cb)) := by
  have s3 : starEach [.UnaryOp .USub (.Constant (.int 1) kk p1) p2] X.env = [(false, eval (.UnaryOp .USub (.Constant (.int 1) kk p1) p2) X.env)] := rfl
  have s2 : starEach [b, .UnaryOp .USub (.Constant (.int 1) kk p1) p2] X.env = [(false, eval b X.env), (false, eval (.UnaryOp .USub (.Constant (.int 1) kk p1) p2) X.env)] := by rw [star_cons ns', s3]
  have s1 : starEach [a, b, .UnaryOp .USub (.Constant (.int 1) kk p1) p2] X.env = [(false, eval a X.env), (false, eval b X.env), (false, eval (.UnaryOp .USub (.Constant (.int 1) kk p1) p2) X.env)] := by rw [star_cons ns, s2]
  refine (pi_range3 hg hm (pa_cons ha.t (pa_cons hb.t (pa_cons (pe_un un_neg pe_int) pa_nil s3) (star_cons ns')) (star_cons ns)) ?_ ?_).wk fun σ H R ⟨F, env, own, xs, st, dm, fr, e, k⟩ => ?_
  · exact star_cons ns
  · rw [s2]; rfl
  · have e' := e
    unfold evI at e'
    split at e'
    case h_2 => cases e'
    rename_i i e1
    split at e'
    case h_2 => cases e'
    rename_i j e2
    split at e'
    case isFalse => cases e'
    rename_i hs
    cases e'
    rw [Bool.and_eq_true] at hs
    have h1 := smallR_of hs.1
    have h2 := smallR_of hs.2
    exact intT st dm (Free.l fr) e1 fun F1 H1 g1 => intT (st.gr g1) g1.dom (Free.r fr) e2 fun F2 H2 g2 => ⟨1, rfl, i, j, -1, _, rfl, RgC.neg h1.1 h1.2 h2.1 h2.2, k F2 H2 _ (g1.trans g2) (yl_rngc i (-1) (i - j).toNat)⟩
theorem i_seq (ha : Snd X Φ a ca) : PI X tg a (tI X.K Φ (.seq ca)) :=
  ((pi_list (froz ha.t)).or (pi_tup (froz ha.t))).wk fun σ H R ⟨F, env, own, xs, st, dm, fr, e, k⟩ => by
    have e' := e
    unfold evI at e'
    cases e1 : ev Φ ca env with
    | none => rw [e1] at e'; cases e'
    | some x =>
      rw [e1] at e'
      have e' : seq? x = some xs := e'
      cases x with
      | lst ds =>
        cases e'
        refine .inl ⟨F, env, own, _, st, dm, fr, e1, fun F1 H1 v g1 r1 => ?_⟩
        cases r1 with
        | lst f eH r => exact ⟨_, rfl, ⟨_, SqL.of eH⟩, k F1 H1 _ g1 (yl_lst f eH r)⟩
      | tup ds =>
        cases e'
        refine .inr ⟨F, env, own, _, st, dm, fr, e1, fun F1 H1 v g1 r1 => ?_⟩
        cases r1 with
        | tup f eH r => exact ⟨_, rfl, ⟨_, SqT.of eH⟩, k F1 H1 _ g1 (yl_tup f eH r)⟩
      | _ => cases e'
theorem i_enum {p tpos : Pos} {elts : List Expr} {kk : Nat} (hg : Gl X "enumerate") (hm : X.mg "enumerate" = none) (ns : notStar a = true) (ha : Snd X Φ a ca) : PI X (.Tuple elts kk tpos) (.Call (.Name "enumerate" p) [a] [] pos) (tI X.K Φ (.enum ca)) :=
  ((pi_enum hg hm (pa_cons (froz ha.t) pa_nil (star_cons ns)) (star_cons ns)).or (pi_enumT hg hm (pa_cons (froz ha.t) pa_nil (star_cons ns)) (star_cons ns))).wk fun σ H R ⟨F, env, own, xs, st, dm, fr, e, k⟩ => by
    have e' := e
    unfold evI at e'
    split at e'
    · rename_i ds e1
      cases e'
      refine .inl ⟨F, env, own, _, st, dm, fr, e1, fun F1 H1 v g1 r1 => ?_⟩
      cases r1 with
      | lst f eH r => exact ⟨_, _, rfl, SqL.of eH, k F1 H1 _ g1 (yl_enum f eH r)⟩
    · rename_i ds e1
      cases e'
      refine .inr ⟨F, env, own, _, st, dm, fr, e1, fun F1 H1 v g1 r1 => ?_⟩
      cases r1 with
      | tup f eH r => exact ⟨_, _, rfl, SqT.of eH, k F1 H1 _ g1 (yl_enumT f eH r)⟩
    · cases e'
theorem i_zip {p tpos : Pos} {elts : List Expr} {kk : Nat} (hg : Gl X "zip") (hm : X.mg "zip" = none) (ns : notStar a = true) (ns' : notStar b = true) (ha : Snd X Φ a ca) (hb : Snd X Φ b cb) : PI X (.Tuple elts kk tpos) (.Call (.Name "zip" p) [a, b] [] pos) (tI X.K Φ (.zip ca cb)) :=
  (pi_zipM hg hm (pa_cons (froz ha.t) (pa_cons (froz hb.t) pa_nil (star_cons ns')) (star_cons ns)) (star_cons ns) (star_plain fun x hx => by
    rcases List.mem_cons.mp hx with e | hx
    · rw [e]; exact ns'
    · cases hx)).wk fun σ H R ⟨F, env, own, xs, st, dm, fr, e, k⟩ => by
    have e' := e
    unfold evI at e'
    cases e1 : ev Φ ca env with
    | none => rw [e1] at e'; cases e'
    | some x =>
      rw [e1] at e'
      simp only at e'
      cases e2 : ev Φ cb env with
      | none => rw [e2] at e'; cases e'
      | some y =>
        rw [e2] at e'
        simp only at e'
        split at e'
        case h_3 => cases e'
        all_goals cases e'
        · refine ⟨F, env, own, _, st, dm, Free.l fr, e1, fun F1 H1 v g1 r1 => ⟨F1, env, own, _, st.gr g1, g1.dom, Free.r fr, e2, fun F2 H2 w g2 r2 => ?_⟩⟩
          have r1' := r1.kp g2.kp
          cases r1' with
          | lst f eH r =>
            cases r2 with
            | lst f' eH' r' => exact ⟨_, _, _, _, rfl, SqL.of eH', .inl ⟨SqL.of eH, k F2 H2 _ (g1.trans g2) (yl_zip f eH r f' eH' r')⟩⟩
        · refine ⟨F, env, own, _, st, dm, Free.l fr, e1, fun F1 H1 v g1 r1 => ⟨F1, env, own, _, st.gr g1, g1.dom, Free.r fr, e2, fun F2 H2 w g2 r2 => ?_⟩⟩
          have r1' := r1.kp g2.kp
          cases r1' with
          | tup f eH r =>
            cases r2 with
            | lst f' eH' r' => exact ⟨_, _, _, _, rfl, SqL.of eH', .inr ⟨SqT.of eH, k F2 H2 _ (g1.trans g2) (yl_zipM f eH r f' eH' r')⟩⟩

/-! ### slots forgotten in a block -/
section
variable {K : PySem.W.Frag} {F F' F0 : AP} {H H' H0 : Hp} {σ : L2.St} {env : En} {own : Ow}
theorem Stt.unset' (s : Stt K F0 H0 F H σ env own) (i : Nat) : Stt K F0 H0 F H (σ.set i none) (env.set i none) (own.set i false) := by
  have s1 := s.unset i none
  have sub : ∀ j b, Owns (σ.set i none) (env.set i none) (own.set i false) j b → Owns (σ.set i none) (env.set i none) own j b := fun j b o => ⟨(own_set_false o.1).1, o.2⟩
  refine ⟨⟨s1.st.len, by rw [List.length_set]; exact s1.st.lenO, fun j => ?_, fun j k b o1 o2 => s1.st.apart j k b (sub j b o1) (sub k b o2)⟩, s1.gr, fun j b o => s1.nw j b (sub j b o)⟩
  by_cases hj : j = i
  · subst hj
    by_cases l : j < env.length
    · rw [getD_self l]; trivial
    · rw [set_out l, getD_out l]; trivial
  · rw [getD_set_ne (l := own) hj]; exact s1.st.slot j
theorem Stt.wipe (s : Stt K F0 H0 F H σ env own) : ∀ vs : List Nat, Stt K F0 H0 F H (L2.wipe σ vs) (wipeE env vs) (dropO own vs)
  | [] => s
  | v :: vs => (s.wipe vs).unset' v
theorem wipe_get : ∀ (vs : List Nat) (σ : L2.St) (j : Nat), (L2.wipe σ vs)[j]? = if j ∈ vs then (σ[j]?).map (fun _ => none) else σ[j]?
  | [], σ, j => by simp [L2.wipe]
  | v :: vs, σ, j => by
    show ((L2.wipe σ vs).set v none)[j]? = _
    rw [List.getElem?_set, wipe_get vs σ j]
    by_cases h : v = j
    · subst h
      rw [if_pos rfl, if_pos List.mem_cons_self]
      by_cases l : v < σ.length
      · rw [if_pos (by rw [L2.wipe_length]; exact l), List.getElem?_eq_getElem l]; rfl
      · rw [if_neg (by rw [L2.wipe_length]; exact l), List.getElem?_eq_none (by omega)]; rfl
    · rw [if_neg h]
      by_cases m : j ∈ vs
      · rw [if_pos m, if_pos (List.mem_cons_of_mem _ m)]
      · rw [if_neg m, if_neg (fun z => (List.mem_cons.mp z).elim (fun e => h e.symm) m)]
theorem wipe_same {vs : List Nat} {σ2 : L2.St} (hl : σ2.length = (L2.wipe σ vs).length) (h : ∀ j, j ∉ vs → σ2[j]? = (L2.wipe σ vs)[j]?) : L2.wipe σ2 vs = L2.wipe σ vs := by
  apply List.ext_getElem?
  intro j
  rw [wipe_get]
  by_cases m : j ∈ vs
  · rw [if_pos m, wipe_get, if_pos m]
    rw [L2.wipe_length] at hl
    by_cases l : j < σ.length
    · rw [List.getElem?_eq_getElem l, List.getElem?_eq_getElem (by omega)]; rfl
    · rw [List.getElem?_eq_none (by omega), List.getElem?_eq_none (by omega)]
  · rw [if_neg m]; exact h j m
theorem Gr.write {D0 : Addr} {o : HO} (g : Gr F0 H0 F H) (n : H0 D0 = none) (f : ¬ F D0) : Gr F0 H0 F (upd H D0 o) := ⟨g.sub, g.new, fun b x e => by
  rw [upd_ne (ne_of_none e n)]; exact g.same b x e, fun b fb => by
  have ne : b ≠ D0 := fun z => f (z ▸ fb)
  rw [upd_ne ne]; exact g.dom b fb⟩
theorem dropS_get : ∀ {is : List Nat} {own : Ow} {j : Nat}, (dropS own is).getD j false = true → own.getD j false = true ∧ j ∉ is
  | [], own, j, h => ⟨h, by simp⟩
  | i :: is, own, j, h => by
    obtain ⟨h1, h2⟩ := dropS_get (is := is) h
    obtain ⟨h3, h4⟩ := own_set_false h1
    exact ⟨h3, by simp only [List.mem_cons, not_or]; exact ⟨h4, h2⟩⟩
theorem tgO_get {tg : Tg} {j : Nat} (h : (tgO own tg).getD j false = true) : own.getD j false = true ∧ j ∉ tgI tg := by
  cases tg with
  | one i => obtain ⟨h1, h2⟩ := own_set_false h; exact ⟨h1, by simp [tgI]; exact h2⟩
  | many is => exact dropS_get h
end

/-! ### list comprehensions -/
/-- the tests of a clause: none or one -/
def tC1 (K : PySem.W.Frag) (Φ : List Fn) (cs : CEs) : TT := fun σ H Q => ∃ (F : AP) (env : En) (own : Ow) (b : Bool), St K F H σ env own ∧ Dm F H ∧ Free own (tks cs) ∧ evC Φ cs env = some b ∧ ∀ F' H', Gr F H F' H' → Q b H'
theorem _root_.L2.PTs.wk {ifs : List Expr} {t t' : TT} (h : PTs X ifs t) (w : ∀ σ H Q, t' σ H Q → t σ H Q) : PTs X ifs t' := ⟨fun pins s σ H Q I q => h.run pins s σ H Q I (w σ H Q q)⟩
theorem cs_nil : PTs X [] (tC1 X.K Φ .nil) := pts_nil.wk fun σ H Q ⟨F, env, own, d, st, dm, fr, e, k⟩ => by
  cases e
  exact k F H (Gr.refl dm)
theorem cs_one (ha : Snd X Φ a ca) : PTs X [a] (tC1 X.K Φ (.cons ca .nil)) := (pts_one ha.q).wk fun σ H Q ⟨F, env, own, d, st, dm, fr, e, k⟩ => by
  unfold evC at e
  split at e
  · rename_i j e1
    cases e
    exact ⟨F, env, own, d, st, dm, fun i hi => fr i (List.mem_append_left _ hi), e1, k⟩
  · cases e
theorem lcL_cons {f : D → Option (Option D)} {x : D} {r ys : List D} (h : lcL f (x :: r) = some ys) : (f x = some none ∧ lcL f r = some ys) ∨ ∃ y zs, f x = some (some y) ∧ lcL f r = some zs ∧ ys = y :: zs := by
  unfold lcL at h
  cases e : f x with
  | none => rw [e] at h; cases h
  | some o =>
    rw [e] at h
    cases o with
    | none => exact .inl ⟨rfl, h⟩
    | some y =>
      simp only at h
      cases e2 : lcL f r with
      | none => rw [e2] at h; cases h
      | some zs => rw [e2] at h; cases h; exact .inr ⟨y, zs, rfl, rfl, rfl⟩
theorem lcL_len {f : D → Option (Option D)} : ∀ {xs ys : List D}, lcL f xs = some ys → ys.length ≤ xs.length
  | [], ys, h => by cases h; exact Nat.le_refl _
  | x :: r, ys, h => by
    rcases lcL_cons h with ⟨_, h2⟩ | ⟨y, zs, _, h2, rfl⟩
    · exact Nat.le_succ_of_le (lcL_len h2)
    · exact Nat.succ_le_succ (lcL_len h2)
/-- one item of a comprehension -/
def lcF (Φ : List Fn) (elt : CE) (tg : Tg) (cs : CEs) (own : List Nat) (env : En) (x : D) : Option (Option D) := match setT tg (wipeE env own) x with
  | none => none
  | some env' => match evC Φ cs env' with
    | none => none
    | some false => some none
    | some true => match ev Φ elt env' with
      | none => none
      | some y => some (some y)
theorem ev_lc {elt : CE} {tg : Tg} {it : CIt} {cs : CEs} {own : List Nat} {env : En} {d : D} (h : ev Φ (.lc elt tg it cs own) env = some d) : ∃ xs ys, evI Φ it env = some xs ∧ lcL (lcF Φ elt tg cs own env) xs = some ys ∧ xs.length ≤ sizeLine ∧ d = .lst ys := by
  unfold ev at h
  cases e1 : evI Φ it env with
  | none => rw [e1] at h; cases h
  | some xs =>
    rw [e1] at h
    simp only at h
    have h : (match lcL (lcF Φ elt tg cs own env) xs with
      | none => none
      | some ys => if xs.length ≤ sizeLine then some (D.lst ys) else none) = some d := h
    cases e2 : lcL (lcF Φ elt tg cs own env) xs with
    | none => rw [e2] at h; cases h
    | some ys =>
      rw [e2] at h
      simp only at h
      split at h
      · rename_i hl
        cases h
        exact ⟨xs, ys, rfl, e2, hl, rfl⟩
      · cases h
theorem lc_ok {elt : CE} {ctg : Tg} {cit : CIt} {cs : CEs} {vs : List Nat} (ht : ∀ j ∈ tgI ctg, j ∈ vs) {σ : L2.St} {H : Hp} {Q : VK} (h : tT X.K Φ (.lc elt ctg cit cs vs) σ H Q) :
    tLc (tI X.K Φ cit) (tG X.K ctg) (tC1 X.K Φ cs) (tF X.K Φ elt) vs σ H Q := by
  obtain ⟨F, env, own, d, st, dm, fr, e, k⟩ := h
  obtain ⟨xs, ys, e1, e2, hz, rfl⟩ := ev_lc e
  refine ⟨F, env, own, xs, st, dm, Free.l fr, e1, fun F1 H1 J g1 yl D hD => ?_⟩
  have hDn : H D = none := g1.same.free hD
  refine ⟨fun i m H2 => ∃ (F2 : AP) (acc : List V) (dn rest : List PvD), m = xs.length - i ∧ i ≤ xs.length ∧ Gr F H F2 H2 ∧ ¬ F2 D ∧ H2 D = some (.lst acc) ∧ RpL X.K F2 H2 acc dn ∧ Kp F1 H1 F2 H2 ∧ lcL (lcF Φ elt ctg cs vs env) (xs.drop i) = some rest ∧ ys = dn ++ rest ∧ dn.length ≤ i, ?_, ?_⟩
  · have nF : ¬ F1 D := fun f => g1.dom D f hD
    refine ⟨xs.length, F1, [], [], ys, by simp, Nat.zero_le _, g1.write hDn nF, nF, upd_same, .nil, Kp.write nF, by rw [List.drop_zero]; exact e2, rfl, Nat.le_refl _⟩
  · rintro i m H2 ⟨F2, acc, dn, rest, rfl, hi, g2, nF, eD, ra, k2, er, rfl, hl⟩
    obtain ⟨go, stop⟩ := yl i F2 H2 k2 g2.dom
    by_cases hlt : i < xs.length
    · have ex : xs[i]? = some xs[i] := List.getElem?_eq_getElem hlt
      obtain ⟨hgo, hy⟩ := go _ ex
      have ed : xs.drop i = xs[i] :: xs.drop (i + 1) := List.drop_eq_getElem_cons hlt
      rw [ed] at er
      refine .inr ⟨hgo, fun H3 => ∃ (F3 : AP) (acc' : List V) (dn' rest' : List PvD), Gr F H F3 H3 ∧ ¬ F3 D ∧ H3 D = some (.lst acc') ∧ RpL X.K F3 H3 acc' dn' ∧ Kp F1 H1 F3 H3 ∧ lcL (lcF Φ elt ctg cs vs env) (xs.drop (i + 1)) = some rest' ∧ dn ++ rest = dn' ++ rest' ∧ dn'.length ≤ i + 1, fun H3 ⟨F3, acc', dn', rest', q⟩ => ⟨xs.length - (i + 1), by omega, F3, acc', dn', rest', rfl, hlt, q⟩, fun x H3 yx => ?_⟩
      obtain ⟨F3, g3, rx⟩ := hy x H3 yx
      have g23 := g2.trans g3
      have s3 := ((st.gr g23).stt g23.dom).wipe vs
      -- the target
      have hT : ∃ env', setT ctg (wipeE env vs) xs[i] = some env' := by
        rcases lcL_cons er with ⟨h, _⟩ | ⟨_, _, h, _, _⟩ <;> (unfold lcF at h; split at h; cases h; exact ⟨_, by assumption⟩)
      obtain ⟨env', hT⟩ := hT
      have hf : lcF Φ elt ctg cs vs env xs[i] = (match evC Φ cs env' with
          | none => none
          | some false => some none
          | some true => match ev Φ elt env' with
            | none => none
            | some y => some (some y)) := by
        unfold lcF; rw [hT]
      refine ⟨_, _, F3, _, _, _, env', s3, rx, hT, fun σ2 s4 hlen hagree => ⟨wipe_same hlen fun j hj => hagree j fun z => hj (ht j z), ?_⟩⟩
      have fr2 : ∀ j, j ∈ tks cs ++ tk elt → (tgO (dropO own vs) ctg).getD j false = false := fun j hj => by
        cases q : (tgO (dropO own vs) ctg).getD j false with
        | false => rfl
        | true =>
          obtain ⟨q1, _⟩ := tgO_get q
          obtain ⟨q2, q3⟩ := dropO_get q1
          have := fr j (List.mem_append_right _ (List.mem_filter.mpr ⟨hj, by simp [q3]⟩))
          rw [q2] at this
          cases this
      have keepD : ∀ {F' H'}, Gr F3 H3 F' H' → H' D = some (.lst acc) ∧ ¬ F' D ∧ RpL X.K F' H' acc dn ∧ Kp F1 H1 F' H' := fun {F' H'} g => by
        have e3 := g3.same _ _ eD
        refine ⟨g.same _ _ e3, fun f => ?_, (ra.kp g3.kp).kp g.kp, (k2.trans g3.kp).trans g.kp⟩
        rcases g.new D f with f | f
        · rcases g3.new D f with f | f
          · exact nF f
          · rw [eD] at f; cases f
        · rw [e3] at f; cases f
      rcases lcL_cons er with ⟨h0, h1⟩ | ⟨y, zs, h0, h1, rfl⟩
      · rw [hf] at h0
        split at h0
        · cases h0
        · rename_i ec
          refine ⟨F3, env', _, false, s4.st, g3.dom, fun j hj => fr2 j (List.mem_append_left _ hj), ec, fun F4 H4 g4 => iteF ?_⟩
          obtain ⟨q1, q2, q3, q4⟩ := keepD g4
          exact ⟨F4, acc, dn, rest, g23.trans g4, q2, q1, q3, q4, h1, rfl, by omega⟩
        · split at h0 <;> cases h0
      · rw [hf] at h0
        split at h0
        · cases h0
        · cases h0
        · rename_i ec
          split at h0
          · cases h0
          rename_i y' ey
          cases h0
          refine ⟨F3, env', _, true, s4.st, g3.dom, fun j hj => fr2 j (List.mem_append_left _ hj), ec, fun F4 H4 g4 => iteT ?_⟩
          refine ⟨F4, env', _, y, s4.st.gr g4, g4.dom, fun j hj => fr2 j (List.mem_append_right _ hj), ey, fun F5 H5 w g5 rw5 => ?_⟩
          obtain ⟨q1, q2, q3, q4⟩ := keepD (g4.trans g5)
          refine ⟨acc, q1, by rw [q3.length]; omega, F5, acc ++ [w], dn ++ [y], zs, ((g23.trans g4).trans g5).write hDn q2, q2, upd_same, (q3.append (RpL.one rw5)).kp (Kp.write q2), q4.trans (Kp.write q2), h1, by simp, by rw [List.length_append, List.length_singleton]; omega⟩
    · have ei : i = xs.length := by omega
      subst ei
      rw [List.drop_length] at er
      cases er
      rw [List.append_nil] at k
      exact .inl ⟨stop (Nat.le_refl _), k F2 H2 _ g2 (RpO.own hDn nF ⟨acc, eD, ra⟩)⟩
end
end Pv

/-! Pv9: statements. -/
namespace Pv
open PySem PySem.Spec PyProof.Rows L2

/-- behind a statement -/
def SttO (K : PySem.W.Frag) (F0 : AP) (H0 : Hp) (F : AP) (H : Hp) (σ : L2.St) (env : En) : Option Ow → Prop
  | none => False
  | some own => Stt K F0 H0 F H σ env own
def Post (K : PySem.W.Frag) (F0 : AP) (H0 : Hp) (F : AP) (H : Hp) (ret : Bool) (r : Option Ow) (Ed : Ends) : Out → Prop
  | .nx env' => ∀ F' H' σ', Kp F H F' H' → SttO K F0 H0 F' H' σ' env' r → Ed.nx σ' H'
  | .rt d => ∀ F' H' v, Kp F H F' H' → Gr F0 H0 F' H' → RpO K ret F' H' (fun a => H0 a = none) v d → Ed.rt v H'
def tS (K : PySem.W.Frag) (Φ : List Fn) (ret : Bool) (c : CS) : TS := fun Ed σ H => ∃ (F0 : AP) (H0 : Hp) (F : AP) (env : En) (own : Ow) (out : Out) (r : Option Ow),
  Stt K F0 H0 F H σ env own ∧ ck (frs Φ) ret c own = some r ∧ ex Φ c env = some out ∧ Post K F0 H0 F H ret r Ed out
def tSs (K : PySem.W.Frag) (Φ : List Fn) (ret : Bool) (c : CSs) : TS := fun Ed σ H => ∃ (F0 : AP) (H0 : Hp) (F : AP) (env : En) (own : Ow) (out : Out) (r : Option Ow),
  Stt K F0 H0 F H σ env own ∧ cks (frs Φ) ret c own = some r ∧ exs Φ c env = some out ∧ Post K F0 H0 F H ret r Ed out

theorem Post.at {K : PySem.W.Frag} {F0 F F' : AP} {H0 H H' : Hp} {ret : Bool} {r : Option Ow} {Ed : Ends} {out : Out} (k : Kp F H F' H') (q : Post K F0 H0 F H ret r Ed out) : Post K F0 H0 F' H' ret r Ed out := by
  cases out with
  | rt d => exact fun F2 H2 v k2 g r => q F2 H2 v (k.trans k2) g r
  | nx env' => exact fun F2 H2 σ2 k2 s => q F2 H2 σ2 (k.trans k2) s
section
variable {X : Cx} {Φ : List Fn} {ret : Bool} {st : Stmt} {sts : List Stmt} {e a b b' : Expr} {c ca cb cb' : CE} {pos : Pos}
theorem _root_.L2.PS.wk {t t' : TS} (h : PS X st t) (w : ∀ Ed σ H, t' Ed σ H → t Ed σ H) : PS X st t' := ⟨fun pins s σ H Ed I q => h.run pins s σ H Ed I (w Ed σ H q)⟩
theorem _root_.L2.PSs.wk {t t' : TS} (h : PSs X sts t) (w : ∀ Ed σ H, t' Ed σ H → t Ed σ H) : PSs X sts t' := ⟨fun pins s σ H Ed I q => h.run pins s σ H Ed I (w Ed σ H q)⟩
theorem free_drop {own : Ow} {is : List Nat} : Free (dropO own is) is := fun i hi => by
  cases q : (dropO own is).getD i false with
  | false => rfl
  | true => exact absurd hi (dropO_get q).2
theorem free_drop2 {own : Ow} {is js : List Nat} (h : Free own js) : Free (dropO own is) js := fun i hi => by
  cases q : (dropO own is).getD i false with
  | false => rfl
  | true => exact absurd (h i hi) (by rw [(dropO_get q).1]; simp)
section
variable {K : PySem.W.Frag} {F0 F : AP} {H0 H : Hp} {σ : L2.St} {env : En} {own : Ow} {d : D}
/-- an address that is new here is nobody's -/
theorem Stt.newN (s : Stt K F0 H0 F H σ env own) {a : Addr} (n : H a = none) : H0 a = none ∧ ∀ j, ¬ Owns σ env own j a := ⟨s.gr.same.free n, fun j o => by
  obtain ⟨_, d, _, w⟩ := s.st.owns o
  exact w.there n⟩
theorem Stt.evT (s : Stt K F0 H0 F H σ env own) (fr : Free own (tk c)) (e : ev Φ c env = some d) {Q : VK}
    (k : ∀ F' H' v, Gr F H F' H' → Stt K F0 H0 F' H' σ env own → RpO K (fresh (frs Φ) c) F' H' (fun a => H a = none) v d → Q v H') : tT K Φ c σ H Q :=
  ⟨F, env, own, d, s.st, s.dm, fr, e, fun F' H' v g r => k F' H' v g (s.grow g) r⟩
theorem Stt.evF (s : Stt K F0 H0 F H σ env own) (fr : Free own (tk c)) (e : ev Φ c env = some d) {Q : VK}
    (k : ∀ F' H' v, Gr F H F' H' → Stt K F0 H0 F' H' σ env own → Rp K F' H' v d → Q v H') : tF K Φ c σ H Q :=
  ⟨F, env, own, d, s.st, s.dm, fr, e, fun F' H' v g r => k F' H' v g (s.grow g) r⟩
theorem Stt.evB (s : Stt K F0 H0 F H σ env own) (fr : Free own (tkB c)) (e : ev Φ c env = some d) {Q : VK}
    (k : ∀ F' H' v, Gr F H F' H' → Stt K F0 H0 F' H' σ env own → Sh K F' H' v d → Q v H') : tB K Φ c σ H Q :=
  ⟨F, env, own, d, s.st, s.dm, fr, e, fun F' H' v g r => k F' H' v g (s.grow g) r⟩
theorem Stt.evQ (s : Stt K F0 H0 F H σ env own) (fr : Free own (tk c)) {j : Bool} (e : ev Φ c env = some (.bl j)) {Q : Bool → Hp → Prop}
    (k : ∀ F' H', Gr F H F' H' → Stt K F0 H0 F' H' σ env own → Q j H') : tQ K Φ c σ H Q :=
  ⟨F, env, own, j, s.st, s.dm, fr, e, fun F' H' g => k F' H' g (s.grow g)⟩
end

/-! ### blocks -/
theorem ss_nil : PSs X [] (tSs X.K Φ ret .nil) := pss_nil.wk fun Ed σ H ⟨F0, H0, F, env, own, out, r, s, ek, ee, q⟩ => by
  cases ek
  cases ee
  exact q F H σ Kp.refl s
theorem ss_cons {cs : CS} {css : CSs} (h1 : PS X st (tS X.K Φ ret cs)) (h2 : PSs X sts (tSs X.K Φ ret css)) : PSs X (st :: sts) (tSs X.K Φ ret (.cons cs css)) :=
  (pss_cons h1 h2).wk fun Ed σ H ⟨F0, H0, F, env, own, out, r, s, ek, ee, q⟩ => by
    unfold cks at ek
    unfold exs at ee
    cases e1 : ck (frs Φ) ret cs own with
    | none => rw [e1] at ek; cases ek
    | some r1 =>
      rw [e1] at ek
      cases e2 : ex Φ cs env with
      | none => rw [e2] at ee; cases ee
      | some o1 =>
        rw [e2] at ee
        refine ⟨F0, H0, F, env, own, o1, r1, s, e1, e2, ?_⟩
        cases o1 with
        | rt d => cases ee; exact q
        | nx env' =>
          intro F' H' σ' kp s'
          cases r1 with
          | none => exact s'.elim
          | some own' => exact ⟨F0, H0, F', env', own', out, r, s', ek, ee, q.at kp⟩

/-! ### name = value -/
def isComp : Expr → Bool
  | .ListComp _ _ _ _ => true
  | .SetComp _ _ _ _ => true
  | .DictComp _ _ _ _ _ => true
  | _ => false
theorem sw_no {t : Option Expr} {l : Nat} {env : Env} (h : isComp e = false) : swapsWith e t l env = pure false := by
  cases e <;> first | rfl | cases h
theorem asg_wk {i : Nat} {Ed : Ends} {σ : L2.St} {H : Hp} (h : tS X.K Φ ret (.asg i c) Ed σ H) : tAsg (tT X.K Φ c) (gName i) Ed σ H := by
  obtain ⟨F0, H0, F, env, own, out, r, s, ek, ee, q⟩ := h
  unfold ex at ee
  cases e1 : ev Φ c env with
  | none => rw [e1] at ee; cases ee
  | some d =>
    rw [e1] at ee
    cases ee
    cases ek
    obtain ⟨F1, s1, k1⟩ := s.drop (tk c)
    exact s1.evT free_drop e1 fun F' H' v g s2 r => q F' H' _ (k1.trans g.kp) (s2.setO (r.gr (Gr.refl g.dom)) (fun a n => ⟨s1.gr.same.free n, fun j o => (s1.newN n).2 j o⟩) i)
theorem p_asg {i : Nat} {x : Str} {p : Pos} (nd : X.N.Nodup) (hN : X.N[i]? = some x) (hx : L2.Loc X.env.scope x) (hf : X.fn x = true ∨ X.env.scope.names.lookup x = some .local) (he : PE X e (tT X.K Φ c)) (hs : swapsWith e (some (.Name x p)) pos.line X.env = pure false) :
    PS X (.Assign [.Name x p] e pos) (tS X.K Φ ret (.asg i c)) := (ps_set nd hN hx he hs hf).wk fun Ed σ H h => asg_wk h

/-! ### a, b = value -/
def isTup : Expr → Bool
  | .Tuple _ _ _ => true
  | _ => false
theorem st_no {es : List Expr} {k : Nat} {p : Pos} {env : Env} (h : isTup e = false) : swappedStores [.Tuple es k p] e env = pure none := by
  cases e <;> first | rfl | cases h
theorem p_asgT {is : List Nat} {es : List Expr} {k : Nat} {p : Pos} (h1 : swappedStores [.Tuple es k p] e X.env = pure none) (h2 : isComp e = false) (he : PE X e (tT X.K Φ c)) (hg : PG X (.Tuple es k p) (tG X.K (.many is))) : PS X (.Assign [.Tuple es k p] e pos) (tS X.K Φ ret (.asgT is c)) :=
  (ps_asg (froz he) hg (by show swapsWith e (some (.Tuple es k p)) pos.line X.env = pure false; exact sw_no h2) h1 rfl).wk fun Ed σ H ⟨F0, H0, F, env, own, out, r, s, ek, ee, q⟩ => by
    unfold ex at ee
    split at ee
    case h_2 => cases ee
    rename_i ds e1
    split at ee
    case h_2 => cases ee
    rename_i env' e2
    cases ee
    cases ek
    obtain ⟨F1, s1, k1⟩ := s.drop (tk c)
    exact s1.evF free_drop e1 fun F' H' v g s2 r => ⟨F0, H0, F', env, _, .tup ds, env', s2, r, e2, fun σ' s3 _ _ => q F' H' σ' (k1.trans g.kp) s3⟩

/-! ### name.append(value), name[i] = value, name op= value -/
theorem OwAt.upd_lst {K : PySem.W.Frag} {F : AP} {H : Hp} {a : Addr} {xs : List V} {ds : List D} (f : ¬ F a) (r : RpL K F H xs ds) : OwAt K F (upd H a (.lst xs)) a (.lst ds) := ⟨xs, upd_same, r.kp (Kp.write f)⟩
theorem owned_at {K : PySem.W.Frag} {F0 F : AP} {H0 H : Hp} {σ : L2.St} {env : En} {own : Ow} {d : D} {i : Nat} (s : Stt K F0 H0 F H σ env own) (e : env.getD i none = some d) (m : d.isMut = true) (o : own.getD i false = true) : ∃ a, σ[i]? = some (some (.ref a)) ∧ Owns σ env own i a ∧ ¬ F a ∧ OwAt K F H a d := by
  have q := s.st.slot i
  rw [e, o] at q
  unfold SlotOk at q
  simp only [m, Bool.and_self, if_true] at q
  obtain ⟨a, e1, f, w⟩ := q
  exact ⟨a, getD_some e1, ⟨o, ⟨d, e, m⟩, e1⟩, f, w⟩
theorem p_app {i : Nat} {x : Str} {p apos : Pos} (hN : X.N[i]? = some x) (hv : Vis X.env.scope x) (hd : (x == ("__debug__" : Str)) = false) (hcd : (x == ("__classdict__" : Str)) = false) (ns : notStar e = true) (hl : (apos.endLine == pos.line) = true) (he : Snd X Φ e c) {pos' : Pos} :
    PS X (.Expr (.Call (.Attribute (.Name x p) "append" apos) [e] [] pos) pos') (tS X.K Φ ret (.app i c)) := by
  have m1 := m1_of (X := X) (a := .Name x p) (b := e) (m := "append") (apos := apos) (cpos := pos) rfl ns hl
  have hp := pe_bm PySem.F.plainAttrs_list PySem.F.slot_list_append PySem.F.type_list_append mt_append (pe_var (pos := p) hN hv hd hcd) (pa_cons (froz he.t) pa_nil (star_cons ns)) m1.base m1.few hl (star_cons ns)
  refine (ps_expr hp (by rfl)).wk fun Ed σ H ⟨F0, H0, F, env, own, out, r, s, ek, ee, q⟩ => ?_
  unfold ck at ek
  unfold ex at ee
  split at ek
  case isFalse => cases ek
  rename_i ho
  cases ek
  cases e1 : env.getD i none with
  | none => rw [e1] at ee; cases ee
  | some d =>
    rw [e1] at ee
    simp only at ee
    cases e2 : ev Φ c env with
    | none => rw [e2] at ee; cases ee
    | some v =>
      rw [e2] at ee
      simp only at ee
      cases e3 : dapp d v with
      | none => rw [e3] at ee; cases ee
      | some d' =>
        rw [e3] at ee
        cases ee
        obtain ⟨F1, s1, k1⟩ := s.drop (tk c)
        cases d with
        | lst xs =>
          obtain ⟨a, ea, ow, nf, w⟩ := owned_at s1 e1 rfl ho
          obtain ⟨vs, eH, rv⟩ := w
          refine ⟨.ref a, ea, .inl ⟨rfl, vs, SqL.of eH⟩, s1.evF free_drop e2 fun F' H' u g s2 ru => ?_⟩
          unfold dapp at e3
          simp only at e3
          split at e3
          case isFalse => cases e3
          rename_i hz
          cases e3
          have nf' : ¬ F' a := fun f => (g.new a f).elim nf (by rw [eH]; exact fun z => nomatch z)
          refine ⟨a, vs, u, rfl, rfl, g.same _ _ eH, by rw [rv.length]; exact hz, ?_⟩
          exact q F' _ σ ((k1.trans g.kp).trans (Kp.write nf')) (s2.write ow (OwAt.upd_lst nf' ((rv.kp g.kp).append (RpL.one ru))))
        | _ => cases e3

/-! ### name[i] = value -/
def rSetDict : V → V → V → Hp → (Hp → Prop) → Prop := fun o i v H Q => ∃ a H4, o = .ref a ∧ DPut H a i v H4 ∧ Q H4
theorem set_dict (hu : X.A.units + 1 < cLine) : PSet X rSetDict := by
  intro pins s σ H o i v ov iv u Q I ro ri rv ⟨a, H4, e, g, q⟩
  subst e
  obtain rfl : ov = Value.ref a := ro
  exact d_setItem hu I g ri rv fun s4 I4 => ⟨H4, I4, q⟩
theorem PSet.or {t t' : V → V → V → Hp → (Hp → Prop) → Prop} (h : PSet X t) (h' : PSet X t') : PSet X (fun o i v H Q => t o i v H Q ∨ t' o i v H Q) := by
  intro pins s σ H o i v ov iv u Q I ro ri rv q
  rcases q with q | q
  · exact h pins s σ H o i v ov iv u Q I ro ri rv q
  · exact h' pins s σ H o i v ov iv u Q I ro ri rv q
theorem asg_sub {i : Expr} {o : Expr} {p : Pos} {env : Env} (h : isSl i = false) (v : Value) : assign (.Subscript o i p) env v = (do
      let ov ← holding [v] (eval o env)
      let iv ← holding [v, ov] (eval i env)
      standAt p
      holding [v, ov, iv] (setItem ov iv v)
      release [v, ov, iv] []) := by
  cases i <;> first | rfl | cases h
theorem rpK_any {K : PySem.W.Frag} {F : AP} {H : Hp} (k : Key) : ∀ {kvs : List (Key × V)} {es : List (Key × D)}, RpK K F H kvs es → (kvs.any fun kv => decide (kv.1 = k)) = es.any fun kv => decide (kv.1 = k)
  | _, _, .nil => rfl
  | _, _, .cons a b => by rw [List.any_cons, List.any_cons, rpK_any k b]
theorem rpK_map {K : PySem.W.Frag} {F : AP} {H : Hp} {v : V} {d : D} (k : Key) (r : Rp K F H v d) : ∀ {kvs : List (Key × V)} {es : List (Key × D)}, RpK K F H kvs es → RpK K F H (kvs.map fun kv => if kv.1 = k then (kv.1, v) else kv) (es.map fun kv => if kv.1 = k then (kv.1, d) else kv)
  | _, _, .nil => .nil
  | _, _, .cons (k := k') a b => by
    rw [List.map_cons, List.map_cons]
    by_cases e : k' = k
    · simp only [e, if_true]; exact .cons r (rpK_map k r b)
    · simp only [e, if_false]; exact .cons a (rpK_map k r b)
theorem rpK_app {K : PySem.W.Frag} {F : AP} {H : Hp} : ∀ {kvs kvs' : List (Key × V)} {es es' : List (Key × D)}, RpK K F H kvs es → RpK K F H kvs' es' → RpK K F H (kvs ++ kvs') (es ++ es')
  | _, _, _, _, .nil, h => h
  | _, _, _, _, .cons a b, h => .cons a (rpK_app b h)
theorem rpK_put {K : PySem.W.Frag} {F : AP} {H : Hp} {v : V} {d : D} (k : Key) (r : Rp K F H v d) {kvs : List (Key × V)} {es : List (Key × D)} (h : RpK K F H kvs es) : RpK K F H (putK kvs k v) (putA es k d) := by
  unfold putK putA
  rw [rpK_any k h]
  split
  · exact rpK_map k r h
  · exact rpK_app h (.cons r .nil)
theorem rpK_len {K : PySem.W.Frag} {F : AP} {H : Hp} : ∀ {kvs : List (Key × V)} {es : List (Key × D)}, RpK K F H kvs es → kvs.length = es.length
  | _, _, .nil => rfl
  | _, _, .cons a b => by rw [List.length_cons, List.length_cons, rpK_len b]
theorem rpT_any {K : PySem.W.Frag} {F : AP} {H : Hp} (k : List Key) : ∀ {kvs : List (List Key × V)} {es : List (List Key × D)}, RpT K F H kvs es → (kvs.any fun kv => decide (kv.1 = k)) = es.any fun kv => decide (kv.1 = k)
  | _, _, .nil => rfl
  | _, _, .cons a b => by rw [List.any_cons, List.any_cons, rpT_any k b]
theorem rpT_map {K : PySem.W.Frag} {F : AP} {H : Hp} {v : V} {d : D} (k : List Key) (r : Rp K F H v d) : ∀ {kvs : List (List Key × V)} {es : List (List Key × D)}, RpT K F H kvs es → RpT K F H (kvs.map fun kv => if kv.1 = k then (kv.1, v) else kv) (es.map fun kv => if kv.1 = k then (kv.1, d) else kv)
  | _, _, .nil => .nil
  | _, _, .cons (k := k') a b => by
    rw [List.map_cons, List.map_cons]
    by_cases e : k' = k
    · simp only [e, if_true]; exact .cons r (rpT_map k r b)
    · simp only [e, if_false]; exact .cons a (rpT_map k r b)
theorem rpT_app {K : PySem.W.Frag} {F : AP} {H : Hp} : ∀ {kvs kvs' : List (List Key × V)} {es es' : List (List Key × D)}, RpT K F H kvs es → RpT K F H kvs' es' → RpT K F H (kvs ++ kvs') (es ++ es')
  | _, _, _, _, .nil, h => h
  | _, _, _, _, .cons a b, h => .cons a (rpT_app b h)
theorem rpT_put {K : PySem.W.Frag} {F : AP} {H : Hp} {v : V} {d : D} (k : List Key) (r : Rp K F H v d) {kvs : List (List Key × V)} {es : List (List Key × D)} (h : RpT K F H kvs es) : RpT K F H (putK kvs k v) (putA es k d) := by
  unfold putK putA
  rw [rpT_any k h]
  split
  · exact rpT_map k r h
  · exact rpT_app h (.cons r .nil)
theorem rpT_len {K : PySem.W.Frag} {F : AP} {H : Hp} : ∀ {kvs : List (List Key × V)} {es : List (List Key × D)}, RpT K F H kvs es → kvs.length = es.length
  | _, _, .nil => rfl
  | _, _, .cons a b => by rw [List.length_cons, List.length_cons, rpT_len b]
/-- a store into an owned dict -/
theorem dput_ok {K : PySem.W.Frag} {F : AP} {H : Hp} {a : Addr} {d d' y v : D} {w u : V} (nf : ¬ F a) (ow : OwAt K F H a d) (hy : Sh K F H w y) (hv : Rp K F H u v) (e : dput d y v = some d') : ∃ H4 ob, DPut H a w u H4 ∧ H4 = upd H a ob ∧ OwAt K F (upd H a ob) a d' := by
  cases d with
  | dk es =>
    obtain ⟨kvs, eH, rk⟩ := ow
    unfold dput at e
    simp only at e
    cases e1 : key? y with
    | none => rw [e1] at e; cases e
    | some k =>
      rw [e1] at e
      simp only at e
      split at e
      case isFalse => cases e
      rename_i hz
      cases e
      exact ⟨_, _, .inl ⟨kvs, k, eH, key_rp e1 hy, by rw [rpK_len rk]; exact hz, rfl⟩, rfl, putK kvs k u, upd_same, (rpK_put k hv rk).kp (Kp.write nf)⟩
  | dt es =>
    obtain ⟨kvs, eH, rk⟩ := ow
    unfold dput at e
    simp only at e
    cases y with
    | tup ks =>
      simp only at e
      cases e1 : keys? ks with
      | none => rw [e1] at e; cases e
      | some k =>
        rw [e1] at e
        simp only at e
        split at e
        case isFalse => cases e
        rename_i hz
        cases e
        obtain ⟨b, xs, rfl, _, eb, rb⟩ := hy
        exact ⟨_, _, .inr ⟨kvs, k, b, eH, rfl, by rw [eb, keys_rp e1 rb], by rw [rpT_len rk]; exact hz, rfl⟩, rfl, putK kvs k u, upd_same, (rpT_put k hv rk).kp (Kp.write nf)⟩
    | _ => cases e
  | _ => cases e
theorem p_setix {i : Nat} {x : Str} {ix : Expr} {p p2 : Pos} (hu : X.A.units + 65 < cLine) (hN : X.N[i]? = some x) (hv : Vis X.env.scope x) (hd : (x == ("__debug__" : Str)) = false) (hcd : (x == ("__classdict__" : Str)) = false) (h1 : isSl ix = false) (h2 : isComp e = false) (hi : Snd X Φ ix ca) (he : Snd X Φ e c) :
    PS X (.Assign [.Subscript (.Name x p) ix p2] e pos) (tS X.K Φ ret (.setix i ca c)) := by
  have hw : swappedStores [.Subscript (.Name x p) ix p2] e X.env = pure none := by cases e <;> rfl
  refine (ps_asg (froz he.t) (pg_sub (pe_var (pos := p) hN hv hd hcd) hi.t (PSet.or set_list (set_dict (by omega))) (asg_sub h1)) (by show swapsWith e (some (.Subscript (.Name x p) ix p2)) pos.line X.env = pure false; exact sw_no h2) hw rfl).wk fun Ed σ H ⟨F0, H0, F, env, own, out, r, s, ek, ee, q⟩ => ?_
  unfold ck at ek
  unfold ex at ee
  split at ek
  case isFalse => cases ek
  rename_i ho
  cases ek
  cases e2 : ev Φ c env with
  | none => rw [e2] at ee; cases ee
  | some v =>
    rw [e2] at ee
    simp only at ee
    cases e1 : env.getD i none with
    | none => rw [e1] at ee; cases ee
    | some d =>
      rw [e1] at ee
      simp only at ee
      cases e3 : ev Φ ca env with
      | none => rw [e3] at ee; cases ee
      | some y =>
        rw [e3] at ee
        simp only at ee
        cases e4 : dset d y v with
        | none => rw [e4] at ee; cases ee
        | some d' =>
          rw [e4] at ee
          cases ee
          obtain ⟨F1, s1, k1⟩ := s.drop (tk c)
          obtain ⟨F2, s2, k2⟩ := s1.drop (tk ca)
          refine s2.evF (free_drop2 free_drop) e2 fun F3 H3 u g s3 ru => ?_
          obtain ⟨w0, ew0, _⟩ := s3.st.look e1
          have m : d.isMut = true := by
            cases d <;> first | rfl | (cases y <;> cases e4) | cases e4
          obtain ⟨a, ea, ow, nf, w⟩ := owned_at s3 e1 m ho
          refine ⟨.ref a, ea, s3.evT free_drop e3 fun F4 H4 iv g4 s4 ri => ?_⟩
          obtain ⟨a', ea', ow', nf', w'⟩ := owned_at s4 e1 m ho
          rw [ea] at ea'
          cases ea'
          have ru4 := ru.kp g4.kp
          cases d with
          | lst xs =>
            cases y with
            | int j =>
              have e5 : (match ixN xs.length j with | some j => some (D.lst (xs.set j v)) | none => none) = some d' := e4
              cases e6 : ixN xs.length j with
              | none => rw [e6] at e5; cases e5
              | some n =>
                rw [e6] at e5
                cases e5
                obtain ⟨vs, eH, rv⟩ := w'
                have hj := (flatO ri rfl).int_of
                subst hj
                refine .inl ⟨a, vs, j, n, rfl, rfl, eH, by rw [rv.length]; exact e6, ?_⟩
                exact q F4 _ σ ((((k1.trans k2).trans g.kp).trans g4.kp).trans (Kp.write nf')) (s4.write ow' (OwAt.upd_lst nf' (RpL.set ru4 n rv)))
            | _ => cases e4
          | dk es =>
            have e5 : dput (.dk es) y v = some d' := e4
            obtain ⟨H5, ob, dp, eq5, w5⟩ := dput_ok nf' w' ri.sh ru4 e5
            subst eq5
            exact .inr ⟨a, _, rfl, dp, q F4 _ σ ((((k1.trans k2).trans g.kp).trans g4.kp).trans (Kp.write nf')) (s4.write ow' w5)⟩
          | dt es =>
            have e5 : dput (.dt es) y v = some d' := e4
            obtain ⟨H5, ob, dp, eq5, w5⟩ := dput_ok nf' w' ri.sh ru4 e5
            subst eq5
            exact .inr ⟨a, _, rfl, dp, q F4 _ σ ((((k1.trans k2).trans g.kp).trans g4.kp).trans (Kp.write nf')) (s4.write ow' w5)⟩
          | _ => cases m
/-! ### name op= value -/
theorem p_aug0 {i : Nat} {x : Str} {p : Pos} {op : Operator} {bop : BOp} {ti : TIp} {f : Int → Int → Int} (nd : X.N.Nodup) (hN : X.N[i]? = some x) (hx : L2.Loc X.env.scope x) (hf : X.fn x = true ∨ X.env.scope.names.lookup x = some .local) (he : Snd X Φ e c)
    (hp : PIp X op ti) (ht : ∀ x y H Q, (∃ a b, x = V.int a ∧ y = V.int b ∧ Q (V.int (f a b)) H) → ti x y H Q) (hm : ∀ x y, augF bop x y = some (f x y)) :
    PS X (.AugAssign (.Name x p) op e pos) (tS X.K Φ ret (.aug i bop c)) := by
    refine (ps_aug nd hN hx he.t hp hf).wk fun Ed σ H ⟨F0, H0, F, env, own, out, r, s, ek, ee, q⟩ => ?_
    cases ek
    unfold ex at ee
    split at ee
    case h_2 => cases ee
    rename_i n e1
    split at ee
    case h_2 => cases ee
    rename_i m e2
    rw [hm] at ee
    cases ee
    obtain ⟨F1, s1, k1⟩ := s.drop (tk c)
    obtain ⟨w0, ew0, sh0⟩ := s1.st.look e1
    have ev0 : w0 = .int n := Rp.int_of sh0
    subst ev0
    refine ⟨.int n, ew0, s1.evT free_drop e2 fun F' H' u g s2 ru => ht _ _ _ _ ⟨n, m, rfl, (flatO ru rfl).int_of, ?_⟩⟩
    exact q F' H' _ (k1.trans g.kp) (s2.set (.int _) i)
theorem p_aug {i : Nat} {x : Str} {p : Pos} {op : Operator} {bop : BOp} (hop : bopOf op = some bop) (hadd : (bop = .add) ∨ (bop = .sub)) (nd : X.N.Nodup) (hN : X.N[i]? = some x) (hx : L2.Loc X.env.scope x) (hf : X.fn x = true ∨ X.env.scope.names.lookup x = some .local) (he : Snd X Φ e c) :
    PS X (.AugAssign (.Name x p) op e pos) (tS X.K Φ ret (.aug i bop c)) := by
  rcases hadd with h | h
  · subst h
    have : op = .Add := by cases op <;> first | rfl | cases hop
    subst this
    exact p_aug0 (f := fun a b => a + b) nd hN hx hf he ip_add (fun x y H Q h => h) fun _ _ => rfl
  · subst h
    have : op = .Sub := by cases op <;> first | rfl | cases hop
    subst this
    exact p_aug0 (f := fun a b => a - b) nd hN hx hf he ip_sub (fun x y H Q h => h) fun _ _ => rfl

end
end Pv

/-! Pv10: if, return, swaps, loops. -/
namespace Pv
open PySem PySem.Spec PyProof.Rows L2
section
variable {X : Cx} {Φ : List Fn} {ret : Bool} {st : Stmt} {sts sts' : List Stmt} {e a b b' : Expr} {c ca cb cb' : CE} {pos : Pos}
section
variable {K : PySem.W.Frag} {F0 F : AP} {H0 H : Hp} {σ : L2.St} {env : En} {own : Ow} {d : D}
theorem meetO_len : ∀ {a b : Ow}, a.length = b.length → (meetO a b).length = a.length
  | [], _, _ => by simp [meetO]
  | _ :: _, [], h => by cases h
  | x :: r, y :: s, h => by
    show (meetO r s).length + 1 = r.length + 1
    rw [meetO_len (Nat.succ.inj h)]
theorem meetO_get : ∀ {a b : Ow} {j : Nat}, (meetO a b).getD j false = true → a.getD j false = true ∧ b.getD j false = true
  | [], _, _, h => by simp [meetO] at h
  | _ :: _, [], _, h => by simp [meetO] at h
  | x :: r, y :: s, 0, h => by
    have h : (x && y) = true := h
    rw [Bool.and_eq_true] at h
    exact h
  | x :: r, y :: s, j + 1, h => meetO_get (a := r) (b := s) (j := j) h
theorem cks_len {fr : Nat → Bool} : True := trivial
theorem joinO_l {a b : Option Ow} (hb : ∀ o, b = some o → o.length = env.length) (h : SttO K F0 H0 F H σ env a) : ∃ F', SttO K F0 H0 F' H σ env (joinO a b) ∧ Kp F H F' H := by
  cases a with
  | none => exact h.elim
  | some a =>
    cases b with
    | none => exact ⟨F, h, Kp.refl⟩
    | some b =>
      have e1 : a.length = b.length := by rw [hb b rfl]; exact Stt.st h |>.lenO
      exact Stt.weaken h (meetO_len e1) fun j q => (meetO_get q).1
theorem joinO_r {a b : Option Ow} (ha : ∀ o, a = some o → o.length = env.length) (h : SttO K F0 H0 F H σ env b) : ∃ F', SttO K F0 H0 F' H σ env (joinO a b) ∧ Kp F H F' H := by
  cases b with
  | none => exact h.elim
  | some b =>
    cases a with
    | none => exact ⟨F, h, Kp.refl⟩
    | some a =>
      have e1 : a.length = b.length := by rw [ha a rfl]; exact (Stt.st h |>.lenO).symm
      exact Stt.weaken h (by rw [meetO_len e1, e1]) fun j q => (meetO_get q).2
end
/-! ### lengths -/
theorem dropO_len : ∀ {is : List Nat} {own : Ow}, (dropO own is).length = own.length
  | [], _ => rfl
  | i :: is, own => by show ((dropO own is).set i false).length = _; rw [List.length_set, dropO_len]
theorem dropS_len : ∀ {is : List Nat} {own : Ow}, (dropS own is).length = own.length
  | [], _ => rfl
  | i :: is, own => by show (dropS (own.set i false) is).length = _; rw [dropS_len, List.length_set]
theorem tgO_len {tg : Tg} {own : Ow} : (tgO own tg).length = own.length := by
  cases tg with
  | one i => exact List.length_set
  | many is => exact dropS_len
theorem endO_get {o2 ow o : Ow} {is : List Nat} {r : Option (Option Ow)} (h : endO o2 ow is r = some (some o)) : leO o2 ow = true ∧ (∃ r', r = some r' ∧ ∀ o3, r' = some o3 → leO o2 o3 = true) ∧ o = dropO o2 is := by
  cases r with
  | none => cases h
  | some r =>
    cases r with
    | none =>
      have h : (if leO o2 ow = true then some (some (dropO o2 is)) else none) = some (some o) := h
      split at h
      · rename_i hl; cases h; exact ⟨hl, ⟨none, rfl, fun o3 z => nomatch z⟩, rfl⟩
      · cases h
    | some o3 =>
      have h : (if (leO o2 ow && leO o2 o3) = true then some (some (dropO o2 is)) else none) = some (some o) := h
      split at h
      · rename_i hl
        cases h
        rw [Bool.and_eq_true] at hl
        exact ⟨hl.1, ⟨some o3, rfl, fun o4 z => by cases z; exact hl.2⟩, rfl⟩
      · cases h
theorem endO_some {o2 ow : Ow} {is : List Nat} {r : Option (Option Ow)} {x : Option Ow} (h : endO o2 ow is r = some x) : ∃ o, x = some o := by
  cases r with
  | none => cases h
  | some r =>
    cases r with
    | none =>
      have h : (if leO o2 ow = true then some (some (dropO o2 is)) else none) = some x := h
      split at h
      · cases h; exact ⟨_, rfl⟩
      · cases h
    | some o3 =>
      have h : (if (leO o2 ow && leO o2 o3) = true then some (some (dropO o2 is)) else none) = some x := h
      split at h
      · cases h; exact ⟨_, rfl⟩
      · cases h
mutual
theorem ck_len {fr : Nat → Bool} : ∀ (c : CS) {own o : Ow}, ck fr ret c own = some (some o) → o.length = own.length
  | .asg _ _, own, o, h => by cases h; simp [dropO_len]
  | .asgT _ _, own, o, h => by cases h; simp [dropO_len, dropS_len]
  | .par2 _ _ _ _, own, o, h => by cases h; simp [dropO_len]
  | .par3 _ _ _ _ _ _, own, o, h => by cases h; simp [dropO_len]
  | .setix _ _ _, own, o, h => by
    unfold ck at h
    split at h <;> cases h
    simp [dropO_len]
  | .app _ _, own, o, h => by
    unfold ck at h
    split at h <;> cases h
    simp [dropO_len]
  | .aug _ _ _, own, o, h => by cases h; simp [dropO_len]
  | .ife c a b, own, o, h => by
    unfold ck at h
    cases e1 : cks fr ret a (dropO own (tk c)) with
    | none => rw [e1] at h; cases h
    | some x =>
      cases e2 : cks fr ret b (dropO own (tk c)) with
      | none => rw [e1, e2] at h; cases h
      | some y =>
        rw [e1, e2] at h
        have h : joinO x y = some o := Option.some.inj h
        cases x with
        | none => cases h; exact (cks_len' b e2).trans dropO_len
        | some x =>
          cases y with
          | none => cases h; exact (cks_len' a e1).trans dropO_len
          | some y =>
            cases h
            have l1 := cks_len' a e1
            have l2 := cks_len' b e2
            rw [meetO_len (l1.trans l2.symm), l1, dropO_len]
  | .ret e, own, o, h => by
    unfold ck at h
    split at h <;> split at h <;> cases h
  | .retn, own, o, h => by cases h
  | .for_ tg it body, own, o, h => by
    unfold ck at h
    obtain ⟨h1, _, h2⟩ := endO_get h
    rw [h2, dropO_len, leO_len h1, dropO_len]
  | .whl n c body, own, o, h => by
    unfold ck at h
    obtain ⟨h1, _, h2⟩ := endO_get h
    rw [h2, dropO_len, leO_len h1]
theorem cks_len' {fr : Nat → Bool} : ∀ (c : CSs) {own o : Ow}, cks fr ret c own = some (some o) → o.length = own.length
  | .nil, own, o, h => by cases h; rfl
  | .cons s r, own, o, h => by
    unfold cks at h
    cases e1 : ck fr ret s own with
    | none => rw [e1] at h; cases h
    | some x =>
      rw [e1] at h
      cases x with
      | none => cases h
      | some x => exact (cks_len' r h).trans (ck_len s e1)
end

/-! ### if -/
theorem p_if {t f : CSs} (hc : Snd X Φ e c) (ht : PSs X sts (tSs X.K Φ ret t)) (hf : PSs X sts' (tSs X.K Φ ret f)) : PS X (.If e sts sts' pos) (tS X.K Φ ret (.ife c t f)) :=
  (ps_if hc.q ht hf).wk fun Ed σ H ⟨F0, H0, F, env, own, out, r, s, ek, ee, q⟩ => by
    unfold ck at ek
    unfold ex at ee
    obtain ⟨F1, s1, k1⟩ := s.drop (tk c)
    have hl : (dropO own (tk c)).length = env.length := s1.st.lenO
    cases e1 : cks (frs Φ) ret t (dropO own (tk c)) with
    | none => rw [e1] at ek; cases ek
    | some x =>
      cases e2 : cks (frs Φ) ret f (dropO own (tk c)) with
      | none => rw [e1, e2] at ek; cases ek
      | some y =>
        rw [e1, e2] at ek
        cases ek
        have lx : ∀ o, x = some o → o.length = (dropO own (tk c)).length := fun o h => cks_len' t (by rw [e1, h])
        have ly : ∀ o, y = some o → o.length = (dropO own (tk c)).length := fun o h => cks_len' f (by rw [e2, h])
        cases e3 : ev Φ c env with
        | none => rw [e3] at ee; cases ee
        | some d =>
          rw [e3] at ee
          cases d with
          | bl j =>
            refine s1.evQ free_drop e3 fun F2 H2 g2 s2 => ?_
            cases j with
            | true =>
              refine iteT ⟨F0, H0, F2, env, _, out, x, s2, e1, ee, ?_⟩
              cases out with
              | rt d => exact Post.at (out := .rt d) (r := none) (k1.trans g2.kp) q
              | nx env' =>
                intro F3 H3 σ3 k3 s3
                have l3 : (dropO own (tk c)).length = env'.length := by
                  cases x with
                  | none => exact s3.elim
                  | some x => rw [← lx x rfl]; exact Stt.st s3 |>.lenO
                obtain ⟨F4, s4, k4⟩ := joinO_l (b := y) (fun o h => (ly o h).trans l3) s3
                exact q F4 H3 σ3 (((k1.trans g2.kp).trans k3).trans k4) s4
            | false =>
              refine iteF ⟨F0, H0, F2, env, _, out, y, s2, e2, ee, ?_⟩
              cases out with
              | rt d => exact Post.at (out := .rt d) (r := none) (k1.trans g2.kp) q
              | nx env' =>
                intro F3 H3 σ3 k3 s3
                have l3 : (dropO own (tk c)).length = env'.length := by
                  cases y with
                  | none => exact s3.elim
                  | some y => rw [← ly y rfl]; exact Stt.st s3 |>.lenO
                obtain ⟨F4, s4, k4⟩ := joinO_r (a := x) (fun o h => (lx o h).trans l3) s3
                exact q F4 H3 σ3 (((k1.trans g2.kp).trans k3).trans k4) s4
          | _ => cases ee

/-! ### return -/
theorem p_retn : PS X (.Return none pos) (tS X.K Φ ret .retn) := ps_retN.wk fun Ed σ H ⟨F0, H0, F, env, own, out, r, s, ek, ee, q⟩ => by
  cases ee
  exact q F H .non Kp.refl s.gr (RpO.flat .non rfl)
theorem ret_ok {F0 : AP} {H0 : Hp} {F : AP} {H : Hp} {σ : L2.St} {env : En} {own : Ow} {d : D} {Q : VK} (s : Stt X.K F0 H0 F H σ env own) (e1 : ev Φ c env = some d) (hr : ret = false ∨ fresh (frs Φ) c = true) (q : ∀ F' H' v, Kp F H F' H' → Gr F0 H0 F' H' → RpO X.K ret F' H' (fun a => H0 a = none) v d → Q v H') : tT X.K Φ c σ H Q := by
  obtain ⟨F1, s1, k1⟩ := s.drop (tk c)
  refine s1.evT free_drop e1 fun F' H' v g s2 r => ?_
  have r0 := r.imp fun a n => s1.gr.same.free n
  cases ret with
  | false =>
    obtain ⟨F2, g2, kf, r2⟩ := r0.freeze s2.gr
    exact q F2 H' v ((k1.trans g.kp).trans kf) g2 (RpO.of r2 rfl)
  | true =>
    rcases hr with h | h
    · cases h
    · rw [h] at r0; exact q F' H' v (k1.trans g.kp) s2.gr r0
theorem p_ret (hv : isVar c = false) (hc : Snd X Φ e c) : PS X (.Return (some e) pos) (tS X.K Φ ret (.ret c)) := by
    refine (ps_ret hc.t).wk fun Ed σ H ⟨F0, H0, F, env, own, out, r, s, ek, ee, q⟩ => ?_
    unfold ex at ee
    cases e1 : ev Φ c env with
    | none => rw [e1] at ee; cases ee
    | some d =>
      rw [e1] at ee
      cases ee
      unfold ck at ek
      split at ek
      · cases hv
      · split at ek
        case isFalse => cases ek
        rename_i hr
        refine ret_ok s e1 ?_ q
        simpa using hr
theorem p_retv {i : Nat} {x : Str} {p : Pos} (hN : X.N[i]? = some x) (hv : Vis X.env.scope x) (hd : (x == ("__debug__" : Str)) = false) (hcd : (x == ("__classdict__" : Str)) = false) : PS X (.Return (some (.Name x p)) pos) (tS X.K Φ ret (.ret (.var i))) := by
    refine (ps_ret (pe_var (pos := p) hN hv hd hcd)).wk fun Ed σ H ⟨F0, H0, F, env, own, out, r, s, ek, ee, q⟩ => ?_
    unfold ex at ee
    cases e1 : ev Φ (.var i) env with
    | none => rw [e1] at ee; cases ee
    | some d =>
      rw [e1] at ee
      cases ee
      unfold ck at ek
      simp only at ek
      split at ek
      case isFalse => cases ek
      rename_i hr
      by_cases hm : ret = true ∧ d.isMut = true
      · obtain ⟨hr', hm⟩ := hm
        subst hr'
        have ho : own.getD i false = true := by simpa using hr
        obtain ⟨a, ea, ow, nf, w⟩ := owned_at s e1 hm ho
        exact ⟨.ref a, ea, q F H _ Kp.refl s.gr (RpO.own (s.nw i a ow) nf w)⟩
      · obtain ⟨F1, s1, k1⟩ := s.drop [i]
        have hf : (dropO own [i]).getD i false = false := free_drop i (by simp)
        obtain ⟨v, ev1, rv⟩ := s1.st.take e1 hf
        refine ⟨v, ev1, q F1 H _ k1 s1.gr (RpO.of rv ?_)⟩
        cases ret <;> cases h : d.isMut <;> simp_all

/-! ### swaps -/
theorem p_par2 {i j : Nat} {x y : Str} {px py pt : Pos} {kt k2 pt2} (hc : X.calm = true) (nd : X.N.Nodup) (hi : X.N[i]? = some x) (hj : X.N[j]? = some y) (hij : i ≠ j)
    (hx : X.env.scope.names.lookup x = some .local) (hy : X.env.scope.names.lookup y = some .local) (ns : notStar a = true) (ns' : notStar b = true) (ha : Snd X Φ a ca) (hb : Snd X Φ b cb)
    (hw : swappedStores [.Tuple [.Name x px, .Name y py] kt pt] (.Tuple [a, b] k2 pt2) X.env = pure (some [x, y])) :
    PS X (.Assign [.Tuple [.Name x px, .Name y py] kt pt] (.Tuple [a, b] k2 pt2) pos) (tS X.K Φ ret (.par2 i j ca cb)) :=
  (ps_par hc nd hi hj hij hx hy (pa_cons ha.t (pa_cons hb.t pa_nil (star_cons ns')) (star_cons ns)) hw).wk fun Ed σ H ⟨F0, H0, F, env, own, out, r, s, ek, ee, q⟩ => by
    cases ek
    unfold ex at ee
    cases e1 : ev Φ ca env with
    | none => rw [e1] at ee; cases ee
    | some x1 =>
      rw [e1] at ee
      simp only at ee
      cases e2 : ev Φ cb env with
      | none => rw [e2] at ee; cases ee
      | some x2 =>
        rw [e2] at ee
        cases ee
        obtain ⟨F1, s1, k1⟩ := s.drop (tk ca)
        obtain ⟨F2, s2, k2⟩ := s1.drop (tk cb)
        refine s2.evT (free_drop2 free_drop) e1 fun F3 H3 v g3 s3 r3 => s3.evT free_drop e2 fun F4 H4 w g4 s4 r4 => ⟨v, w, rfl, ?_⟩
        have s5 := s3.setO r3 (fun a n => ⟨s2.gr.same.free n, fun j o => (s2.newN n).2 j o⟩) i
        have s6 := (s5.grow g4).setO r4 (fun a n => s5.newN n) j
        exact q F4 H4 _ (((k1.trans k2).trans g3.kp).trans g4.kp) s6
theorem p_par3 {i j l : Nat} {x y z : Str} {px py pz pt : Pos} {kt k2 pt2} (hc : X.calm = true) (nd : X.N.Nodup) (hi : X.N[i]? = some x) (hj : X.N[j]? = some y) (hl : X.N[l]? = some z) (hij : i ≠ j) (hil : i ≠ l) (hjl : j ≠ l)
    (hx : X.env.scope.names.lookup x = some .local) (hy : X.env.scope.names.lookup y = some .local) (hz : X.env.scope.names.lookup z = some .local) (ns : notStar a = true) (ns' : notStar b = true) (ns2 : notStar b' = true) (ha : Snd X Φ a ca) (hb : Snd X Φ b cb) (hb' : Snd X Φ b' cb')
    (hw : swappedStores [.Tuple [.Name x px, .Name y py, .Name z pz] kt pt] (.Tuple [a, b, b'] k2 pt2) X.env = pure (some [x, y, z])) :
    PS X (.Assign [.Tuple [.Name x px, .Name y py, .Name z pz] kt pt] (.Tuple [a, b, b'] k2 pt2) pos) (tS X.K Φ ret (.par3 i j l ca cb cb')) :=
  (ps_par3 hc nd hi hj hl hij hil hjl hx hy hz (pa_cons ha.t (pa_cons hb.t (pa_cons hb'.t pa_nil (star_cons ns2)) (star_cons ns')) (star_cons ns)) hw).wk fun Ed σ H ⟨F0, H0, F, env, own, out, r, s, ek, ee, q⟩ => by
    cases ek
    unfold ex at ee
    cases e1 : ev Φ ca env with
    | none => rw [e1] at ee; cases ee
    | some x1 =>
      rw [e1] at ee
      simp only at ee
      cases e2 : ev Φ cb env with
      | none => rw [e2] at ee; cases ee
      | some x2 =>
        rw [e2] at ee
        simp only at ee
        cases e3 : ev Φ cb' env with
        | none => rw [e3] at ee; cases ee
        | some x3 =>
          rw [e3] at ee
          cases ee
          obtain ⟨F1, s1, k1⟩ := s.drop (tk ca)
          obtain ⟨F2, s2, k2⟩ := s1.drop (tk cb)
          obtain ⟨F2', s2', k2'⟩ := s2.drop (tk cb')
          refine s2'.evT (free_drop2 (free_drop2 free_drop)) e1 fun F3 H3 v g3 s3 r3 => s3.evT (free_drop2 free_drop) e2 fun F4 H4 w g4 s4 r4 => s4.evT free_drop e3 fun F5 H5 u g5 s5' r5 => ⟨v, w, u, rfl, ?_⟩
          have s5 := s3.setO r3 (fun a n => ⟨s2'.gr.same.free n, fun j o => (s2'.newN n).2 j o⟩) i
          have s6 := (s5.grow g4).setO r4 (fun a n => s5.newN n) j
          have s7 := (s6.grow g5).setO r5 (fun a n => s6.newN n) l
          exact q F5 H5 _ (((((k1.trans k2).trans k2').trans g3.kp).trans g4.kp).trans g5.kp) s7

/-! ### loops -/
abbrev forF (Φ : List Fn) (tg : Tg) (body : CSs) : En → D → Option Out := fun env' x => match setT tg env' x with
      | some env'' => exs Φ body env''
      | none => none
theorem for_core {K : PySem.W.Frag} {F0 F2 : AP} {H0 H2 : Hp} {σ : L2.St} {env : En} {o2 ow : Ow} {ctg : Tg} {body : CSs} {J : It} {xs : List D} {out : Out} {r' : Option Ow} {Ed : Ends} (s2 : Stt K F0 H0 F2 H2 σ env ow) (hl : leO o2 ow = true) (ec : cks (frs Φ) ret body (tgO o2 ctg) = some r') (el : ∀ o3, r' = some o3 → leO o2 o3 = true)
    (yl : Yl K F2 H2 J xs) (ef : forL (forF Φ ctg body) xs env = some out) (q : Post K F0 H0 F2 H2 ret (some o2) Ed out) :
    ∃ W : Nat → Nat → L2.St → Hp → Prop, (∃ m, W 0 m σ H2) ∧ ∀ i m σ H, W i m σ H →
      (J.stop i H ∧ Ed.nx σ H) ∨ (J.go i H ∧ ∃ N : L2.St → Hp → Prop, (∀ σ' H', N σ' H' → ∃ m', m' < m ∧ W (i + 1) m' σ' H') ∧ ∀ x H', J.yld i H x H' → tG K ctg x σ H' fun σ2 H2 => tSs K Φ ret body { Ed with nx := N, ct := N, bk := Ed.nx } σ2 H2) := by
  obtain ⟨F3, s3, k3⟩ := s2.le hl
  refine ⟨fun i m σ' H' => ∃ (F' : AP) (env' : En), m = xs.length - i ∧ i ≤ xs.length ∧ Stt K F0 H0 F' H' σ' env' o2 ∧ Kp F2 H2 F' H' ∧ forL (forF Φ ctg body) (xs.drop i) env' = some out, ⟨xs.length, F3, env, by simp, Nat.zero_le _, s3, k3, by rw [List.drop_zero]; exact ef⟩, ?_⟩
  rintro i m σ' H' ⟨F', env', rfl, hi, s', k', el'⟩
  obtain ⟨go, stop⟩ := yl i F' H' k' s'.gr.dom
  by_cases hlt : i < xs.length
  · have ex : xs[i]? = some xs[i] := List.getElem?_eq_getElem hlt
    obtain ⟨hgo, hy⟩ := go _ ex
    rw [List.drop_eq_getElem_cons hlt] at el'
    unfold forL at el'
    cases hT : setT ctg env' xs[i] with
    | none => simp only [forF, hT] at el'; cases el'
    | some env1 =>
      simp only [forF, hT] at el'
      cases eb : exs Φ body env1 with
      | none => rw [eb] at el'; cases el'
      | some ob =>
        rw [eb] at el'
        refine .inr ⟨hgo, fun σ4 H4 => ∃ (F4 : AP) (env4 : En), Stt K F0 H0 F4 H4 σ4 env4 o2 ∧ Kp F2 H2 F4 H4 ∧ forL (forF Φ ctg body) (xs.drop (i + 1)) env4 = some out, fun σ4 H4 ⟨F4, env4, z1, z2, z3⟩ => ⟨xs.length - (i + 1), by omega, F4, env4, rfl, hlt, z1, z2, z3⟩, fun x H3 yx => ?_⟩
        obtain ⟨F5, g5, rx⟩ := hy x H3 yx
        refine ⟨F0, H0, F5, env', o2, _, env1, s'.grow g5, rx, hT, fun σ6 s6 _ _ => ⟨F0, H0, F5, env1, _, ob, r', s6, ec, eb, ?_⟩⟩
        cases ob with
        | rt d => cases el'; exact Post.at (out := .rt d) (r := some o2) (k'.trans g5.kp) q
        | nx env7 =>
          intro F7 H7 σ7 k7 s7
          cases r' with
          | none => exact s7.elim
          | some o3 =>
            obtain ⟨F8, s8, k8⟩ := Stt.le s7 (el o3 rfl)
            exact ⟨F8, env7, s8, ((k'.trans g5.kp).trans k7).trans k8, el'⟩
  · have ei : i = xs.length := by omega
    subst ei
    rw [List.drop_length] at el'
    cases el'
    exact .inl ⟨stop (Nat.le_refl _), q F' H' σ' k' s'⟩
theorem p_for {tg iter : Expr} {ctg : Tg} {cit : CIt} {body : CSs} (hx : X.xe = fun _ _ => False) (hc : X.calm = true) (hi : PI X tg iter (tI X.K Φ cit)) (hg : PG X tg (tG X.K ctg)) (hb : PSs X sts (tSs X.K Φ ret body)) (hs : ∀ x, foldedSetIterable iter X.env x = pure x) :
    PS X (.For tg iter sts [] pos) (tS X.K Φ ret (.for_ ctg cit body)) :=
  (ps_for (by rw [hx]; exact PassesOwn.never) hc hi hg hb hs).wk fun Ed σ H ⟨F0, H0, F, env, own, out, r, s, ek, ee, q⟩ => by
    unfold ck at ek
    obtain ⟨o, rfl⟩ := endO_some ek
    obtain ⟨hl, ⟨r', ec, el⟩, rfl⟩ := endO_get ek
    unfold ex at ee
    cases e1 : evI Φ cit env with
    | none => rw [e1] at ee; cases ee
    | some xs =>
      rw [e1] at ee
      obtain ⟨F1, s1, k1⟩ := s.drop (tkI cit)
      exact ⟨F1, env, _, xs, s1.st, s1.gr.dom, free_drop, e1, fun F2 H2 J g yl => for_core (s1.grow g) hl ec el yl ee (q.at (k1.trans g.kp))⟩
theorem asBool_of {o : Option D} {j : Bool} (h : asBool o = some j) : o = some (.bl j) := by
  unfold asBool at h
  split at h
  · cases h; rfl
  · cases h
theorem p_while {n : Nat} {body : CSs} (hx : X.xe = fun _ _ => False) (hc : Snd X Φ e c) (hb : PSs X sts (tSs X.K Φ ret body)) :
    PS X (.While e sts [] pos) (tS X.K Φ ret (.whl n c body)) :=
  (ps_while (by rw [hx]; exact PassesOwn.never) hc.q hb).wk fun Ed σ H ⟨F0, H0, F, env, own, out, r, s, ek, ee, q⟩ => by
    unfold ck at ek
    obtain ⟨o, rfl⟩ := endO_some ek
    obtain ⟨hl, ⟨r', ec, el⟩, rfl⟩ := endO_get ek
    unfold ex at ee
    generalize ho2 : midO (dropO own (tk c)) (cks (frs Φ) ret body (dropO own (tk c))) = o2 at hl ec el q
    obtain ⟨F3, s3, k3⟩ := s.le hl
    refine ⟨fun m σ' H' => ∃ (F' : AP) (env' : En), Stt X.K F0 H0 F' H' σ' env' o2 ∧ Kp F H F' H' ∧ whileL (fun env' => asBool (ev Φ c env')) (fun env' => exs Φ body env') m env' = some out, ⟨n, F3, env, s3, k3, ee⟩, ?_⟩
    rintro m σ' H' ⟨F', env', s', k', el'⟩
    cases m with
    | zero => cases el'
    | succ m =>
      unfold whileL at el'
      obtain ⟨F4, s4, k4⟩ := s'.drop (tk c)
      cases et : asBool (ev Φ c env') with
      | none => rw [et] at el'; cases el'
      | some j =>
        rw [et] at el'
        refine s4.evQ free_drop (asBool_of et) fun F5 H5 g5 s5 => ?_
        cases j with
        | false =>
          cases el'
          exact iteF (q F5 H5 σ' ((k'.trans k4).trans g5.kp) s5)
        | true =>
          simp only at el'
          cases eb : exs Φ body env' with
          | none => rw [eb] at el'; cases el'
          | some ob =>
            rw [eb] at el'
            refine iteT ⟨fun σ7 H7 => ∃ (F7 : AP) (env7 : En), Stt X.K F0 H0 F7 H7 σ7 env7 o2 ∧ Kp F H F7 H7 ∧ whileL (fun env' => asBool (ev Φ c env')) (fun env' => exs Φ body env') m env7 = some out, fun σ7 H7 ⟨F7, env7, z⟩ => ⟨m, Nat.lt_succ_self m, F7, env7, z⟩, F0, H0, F5, env', _, ob, r', s5, ec, eb, ?_⟩
            cases ob with
            | rt d => cases el'; exact Post.at (out := .rt d) (r := none) ((k'.trans k4).trans g5.kp) q
            | nx env8 =>
              intro F8 H8 σ8 k8 s8
              cases r' with
              | none => exact s8.elim
              | some o3 =>
                obtain ⟨F9, s9, k9⟩ := Stt.le s8 (el o3 rfl)
                exact ⟨F9, env8, s9, (((k'.trans k4).trans g5.kp).trans k8).trans k9, el'⟩

/-! ### list comprehensions -/
theorem s_lc {elt tg iter : Expr} {ifs : List Expr} {scope : Scope} {own : List (Str × Nat)} {ctg : Tg} {cit : CIt} {celt : CE} {cs : CEs} (hc : X.calm = true) (nd : X.N.Nodup) (hi : PI X tg iter (tI X.K Φ cit)) (ok : BlkOk X.N X.env.scope scope own)
    (hg : ∀ (s : Shared) (H : Hp) (C : Addr) (cl : List (Str × Addr)) (fp : List Addr), PG (X.blk s H scope (compEnvC scope cl C X.env) fp) tg (tG X.K ctg)) (ht : ∀ (s : Shared) (H : Hp) (C : Addr) (cl : List (Str × Addr)) (fp : List Addr), PTs (X.blk s H scope (compEnvC scope cl C X.env) fp) ifs (tC1 X.K Φ cs))
    (he : ∀ (s : Shared) (H : Hp) (C : Addr) (cl : List (Str × Addr)) (fp : List Addr), PE (X.blk s H scope (compEnvC scope cl C X.env) fp) elt (tT X.K Φ celt)) (hj : ∀ j ∈ tgI ctg, j ∈ own.map (·.2)) (hs : ∀ x, foldedSetIterable iter X.env x = pure x) :
    Snd X Φ (.ListComp elt [⟨tg, iter, ifs, 0⟩] scope pos) (.lc celt ctg cit cs (own.map (·.2))) :=
  Snd.of ((pe_lc hc nd hi ok hg ht (fun s H C cl fp => froz (he s H C cl fp)) hs).wk fun σ H Q h => lc_ok hj h) rfl
theorem p_setLc {i : Nat} {y : Str} {py spos : Pos} {elt tg iter : Expr} {ifs : List Expr} {scope : Scope} {own : List (Str × Nat)} {ctg : Tg} {cit : CIt} {celt : CE} {cs : CEs} (hc : X.calm = true) (nd : X.N.Nodup) (hy : X.N[i]? = some y) (hyl : X.env.scope.names.lookup y = some .local)
    (hsw : swapsWith (.ListComp elt [⟨tg, iter, ifs, 0⟩] scope pos) (some (.Name y py)) spos.line X.env = pure true) (hi : PI X tg iter (tI X.K Φ cit)) (ok : BlkOk X.N X.env.scope scope own)
    (hg : ∀ (s : Shared) (H : Hp) (C : Addr) (cl : List (Str × Addr)) (fp : List Addr), PG (X.blk s H scope (compEnvC scope cl C X.env) fp) tg (tG X.K ctg)) (ht : ∀ (s : Shared) (H : Hp) (C : Addr) (cl : List (Str × Addr)) (fp : List Addr), PTs (X.blk s H scope (compEnvC scope cl C X.env) fp) ifs (tC1 X.K Φ cs))
    (he : ∀ (s : Shared) (H : Hp) (C : Addr) (cl : List (Str × Addr)) (fp : List Addr), PE (X.blk s H scope (compEnvC scope cl C X.env) fp) elt (tT X.K Φ celt)) (hj : ∀ j ∈ tgI ctg, j ∈ own.map (·.2)) (hs : ∀ x, foldedSetIterable iter X.env x = pure x) :
    PS X (.Assign [.Name y py] (.ListComp elt [⟨tg, iter, ifs, 0⟩] scope pos) spos) (tS X.K Φ ret (.asg i (.lc celt ctg cit cs (own.map (·.2))))) :=
  (ps_setLc hc nd hy hyl hsw hi ok hg ht (fun s H C cl fp => froz (he s H C cl fp)) hs).wk fun Ed σ H h => lc_ok hj (asg_wk h)
end
end Pv

/-! Pv10b: a dict is walked: locked while the loop runs. -/
namespace Pv
open PySem PySem.Spec PyProof.Rows L2
/-- the base, with the lock -/
def lockH (H0 : Hp) (d : Addr) (o : HO) : Hp := fun b => if b = d then (match H0 d with
  | none => none
  | some _ => some o) else H0 b
section
variable {K : PySem.W.Frag} {F0 F F' : AP} {H0 H H' : Hp} {σ : L2.St} {env : En} {own : Ow} {d : Addr} {o : Obj} {kvs : List (Key × V)}
theorem lockH_ne {b : Addr} {x : HO} (h : b ≠ d) : lockH H0 d x b = H0 b := if_neg h
theorem lockH_none {x : HO} (b : Addr) : lockH H0 d x b = none ↔ H0 b = none := by
  unfold lockH
  by_cases h : b = d
  · subst h
    rw [if_pos rfl]
    cases H0 b <;> simp
  · rw [if_neg h]
theorem lockH_at {x y : HO} (h : lockH H0 d x d = some y) : y = x ∧ ∃ z, H0 d = some z := by
  unfold lockH at h
  rw [if_pos rfl] at h
  cases e : H0 d with
  | none => rw [e] at h; cases h
  | some z => rw [e] at h; cases h; exact ⟨rfl, z, rfl⟩
theorem Kp.lockK (e : H d = some (.dK kvs)) : Kp F H F (upd H d (.frz o (.dK kvs))) := ⟨fun _ h => h, fun a x f ex => by
  by_cases h : a = d
  · subst h
    rw [e] at ex
    cases ex
    exact ⟨_, upd_same, rfl⟩
  · exact ⟨x, by rw [upd_ne h]; exact ex, rfl⟩, fun a o' u f ex => by
  by_cases h : a = d
  · subst h
    rw [e] at ex
    cases ex
  · rw [upd_ne h]; exact ex⟩
theorem Gr.lockK (g : Gr F0 H0 F H) (e : H d = some (.dK kvs)) : Gr F0 (lockH H0 d (.frz o (.dK kvs))) F (upd H d (.frz o (.dK kvs))) := ⟨g.sub, fun a f => (g.new a f).imp id fun n => (lockH_none a).mpr n, fun b x ex => by
  by_cases h : b = d
  · subst h
    rw [(lockH_at ex).1, upd_same]
  · rw [lockH_ne h] at ex
    rw [upd_ne h]; exact g.same b x ex, fun a f => by
  by_cases h : a = d
  · rw [h, upd_same]; exact fun z => nomatch z
  · rw [upd_ne h]; exact g.dom a f⟩
theorem Gr.unlockK (g : Gr F0 (lockH H0 d (.frz o (.dK kvs))) F H) (h0 : ∀ x, H0 d = some x → x = .dK kvs) : Gr F0 H0 F (upd H d (.dK kvs)) := ⟨g.sub, fun a f => (g.new a f).imp id fun n => (lockH_none a).mp n, fun b x ex => by
  by_cases h : b = d
  · subst h
    rw [h0 x ex, upd_same]
  · rw [upd_ne h]; exact g.same b x (by rw [lockH_ne h]; exact ex), fun a f => by
  by_cases h : a = d
  · rw [h, upd_same]; exact fun z => nomatch z
  · rw [upd_ne h]; exact g.dom a f⟩
theorem Stt.lockK (s : Stt K F0 H0 F H σ env own) (f : F d) (e : H d = some (.dK kvs)) : Stt K F0 (lockH H0 d (.frz o (.dK kvs))) F (upd H d (.frz o (.dK kvs))) σ env own := by
  refine ⟨s.st.kp (Kp.lockK e) fun i a ow => ?_, s.gr.lockK e, fun i a ow => (lockH_none a).mpr (s.nw i a ow)⟩
  obtain ⟨nf, _, _, _⟩ := s.st.owns ow
  exact ⟨upd_ne fun z => nf (z ▸ f), nf⟩
theorem Kp.unlockK (e : H d = some (.frz o (.dK kvs))) : Kp (fun a => F a ∧ a ≠ d) H F (upd H d (.dK kvs)) := ⟨fun _ h => h.1, fun a x f ex => ⟨x, by rw [upd_ne f.2]; exact ex, rfl⟩, fun a o' u f ex => by rw [upd_ne f.2]; exact ex⟩
/-- data stays readable when the lock goes -/
theorem unK_rd {a : Addr} {x : HO} (e : H d = some (.frz o (.dK kvs))) (ex : H a = some x) : ∃ y, upd H d (.dK kvs) a = some y ∧ un y = un x := by
  by_cases h : a = d
  · subst h
    rw [e] at ex
    cases ex
    exact ⟨_, upd_same, rfl⟩
  · exact ⟨x, by rw [upd_ne h]; exact ex, rfl⟩
end
section
variable {K : PySem.W.Frag} {F : AP} {H H' : Hp}
mutual
theorem Rp.rd (k : ∀ a x, F a → H a = some x → ∃ y, H' a = some y ∧ un y = un x) (kR : ∀ a xs, F a → Rd H a (.lst xs) → Rd H' a (.lst xs)) : ∀ {v : V} {d : D}, Rp K F H v d → Rp K F H' v d
  | _, _, .non => .non
  | _, _, .bl b => .bl b
  | _, _, .int i => .int i
  | _, _, .str x => .str x
  | _, _, .lst f e hs => by
    obtain ⟨y, e1, e2⟩ := k _ _ f e
    have e2 : un y = .lst _ := e2
    rw [un_lst e2] at e1
    exact .lst f e1 (RpL.rd k kR hs)
  | _, _, .tup f e hs => by
    obtain ⟨y, e1, e2⟩ := k _ _ f e
    have e2 : un y = .tup _ := e2
    rw [un_tup e2] at e1
    exact .tup f e1 (RpL.rd k kR hs)
  | _, _, .dk f e u hs => by
    obtain ⟨y, e1, e2⟩ := k _ _ f e
    exact .dk f e1 (e2.trans u) (RpK.rd k kR hs)
  | _, _, .dt f e u hs => by
    obtain ⟨y, e1, e2⟩ := k _ _ f e
    exact .dt f e1 (e2.trans u) (RpT.rd k kR hs)
  | _, _, .scr h => .scr (h.imp (fun ⟨f, r⟩ => ⟨f, kR _ _ f r⟩) id)
theorem RpL.rd (k : ∀ a x, F a → H a = some x → ∃ y, H' a = some y ∧ un y = un x) (kR : ∀ a xs, F a → Rd H a (.lst xs) → Rd H' a (.lst xs)) : ∀ {v : List V} {d : List D}, RpL K F H v d → RpL K F H' v d
  | _, _, .nil => .nil
  | _, _, .cons a b => .cons (Rp.rd k kR a) (RpL.rd k kR b)
theorem RpK.rd (k : ∀ a x, F a → H a = some x → ∃ y, H' a = some y ∧ un y = un x) (kR : ∀ a xs, F a → Rd H a (.lst xs) → Rd H' a (.lst xs)) : ∀ {v : List (Key × V)} {d : List (Key × D)}, RpK K F H v d → RpK K F H' v d
  | _, _, .nil => .nil
  | _, _, .cons a b => .cons (Rp.rd k kR a) (RpK.rd k kR b)
theorem RpT.rd (k : ∀ a x, F a → H a = some x → ∃ y, H' a = some y ∧ un y = un x) (kR : ∀ a xs, F a → Rd H a (.lst xs) → Rd H' a (.lst xs)) : ∀ {v : List (List Key × V)} {d : List (List Key × D)}, RpT K F H v d → RpT K F H' v d
  | _, _, .nil => .nil
  | _, _, .cons a b => .cons (Rp.rd k kR a) (RpT.rd k kR b)
end
end
section
variable {K : PySem.W.Frag} {F0 F F' : AP} {H0 H H' : Hp} {σ : L2.St} {env : En} {own : Ow} {d : Addr} {o : Obj} {kvs : List (Key × V)}
theorem OwAt.rd (k : ∀ a x, F a → H a = some x → ∃ y, H' a = some y ∧ un y = un x) (kR : ∀ a xs, F a → Rd H a (.lst xs) → Rd H' a (.lst xs)) {a : Addr} {dd : D} (w : OwAt K F H a dd) (e : H' a = H a) : OwAt K F H' a dd := by
  cases dd with
  | lst ds => obtain ⟨xs, e1, r⟩ := w; exact ⟨xs, by rw [e]; exact e1, RpL.rd k kR r⟩
  | dk es => obtain ⟨xs, e1, r⟩ := w; exact ⟨xs, by rw [e]; exact e1, RpK.rd k kR r⟩
  | dt es => obtain ⟨xs, e1, r⟩ := w; exact ⟨xs, by rw [e]; exact e1, RpT.rd k kR r⟩
  | _ => exact w.elim
theorem St.rd (s : St K F H σ env own) (k : ∀ a x, F a → H a = some x → ∃ y, H' a = some y ∧ un y = un x) (kR : ∀ a xs, F a → Rd H a (.lst xs) → Rd H' a (.lst xs)) (ho : ∀ i a, Owns σ env own i a → H' a = H a) : St K F H' σ env own := by
  refine ⟨s.len, s.lenO, fun i => ?_, s.apart⟩
  have q := s.slot i
  unfold SlotOk at q ⊢
  cases e : env.getD i none with
  | none => trivial
  | some dd =>
    rw [e] at q
    simp only at q ⊢
    split at q
    · rename_i c
      rw [if_pos c]
      obtain ⟨a, e1, f, w⟩ := q
      rw [Bool.and_eq_true] at c
      exact ⟨a, e1, f, w.rd k kR (ho i a ⟨c.1, ⟨dd, e, c.2⟩, e1⟩)⟩
    · rename_i c
      rw [if_neg c]
      obtain ⟨v, e1, r⟩ := q
      exact ⟨v, e1, r.rd k kR⟩
theorem unK_R (e : H d = some (.frz o (.dK kvs))) {a : Addr} {xs : List V} (r : Rd H a (.lst xs)) : Rd (upd H d (.dK kvs)) a (.lst xs) := by
  have h : a ≠ d := fun z => by
    subst z
    rcases r with r | ⟨o', r⟩ <;> (rw [e] at r; cases r)
  rcases r with r | ⟨o', r⟩
  · exact .inl (by rw [upd_ne h]; exact r)
  · exact .inr ⟨o', by rw [upd_ne h]; exact r⟩
theorem Stt.unlockK (s : Stt K F0 (lockH H0 d (.frz o (.dK kvs))) F H σ env own) (f : F d) (e : H d = some (.frz o (.dK kvs))) (h0 : ∀ x, H0 d = some x → x = .dK kvs) : Stt K F0 H0 F (upd H d (.dK kvs)) σ env own := by
  refine ⟨s.st.rd (fun a x _ ex => unK_rd e ex) (fun a xs _ r => unK_R e r) fun i a ow => ?_, s.gr.unlockK h0, fun i a ow => (lockH_none a).mp (s.nw i a ow)⟩
  obtain ⟨nf, _, _, _⟩ := s.st.owns ow
  exact upd_ne fun z => nf (z ▸ f)
theorem RpO.unlockK {r : Bool} {v : V} {dd : D} (h : RpO K r F H (fun a => lockH H0 d (.frz o (.dK kvs)) a = none) v dd) (f : F d) (e : H d = some (.frz o (.dK kvs))) : RpO K r F (upd H d (.dK kvs)) (fun a => H0 a = none) v dd := by
  unfold RpO at h ⊢
  split at h
  · rename_i c
    rw [if_pos c]
    obtain ⟨a, ea, n, nf, w⟩ := h
    exact ⟨a, ea, (lockH_none a).mp n, nf, w.rd (fun a x _ ex => unK_rd e ex) (fun a xs _ r => unK_R e r) (upd_ne fun z => nf (z ▸ f))⟩
  · rename_i c
    rw [if_neg c]
    exact h.rd (fun a x _ ex => unK_rd e ex) fun a xs _ r => unK_R e r
/-- what was kept while locked is kept behind the lock -/
theorem Kp.outK {F2 : AP} {H2 : Hp} (k : Kp F2 (upd H2 d (.frz o (.dK kvs))) F H) (e2 : H2 d = some (.dK kvs)) (e : H d = some (.frz o (.dK kvs))) : Kp F2 H2 F (upd H d (.dK kvs)) := ⟨k.sub, fun a x f ex => by
  by_cases h : a = d
  · subst h
    rw [e2] at ex
    cases ex
    exact ⟨_, upd_same, rfl⟩
  · obtain ⟨y, q1, q2⟩ := k.rd a x f (by rw [upd_ne h]; exact ex)
    exact ⟨y, by rw [upd_ne h]; exact q1, q2⟩, fun a o' u f ex => by
  by_cases h : a = d
  · subst h
    rw [e2] at ex
    cases ex
  · rw [upd_ne h]; exact k.fz a o' u f (by rw [upd_ne h]; exact ex)⟩
/-! ### items and keys of a locked dict -/
theorem RpK.get : ∀ {kvs : List (Key × V)} {es : List (Key × D)} {i : Nat} {k : Key} {dd : D}, RpK K F H kvs es → es[i]? = some (k, dd) → ∃ v, kvs[i]? = some (k, v) ∧ Rp K F H v dd
  | _, _, _, _, _, .nil, h => by simp at h
  | _, _, 0, _, _, .cons a b, h => by
    simp at h
    obtain ⟨rfl, rfl⟩ := h
    exact ⟨_, rfl, a⟩
  | _, _, i + 1, k, dd, .cons a b, h => RpK.get (i := i) b h
theorem key_kV (k : Key) : Rp K F H (kV k) (kD k) := by
  cases k with
  | inl i => exact .int i
  | inr x => exact .str x
theorem yl_items {es : List (Key × D)} (f : F d) (e : H d = some (.frz o (.dK kvs))) (r : RpK K F H kvs es) : Yl K F H (Iti d o kvs) (es.map fun kv => .tup [kD kv.1, kv.2]) := fun i F2 H2 k dm => by
  have e2 := k.fz _ _ _ f e
  refine ⟨fun dd ed => ?_, fun h => ⟨e2, by rw [rpK_len r]; rw [List.length_map] at h; exact h⟩⟩
  rw [List.getElem?_map] at ed
  cases ez : es[i]? with
  | none => rw [ez] at ed; cases ed
  | some kv =>
    rw [ez] at ed
    cases ed
    obtain ⟨kk, dv⟩ := kv
    obtain ⟨v, ev, rv⟩ := r.get ez
    refine ⟨⟨e2, (List.getElem?_eq_some_iff.mp ev).1⟩, fun x H3 y => ?_⟩
    obtain ⟨T, k', v', q1, rfl, nT, rfl⟩ := y
    rw [ev] at q1
    cases q1
    have g := Gr.laid (o := .tup [kV kk, v]) dm nT
    exact ⟨_, g, .tup (.inr rfl) upd_same (.cons (key_kV kk) (.cons ((rv.kp k).kp g.kp) .nil))⟩
theorem yl_keys {es : List (Key × D)} (f : F d) (e : H d = some (.frz o (.dK kvs))) (r : RpK K F H kvs es) : Yl K F H (Itk d o kvs) (es.map fun kv => kD kv.1) := fun i F2 H2 k dm => by
  have e2 := k.fz _ _ _ f e
  refine ⟨fun dd ed => ?_, fun h => ⟨e2, by rw [rpK_len r]; rw [List.length_map] at h; exact h⟩⟩
  rw [List.getElem?_map] at ed
  cases ez : es[i]? with
  | none => rw [ez] at ed; cases ed
  | some kv =>
    rw [ez] at ed
    cases ed
    obtain ⟨kk, dv⟩ := kv
    obtain ⟨v, ev, rv⟩ := r.get ez
    refine ⟨⟨e2, (List.getElem?_eq_some_iff.mp ev).1⟩, fun x H3 y => ?_⟩
    obtain ⟨rfl, k', v', q1, rfl⟩ := y
    rw [ev] at q1
    cases q1
    exact ⟨F2, Gr.refl dm, key_kV kk⟩
end
/-! ### the lock by itself -/
section
variable {X : Cx} {Φ : List Fn} {ret : Bool} {sts : List Stmt} {e : Expr} {c ca : CE} {pos : Pos}
def NoF (X : Cx) (d : Addr) : Prop := ∀ o' u', X.H_0 d ≠ some (.frz o' u')
/-- evaluated, then locked if it isn't -/
def tLk (X : Cx) (te : TE) : TE := fun σ H Q => te σ H fun v H1 => ∃ d, v = .ref d ∧ ((∃ o u, H1 d = some (.frz o u) ∧ Q v H1) ∨ ∃ u, H1 d = some u ∧ Mut (some u) ∧ (NoF X d → ∀ od, Q v (upd H1 d (.frz od u))))
theorem pe_lk {te : TE} (h : PE X e te) : PE X e (tLk X te) := ⟨fun pins s σ H Q I q => thn (h.run pins s σ H _ I q) fun w s1 ⟨v, H1, I1, r, d, ev, z⟩ => by
  rcases z with ⟨o, u, _, z⟩ | ⟨u, e1, mu, z⟩
  · exact ⟨v, H1, I1, r, z⟩
  · obtain ⟨od, I2⟩ := I1.lock e1 mu
    exact ⟨v, _, I2, r, z (I1.nofrz e1 mu) od⟩⟩
theorem tF_mono {K : PySem.W.Frag} {σ : L2.St} {H : Hp} {Q Q' : VK} (h : tF K Φ c σ H Q) (k : ∀ v H, Q v H → Q' v H) : tF K Φ c σ H Q' := by
  obtain ⟨F, env, own, d, h1, h2, h3, h4, h5⟩ := h
  exact ⟨F, env, own, d, h1, h2, h3, h4, fun F' H' v g r => k v H' (h5 F' H' v g r)⟩
theorem tLk_mono {σ : L2.St} {H : Hp} {Q Q' : VK} (h : tLk X (tF X.K Φ c) σ H Q) (k : ∀ v H, Q v H → Q' v H) : tLk X (tF X.K Φ c) σ H Q' := tF_mono h fun v H1 ⟨d, e1, z⟩ => ⟨d, e1, z.imp (fun ⟨o, u, e2, z⟩ => ⟨o, u, e2, k v _ z⟩) fun ⟨u, e2, mu, z⟩ => ⟨u, e2, mu, fun hn od => k v _ (z hn od)⟩⟩
/-- the lock goes at the end -/
def unl (X : Cx) (D : Ends) : Ends where
  nx := fun σ' H' => D.nx σ' H' ∨ ∃ d od u, H' d = some (.frz od u) ∧ NoF X d ∧ D.nx σ' (upd H' d u)
  rt := fun v H' => D.rt v H' ∨ ∃ d od u, H' d = some (.frz od u) ∧ NoF X d ∧ D.rt v (upd H' d u)
  bk := fun _ _ => False
  ct := fun _ _ => False
theorem ps_unl {st : Stmt} {t : TS} (h : PS X st t) : PS X st (fun D σ H => t (unl X D) σ H) := ⟨fun pins s σ H D I q => thn (h.run pins s σ H (unl X D) I q) fun f s1 z => by
  cases f with
  | next =>
    obtain ⟨σ', H', I2, z⟩ := z
    rcases z with z | ⟨d, od, u, e, hn, z⟩
    · exact ⟨σ', H', I2, z⟩
    · exact ⟨σ', _, I2.unlock e hn, z⟩
  | brk => obtain ⟨σ', H', I2, z⟩ := z; exact z.elim
  | cont => obtain ⟨σ', H', I2, z⟩ := z; exact z.elim
  | ret v =>
    obtain ⟨x, σ', H', I2, r, z⟩ := z
    rcases z with z | ⟨d, od, u, e, hn, z⟩
    · exact ⟨x, σ', H', I2, r, z⟩
    · exact ⟨x, σ', _, I2.unlock e hn, r, z⟩⟩
/-- a walked dict: the reading of its iterator J -/
theorem forD_core {ctg : Tg} {body : CSs} {Jf : Addr → Obj → List (Key × V) → It} {g : List (Key × D) → List D}
    (hY : ∀ {F : AP} {H : Hp} {d : Addr} {o : Obj} {kvs : List (Key × V)} {es : List (Key × D)}, F d → H d = some (.frz o (.dK kvs)) → RpK X.K F H kvs es → Yl X.K F H (Jf d o kvs) (g es))
    {F0 : AP} {H0 : Hp} {F : AP} {H : Hp} {σ : L2.St} {env : En} {own : Ow} {out : Out} {o2 : Ow} {r' : Option Ow} {es : List (Key × D)} {Ed : Ends} (s : Stt X.K F0 H0 F H σ env own) (e1 : ev Φ ca env = some (.dk es)) (hl : leO o2 (dropO own (tk ca)) = true) (ec : cks (frs Φ) ret body (tgO o2 ctg) = some r') (el : ∀ o3, r' = some o3 → leO o2 o3 = true)
    (ef : forL (forF Φ ctg body) (g es) env = some out) (q : Post X.K F0 H0 F H ret (some o2) Ed out) :
    tLk X (tF X.K Φ ca) σ H fun x H1 => ∃ d o kvs, x = .ref d ∧ H1 d = some (.frz o (.dK kvs)) ∧ ∃ W : Nat → Nat → L2.St → Hp → Prop, (∃ m, W 0 m σ H1) ∧ ∀ i m σ H, W i m σ H →
      ((Jf d o kvs).stop i H ∧ (unl X Ed).nx σ H) ∨ ((Jf d o kvs).go i H ∧ ∃ N : L2.St → Hp → Prop, (∀ σ' H', N σ' H' → ∃ m', m' < m ∧ W (i + 1) m' σ' H') ∧ ∀ x H', (Jf d o kvs).yld i H x H' → tG X.K ctg x σ H' fun σ2 H2 => tSs X.K Φ ret body { (unl X Ed) with nx := N, ct := N, bk := (unl X Ed).nx } σ2 H2) := by
  obtain ⟨F1, s1, k1⟩ := s.drop (tk ca)
  refine s1.evF free_drop e1 fun F2 H2 v g2 s2 rv => ?_
  cases rv with
  | @dk a u kvs es f eH hu r =>
    refine ⟨a, rfl, ?_⟩
    have hu2 : u = .dK kvs ∨ ∃ o, u = .frz o (.dK kvs) := by
      cases u with
      | frz o' u' =>
        cases u' with
        | dK k => exact .inr ⟨o', by cases hu; rfl⟩
        | _ => cases hu
      | dK k => cases hu; exact .inl rfl
      | _ => cases hu
    rcases hu2 with rfl | ⟨o, rfl⟩
    · refine .inr ⟨_, eH, trivial, fun hn od => ⟨a, od, kvs, rfl, upd_same, ?_⟩⟩
      have s3 := s2.lockK (o := od) f eH
      have k3 : Kp F2 H2 F2 (upd H2 a (.frz od (.dK kvs))) := Kp.lockK eH
      have h0 : ∀ x, H0 a = some x → x = .dK kvs := fun x ex => by
        have := s2.gr.same a x ex
        rw [eH] at this
        exact (Option.some.inj this).symm
      refine for_core s3 hl ec el (hY f upd_same (r.kp k3)) ef ?_
      cases out with
      | rt dd =>
        intro F' H' w kp gr rw_
        have eL := kp.fz a od _ f upd_same
        exact .inr ⟨a, od, .dK kvs, eL, hn, q F' _ w ((k1.trans g2.kp).trans (kp.outK eH eL)) (gr.unlockK h0) (rw_.unlockK (kp.sub a f) eL)⟩
      | nx env' =>
        intro F' H' σ' kp s'
        have s' : Stt X.K F0 (lockH H0 a (.frz od (.dK kvs))) F' H' σ' env' o2 := s'
        have eL := kp.fz a od _ f upd_same
        exact .inr ⟨a, od, .dK kvs, eL, hn, q F' _ σ' ((k1.trans g2.kp).trans (kp.outK eH eL)) (s'.unlockK (kp.sub a f) eL h0)⟩
    · refine .inl ⟨o, _, eH, a, o, kvs, rfl, eH, ?_⟩
      refine for_core s2 hl ec el (hY f eH r) ef ?_
      cases out with
      | rt dd => exact fun F' H' w kp gr rw_ => .inl (q F' H' w ((k1.trans g2.kp).trans kp) gr rw_)
      | nx env' => exact fun F' H' σ' kp s' => .inl (q F' H' σ' ((k1.trans g2.kp).trans kp) s')
theorem p_items {o : Expr} {elts : List Expr} {kk : Nat} {tpos apos cpos : Pos} {ctg : Tg} {body : CSs} (hx : X.xe = fun _ _ => False) (hc : X.calm = true) (ho : noSuper o = true) (hl : (apos.endLine == cpos.line) = true) (ha : Snd X Φ o ca) (hg : PG X (.Tuple elts kk tpos) (tG X.K ctg)) (hb : PSs X sts (tSs X.K Φ ret body)) :
    PS X (.For (.Tuple elts kk tpos) (.Call (.Attribute o "items" apos) [] [] cpos) sts [] pos) (tS X.K Φ ret (.for_ ctg (.items ca) body)) :=
  (ps_unl (ps_for (by rw [hx]; exact PassesOwn.never) hc (pi_items (pe_lk (froz ha.t)) (base_of ho) hl) hg hb fun _ => rfl)).wk fun Ed σ H ⟨F0, H0, F, env, own, out, r, s, ek, ee, q⟩ => by
    unfold ck at ek
    obtain ⟨o', rfl⟩ := endO_some ek
    obtain ⟨hl, ⟨r', ec, el⟩, rfl⟩ := endO_get ek
    unfold ex at ee
    unfold evI at ee
    cases e1 : ev Φ ca env with
    | none => rw [e1] at ee; cases ee
    | some x =>
      rw [e1] at ee
      cases x with
      | dk es =>
        have ee : forL (forF Φ ctg body) (es.map fun kv => .tup [kD kv.1, kv.2]) env = some out := ee
        exact forD_core (Jf := Iti) (g := fun es => es.map fun kv => .tup [kD kv.1, kv.2]) (fun f e r => yl_items f e r) s e1 hl ec el ee q
      | _ => cases ee
theorem p_keys {e tg : Expr} {ctg : Tg} {body : CSs} (hx : X.xe = fun _ _ => False) (hc : X.calm = true) (hs : ∀ x, foldedSetIterable e X.env x = pure x) (ha : Snd X Φ e ca) (hg : PG X tg (tG X.K ctg)) (hb : PSs X sts (tSs X.K Φ ret body)) :
    PS X (.For tg e sts [] pos) (tS X.K Φ ret (.for_ ctg (.keys ca) body)) :=
  (ps_unl (ps_for (by rw [hx]; exact PassesOwn.never) hc (pi_keys (pe_lk (froz ha.t))) hg hb hs)).wk fun Ed σ H ⟨F0, H0, F, env, own, out, r, s, ek, ee, q⟩ => by
    unfold ck at ek
    obtain ⟨o', rfl⟩ := endO_some ek
    obtain ⟨hl, ⟨r', ec, el⟩, rfl⟩ := endO_get ek
    unfold ex at ee
    unfold evI at ee
    cases e1 : ev Φ ca env with
    | none => rw [e1] at ee; cases ee
    | some x =>
      rw [e1] at ee
      cases x with
      | dk es =>
        have ee : forL (forF Φ ctg body) (es.map fun kv => kD kv.1) env = some out := ee
        refine (?_ : iKeys (tLk X (tF X.K Φ ca)) σ H _)
        have := forD_core (Ed := Ed) (Jf := Itk) (g := fun es => es.map fun kv => kD kv.1) (fun f e r => yl_keys f e r) s e1 hl ec el ee q
        refine tLk_mono this fun v H1 h => ?_
        obtain ⟨d, o, kvs, e1, e2, e3⟩ := h
        exact ⟨d, o, e1, .inl ⟨kvs, e2, e3⟩⟩
      | _ => cases ee
end
end Pv

/-! Pv10c: a dict's display with one pair. -/
namespace Pv
open PySem PySem.Spec PyProof.Rows L2
section
variable {X : Cx} {Φ : List Fn} {a b : Expr} {ca cb : CE} {pos : Pos}
theorem s_dsp (ha : Snd X Φ a ca) (hb : Snd X Φ b cb) : Snd X Φ (.Dict [some a] [b] pos) (.dsp false ca cb) := by
  refine Snd.of ((pe_disp (pps_cons (froz ha.t) (froz hb.t) pps_nil) rfl rfl (by simp) (by simp)).wk fun σ H Q ⟨F, env, own, d, st, dm, fr, e, k⟩ => ?_) rfl
  have e' : ev Φ (.dsp false ca cb) env = some d := e
  unfold ev at e'
  cases e1 : ev Φ ca env with
  | none => rw [e1] at e'; cases e'
  | some x =>
    rw [e1] at e'
    simp only at e'
    cases e2 : ev Φ cb env with
    | none => rw [e2] at e'; cases e'
    | some y =>
      rw [e2] at e'
      have e' : dput (.dk []) x y = some d := e'
      unfold dput at e'
      simp only at e'
      cases e3 : key? x with
      | none => rw [e3] at e'; cases e'
      | some ky =>
        rw [e3] at e'
        simp only at e'
        split at e'
        case isFalse => cases e'
        cases e'
        intro p np
        have g0 : Gr F H F (upd H p (.dK [])) := Gr.laid' dm np
        have nF : ¬ F p := fun f => dm p f np
        refine ⟨F, env, own, x, st.gr g0, g0.dom, Free.l fr, e1, fun F1 H1 v g1 r1 => ⟨F1, env, own, y, (st.gr g0).gr g1, g1.dom, Free.r fr, e2, fun F2 H2 w g2 r2 => ?_⟩⟩
        have h1 : H1 p = some (.dK []) := g1.same _ _ upd_same
        have h2 : H2 p = some (.dK []) := g2.same _ _ h1
        have nF1 : ¬ F1 p := fun f => (g1.new p f).elim nF fun z => by rw [upd_same] at z; cases z
        have nF2 : ¬ F2 p := fun f => (g2.new p f).elim nF1 fun z => by rw [h1] at z; cases z
        refine ⟨h2, [(ky, w)], ?_, by simp, ?_⟩
        · rw [key_rp' e3 r1]; rfl
        · exact k F2 _ _ (((g0.trans g1).trans g2).write np nF2) (RpO.own np nF2 ⟨[(ky, w)], upd_same, .cons (r2.kp (Kp.write nF2)) .nil⟩)
end
end Pv

/-! Pv10d: a dict's display with one pair, its key a tuple. -/
namespace Pv
open PySem PySem.Spec PyProof.Rows L2
section
variable {X : Cx} {Φ : List Fn} {a b : Expr} {ca cb : CE} {pos : Pos}
/-- {k: v}, k a tuple -/
def tDsT (tk tv : TE) : TE := fun σ H Q => ∀ p, H p = none → tPairs [(tk, tv)] σ (upd H p (.dT [])) fun ps H2 => ∃ x y, ps = [(x, y)] ∧ H2 p = some (.dT []) ∧ ∃ (ks : List Key) (c : Addr), x = .ref c ∧ H2 c = some (.tup (ks.map kV)) ∧ Q (.ref p) (upd H2 p (.dT (putK [] ks y)))
theorem pe_dsT {tk tv : TE} (hu : X.A.units + 65 < cLine) (hk : PE X a tk) (hv : PE X b tv) : PE X (.Dict [some a] [b] pos) (tDsT tk tv) := by
  refine ⟨fun pins s σ H Q I q => ?_⟩
  have hn := I.hok.fresh (Nat.le_refl s.heap.objs.size)
  have I1 := I.laid (a := s.heap.objs.size) (o := .dT []) (h' := s.heap.push { cls := .type "dict", data := .dict #[] }) (t' := s.toks) (fun _ _ z => Heap.get?_push_of_some _ z) (Nat.le_refl _) (dt_empty s.heap I.big)
  refine wpAny_Dict_any rfl rfl (by simp) (by simp) (thn ((pps_cons hk hv pps_nil).run pins _ σ _ _ I1 (q s.heap.objs.size hn)) fun us s2 ⟨ps, H2, I2, rel, x, y, e1, e2, ks, c, e3, e4, q2⟩ => ?_)
  subst e1
  subst e3
  cases rel with
  | @cons _ z _ zs r0 rest =>
    cases rest
    obtain ⟨ku, vu⟩ := z
    obtain ⟨r1, r2⟩ := r0
    cases (show ku = Value.ref c from r1)
    obtain ⟨zz, hd, xs, rel, dd⟩ := dt_of I2.hok e2
    cases rel
    unfold storeAll
    rw [List.forIn_cons]
    have room : (tupleKind (mixKind X.prog X.w)).room X.A := (by omega : X.A.units < cLine)
    refine wpAny_bind (wpAny_bind (wpAny_dictSet_heap (knd := tupleKind (mixKind X.prog X.w)) (hsz := Nat.zero_le _) room (key_of I2.hok e4) dd fun h' dd' hs => wpAny_pure ?_))
    show wpAny _ _ (forIn [] PUnit.unit _) _ _ _
    rw [List.forIn_nil]
    refine wpAny_pure ⟨.ref s.heap.objs.size, _, ?_, rfl, q2⟩
    obtain ⟨w, es, ep, hw, h2, h3, h4, _, h5⟩ := dd'
    refine d_write I2 (by rw [e2]; exact True.intro) hs ⟨w, hw⟩ ⟨(by have := length_putK ([] : List (List Key × V)) ks y; rw [List.length_nil] at this; exact Nat.le_trans this (by decide)), hd, _, (KT.put (kvs := []) (xs := []) (H := H2) .nil ks e4 r2).keeps fun c' ys ec => ?_, w, es, ep, hw, h2, h3, h4, h5⟩
    rw [upd_ne (ne_of ec e2 (fun z => nomatch z))]
    exact ec
theorem s_dspT (hu : X.A.units + 65 < cLine) (ha : Snd X Φ a ca) (hb : Snd X Φ b cb) : Snd X Φ (.Dict [some a] [b] pos) (.dsp true ca cb) := by
  refine Snd.of ((pe_dsT hu (froz ha.t) (froz hb.t)).wk fun σ H Q ⟨F, env, own, d, st, dm, fr, e, k⟩ => ?_) rfl
  have e' : ev Φ (.dsp true ca cb) env = some d := e
  unfold ev at e'
  cases e1 : ev Φ ca env with
  | none => rw [e1] at e'; cases e'
  | some x =>
    rw [e1] at e'
    simp only at e'
    cases e2 : ev Φ cb env with
    | none => rw [e2] at e'; cases e'
    | some y =>
      rw [e2] at e'
      have e' : dput (.dt []) x y = some d := e'
      cases x with
      | tup zs =>
        unfold dput at e'
        simp only at e'
        cases e3 : keys? zs with
        | none => rw [e3] at e'; cases e'
        | some ky =>
          rw [e3] at e'
          simp only at e'
          split at e'
          case isFalse => cases e'
          cases e'
          intro p np
          have g0 : Gr F H F (upd H p (.dT [])) := Gr.laid' dm np
          have nF : ¬ F p := fun f => dm p f np
          refine ⟨F, env, own, .tup zs, st.gr g0, g0.dom, Free.l fr, e1, fun F1 H1 v g1 r1 => ⟨F1, env, own, y, (st.gr g0).gr g1, g1.dom, Free.r fr, e2, fun F2 H2 w g2 r2 => ?_⟩⟩
          have h1 : H1 p = some (.dT []) := g1.same _ _ upd_same
          have h2 : H2 p = some (.dT []) := g2.same _ _ h1
          have nF1 : ¬ F1 p := fun f => (g1.new p f).elim nF fun z => by rw [upd_same] at z; cases z
          have nF2 : ¬ F2 p := fun f => (g2.new p f).elim nF1 fun z => by rw [h1] at z; cases z
          cases r1 with
          | @tup c vs _ fc ec rc =>
            have ek := keys_rp e3 rc
            refine ⟨.ref c, w, rfl, h2, ky, c, rfl, by rw [g2.same _ _ ec, ek], ?_⟩
            exact k F2 _ _ (((g0.trans g1).trans g2).write np nF2) (RpO.own np nF2 ⟨_, upd_same, (rpT_put ky r2 .nil).kp (Kp.write nF2)⟩)
      | _ => cases e'
end
end Pv

/-! Pv7s: set(list of ints), for sorted(set(..)). -/
namespace Pv
open PySem PySem.Spec PyProof.Rows L2
section
variable {P : Program} {w : World} {A : Around} {E : Value → Shared → Prop} {s : Shared}
theorem setL_ints {la : Addr} {its : Array Value} (zs : List Int) {R : Value → Shared → Prop} (nh : A.handled = none) (isl : s.heap.IsList la its) (ia : IntsAre its.toList zs) (few : zs.length + 1 < scanBound)
    (go : ∀ (h2 : Heap) (tk2 c2 : Nat), SetR w h2 s.heap.objs.size (fun j => decide (j ∈ zs)) c2 → c2 ≤ zs.length → (∀ b o, s.heap.get? b = some o → h2.get? b = some o) → R (.ref s.heap.objs.size) { s with heap := h2, toks := tk2 }) :
    wpAny (model P w) A (call (.type "set") [.ref la]) R E s := by
  have zl : its.size = zs.length := by
    have e := IntsAre.length ia
    rw [Array.length_toList] at e; exact e
  obtain ⟨c, tl, hmro⟩ := F.called_set.mro
  have made := F.called_set.made
  have isub := F.called_set.sub
  refine wpAny_call (codeAny_of_tree ?_)
  show wpAny _ _ (callAny (.type "set") _) _ _ _
  refine wpAny_pure ⟨Code.quiet_builtin _ (by decide +kernel), codeAny_builtin F.entry_type_call ?_⟩
  rw [Around.under_plain (weight_type_call_type "set" [.ref la] []) rfl]
  have n1 := F.called_set.notType
  have n2 := F.called_set.canCreate
  have tc := F.typeCall_set_1 (.ref la)
  repeat (any_goals (first | assumption | wp_step))
  refine codeAny_mono (code_set_led1 (.ref la) (E := E) (Q₁ := fun ob s2 => ob = .ref s.heap.objs.size ∧ s2 = { s with heap := s.heap.push (foS w) }) ⟨rfl, rfl⟩) fun r s2 hr => ?_
  cases r with
  | error er => exact hr
  | ok fl =>
    cases fl with
    | ret ob =>
      obtain ⟨rfl, rfl⟩ := hr
      have gS : (s.heap.push (foS w)).get? s.heap.objs.size = some (foS w) := Heap.get?_push_size _ rfl
      have tS' : Shared.TypeIs { s with heap := s.heap.push (foS w) } (.ref s.heap.objs.size) "set" := ⟨_, gS, rfl⟩
      have iLk := F.called_set.init.lookup
      have iBd := F.called_set.init.bind (.ref s.heap.objs.size)
      repeat (any_goals (first | assumption | wp_step))
      refine codeAny_mono (codeAny_call_builtin (R := wants (fun r s3 => r = .none ∧ ∃ h2 tk2 c2, s3 = { s with heap := h2, toks := tk2 } ∧ SetR w h2 s.heap.objs.size (fun j => decide (j ∈ zs)) c2 ∧ c2 ≤ zs.length ∧ (∀ b o, s.heap.get? b = some o → h2.get? b = some o)) E) F.called_set.init.plain F.entry_set_init (check_set_init_1 tS' ?_)) fun r2 s3 hr2 => ?_
      · obtain ⟨⟨lc, ld, ldat, lsl⟩, gl, hcl, nl, hdl⟩ := isl
        simp only at hcl hdl
        subst hcl; subst hdl
        have gl' : (s.heap.push (foS w)).get? la = some { cls := .type "list", dict := ld, data := .seq its nl, slots := lsl } := Heap.get?_push_of_some _ gl
        have u1 := F.sub_list_set
        have u2 := F.sub_list_frozenset
        have u3 : (Value.type "list" == Value.type "dict") = false := by decide
        have isl2 : (s.heap.push (foS w)).IsList la its := ⟨_, gl', rfl, nl, rfl⟩
        unfold Builtin.«set.__init__» noKeywords Builtin.Frozenset.updateFrom
        generalize eI : pyIter = Z
        wp_walk
        subst eI
        refine wpAny_pyIter_list isl2 ?_
        refine wpAny_bind (wpAny_runValue ?_)
        have lS : la < s.heap.objs.size := Heap.lt_size gl
        have nh3 : A.in1.in1.in1.handled = none := by simp [nh]
        have sz1 : (s.heap.push (foS w)).objs.size = s.heap.objs.size + 1 := Heap.size_push ..
        have laI : la ≠ (s.heap.push (foS w)).objs.size := by rw [sz1]; exact Nat.ne_of_lt (Nat.lt_succ_of_lt lS)
        have outS : s.heap.objs.size ∉ [(s.heap.push (foS w)).objs.size, la] := by
          simp only [List.mem_cons, List.not_mem_nil, or_false, not_or]
          rw [sz1]
          exact ⟨Nat.ne_of_lt (Nat.lt_succ_self _), Nat.ne_of_gt lS⟩
        have vals : ∀ (i : Nat) (v : Value), its[i]? = some v → ∃ k t, zs[i]? = some k ∧ v = .int k t := fun i v hv => by
          have hi : i < zs.length := by rw [← zl]; exact (Array.getElem?_eq_some_iff.mp hv).1
          obtain ⟨t, e⟩ := PyProof.Rows.IntsAre.int_at ia i v (by rw [Array.getElem?_toList]; exact hv)
          refine ⟨zs[i], t, List.getElem?_eq_getElem hi, ?_⟩
          rw [e, List.getD_eq_getElem?_getD, List.getElem?_eq_getElem hi] <;> rfl
        refine set_update_ints ((Walks.list nh3 _ la laI its).toS) s.heap.objs.size outS zs zl few vals (its.size - 0) 0 _ (by omega) (Nat.zero_le _) ⟨⟨_, Heap.get?_push_size _ rfl, rfl, rfl⟩, (isl2.push _)⟩ ?q0 ?qR
        case q0 =>
          refine ⟨0, Nat.le_refl 0, setR_new_at (Heap.get?_push_of_some _ gS)⟩
        case qR =>
          intro s4 c4 mv cl4 R4
          obtain ⟨h4, g4, d4, tk4, o4⟩ := s4
          have eg : g4 = s.gens := mv.gens
          have ed : d4 = s.drawn := mv.drawn
          have eo : o4 = s.os := mv.os
          subst eg; subst ed; subst eo
          show wpAny _ _ _ _ _ _
          refine wpAny_pure ?_
          show wpAny _ _ (ret Value.none) _ _ _
          rw [zl] at cl4
          refine wpAny_pure ⟨rfl, h4, tk4, c4, rfl, R4, cl4, fun b o e => ?_⟩
          have b0 : b < s.heap.objs.size := Heap.lt_size e
          exact mv.heap b o (by simp only [List.mem_cons, List.not_mem_nil, or_false, not_or]; rw [sz1]; exact ⟨Nat.ne_of_lt b0, Nat.ne_of_lt (Nat.lt_succ_of_lt b0)⟩) (Heap.get?_push_of_some _ (Heap.get?_push_of_some _ e))
      · cases r2 with
        | error er => exact hr2
        | ok fl2 =>
          cases fl2 with
          | ret rr =>
            obtain ⟨rfl, h4, tk4, c4, rfl, R4, cl4, kp4⟩ := hr2
            repeat (any_goals (first | assumption | wp_step))
            exact go h4 tk4 c4 R4 cl4 kp4
          | _ => exact hr2.elim
    | _ => exact hr.elim
end
/-! ### equal neighbours once -/
theorem ded_mem {α : Type} [DecidableEq α] {x : α} : ∀ l : List α, x ∈ dedB (fun a b => decide (a = b)) l ↔ x ∈ l
  | [] => Iff.rfl
  | [y] => Iff.rfl
  | y :: z :: r => by
    unfold dedB
    by_cases e : y = z
    · rw [decide_eq_true e]
      simp only
      rw [ded_mem (z :: r), e]
      simp
    · rw [decide_eq_false e]
      simp only
      simp only [List.mem_cons, ded_mem (z :: r)]
theorem ded_lt {α : Type} [DecidableEq α] {le : α → α → Bool} (as : ∀ a b, le a b = true → le b a = true → a = b) : ∀ {l : List α}, l.Pairwise (fun a b => le a b = true) → (dedB (fun a b => decide (a = b)) l).Pairwise (fun a b => le a b = true ∧ a ≠ b)
  | [], _ => List.Pairwise.nil
  | [y], _ => List.pairwise_singleton _ _
  | y :: z :: r, h => by
    obtain ⟨h1, h2⟩ := List.pairwise_cons.mp h
    have ih := ded_lt as h2
    unfold dedB
    by_cases e : y = z
    · rw [decide_eq_true e]; exact ih
    · rw [decide_eq_false e]
      refine List.pairwise_cons.mpr ⟨fun a ha => ?_, ih⟩
      have ha' := (ded_mem _).mp ha
      refine ⟨h1 a ha', fun c => ?_⟩
      subst c
      rcases List.mem_cons.mp ha' with c | c
      · exact e c
      · exact e (as _ _ (h1 z List.mem_cons_self) ((List.pairwise_cons.mp h2).1 _ c))
/-- two lists that rise, with the same members -/
theorem rise_uniq {α : Type} {le : α → α → Bool} (as : ∀ a b, le a b = true → le b a = true → a = b) {l m : List α} (h : l.Pairwise (fun a b => le a b = true ∧ a ≠ b)) (h' : m.Pairwise (fun a b => le a b = true ∧ a ≠ b)) (k : ∀ x, x ∈ l ↔ x ∈ m) : l = m :=
  sorted_uniq as ((List.perm_ext_iff_of_nodup (h.imp fun x => x.2) (h'.imp fun x => x.2)).mpr k) (h.imp fun x => x.1) (h'.imp fun x => x.1)
abbrev sInts (is : List Int) : List Int := dedB (fun a b => decide (a = b)) (isB leI is)
abbrev sPrs (ps : List (Int × Int)) : List (Int × Int) := dedB (fun a b => decide (a = b)) (isB leP ps)
theorem sInts_rise (is : List Int) : (sInts is).Pairwise (fun a b => leI a b = true ∧ a ≠ b) := ded_lt leI_as (isB_sorted leI_tot leI_tr is)
theorem sInts_mem {is : List Int} {x : Int} : x ∈ sInts is ↔ x ∈ is := (ded_mem _).trans (isB_perm is).mem_iff
theorem sPrs_rise (ps : List (Int × Int)) : (sPrs ps).Pairwise (fun a b => leP a b = true ∧ a ≠ b) := ded_lt leP_as (isB_sorted leP_tot leP_tr ps)
theorem sPrs_mem {ps : List (Int × Int)} {x : Int × Int} : x ∈ sPrs ps ↔ x ∈ ps := (ded_mem _).trans (isB_perm ps).mem_iff
/-- the number of a set's members -/
theorem setR_card {w : World} {h : Heap} {a : Addr} {S : Int → Bool} {n : Nat} (R : SetR w h a S n) {l : List Int} (nd : l.Nodup) (k : ∀ x, S x = true ↔ x ∈ l) : n = l.length := by
  obtain ⟨o, es, ep, t, _, _, _, _, nd2, hm, _, _, hn, _⟩ := R
  have pm : (es.toList.map keyOf).Perm l := (List.perm_ext_iff_of_nodup nd2 nd).mpr fun x => (hm x).symm.trans (k x)
  rw [← pm.length_eq, List.length_map, Array.length_toList, hn]
section
variable {X : Cx}
/-- set(xs), xs a list of ints -/
def rSetI (K : PySem.W.Frag) (w : World) : List V → Hp → VK → Prop := fun vs H Q => ∃ (l : Addr) (zs : List Int), vs = [V.ref l] ∧ SqL K H l (zs.map V.int) ∧ zs.length + 1 < scanBound ∧ ∀ a, H a = none → Q (.ref a) (upd H a (SetO w a (fun j => decide (j ∈ zs)) (sInts zs).length))
theorem cr_setI (hc : X.calm = true) : CallR X (.type "set") (rSetI X.K X.w) := by
  intro pins s σ H vs us Q I r h
  obtain ⟨l, zs, rfl, hl, few, q⟩ := h
  rw [Vals.ref1 r]
  obtain ⟨its, rv, pl, hz⟩ := I.list hl
  refine setL_ints zs (I.ok.hd hc) pl.isList (by simpa using rv.ints) few fun h2 tk2 c2 R cl k => ?_
  have ec : c2 = (sInts zs).length := setR_card R ((sInts_rise zs).imp fun x => x.2) fun x => by rw [decide_eq_true_iff]; exact sInts_mem.symm
  subst ec
  exact ⟨.ref s.heap.objs.size, _, I.laid (t' := tk2) k (Nat.le_refl _) (setO_new R), rfl, q _ (I.hok.fresh (Nat.le_refl _))⟩
/-- sorted(set(e)) -/
theorem s_ssort {Φ : List Fn} {a : Expr} {c : CE} {pos p p2 pos2 : Pos} (hc : X.calm = true) (hu : X.A.units + 65 < cLine) (hg : Gl X "sorted") (hm : X.mg "sorted" = none) (hg2 : Gl X "set") (hm2 : X.mg "set" = none) (ns : notStar a = true) (ha : Snd X Φ a c) :
    Snd X Φ (.Call (.Name "sorted" p) [.Call (.Name "set" p2) [a] [] pos2] [] pos) (.blt .ssort (.cons c .nil)) := by
  have t2 := pe_callTy (pos := pos2) (p := p2) ((cr_setI hc).or (cr_setM hc (by omega))) hg2 hm2 (by decide +kernel) (pa_cons ha.b pa_nil (star_cons ns)) (by decide +kernel) (by decide +kernel) (star_cons ns)
  refine Snd.of ((pe_callB (pos := pos) (p := p) ((cr_sortedSet hc).or (cr_sortedT hc)) hg hm (by decide +kernel) (pa_cons t2 pa_nil) (by decide +kernel) (by decide +kernel)).wk fun σ H Q ⟨F, env, own, d, st, dm, fr, e, k⟩ => ?_) rfl
  have e' : ev Φ (.blt .ssort (.cons c .nil)) env = some d := e
  unfold ev at e'
  cases e1 : evs Φ (.cons c .nil) env with
  | none => rw [e1] at e'; cases e'
  | some ds =>
    rw [e1] at e'
    obtain ⟨d0, r, e2, e3, rfl⟩ := evs_cons e1
    cases e3
    have e4 : dssort d0 = some d := e'
    refine ⟨F, env, own, d0, st, dm, fun i hi => fr i (List.mem_append_left _ hi), e2, fun F' H' v g s1 => ?_⟩
    cases d0 with
    | lst xs =>
      obtain ⟨l, vs, rfl, eH, rr⟩ := s1
      unfold dssort at e4
      simp only at e4
      unfold ssortD at e4
      cases e5 : ints? xs with
      | some zs =>
        rw [e5] at e4
        simp only at e4
        split at e4
        case h_2 => cases e4
        rename_i ys hys
        split at hys
        case isFalse => cases hys
        rename_i hb
        cases hys
        cases e4
        have ev := ints_rp e5 rr
        subst ev
        refine .inl ⟨l, zs, rfl, SqL.of eH, ?_, fun p2 hp2 => ?_⟩
        · have : scanBound = 4096 := rfl
          omega
        · have g2 : Gr F' H' F' (upd H' p2 (SetO X.w p2 (fun j => decide (j ∈ zs)) (sInts zs).length)) := Gr.laid' g.dom hp2
          refine .inl ⟨p2, _, _, rfl, upd_same, hb.2, fun ns' p3 up hm' _ hp3 => ?_⟩
          have hu : ns' = sInts zs := rise_uniq (le := leI) leI_as (up.imp fun {a b} h => ⟨by unfold leI; rw [decide_eq_true_iff]; omega, by omega⟩) (sInts_rise zs) fun x => by rw [hm', decide_eq_true_iff]; exact sInts_mem.symm
          subst hu
          exact Kt.newLst (Kt.after (g.trans g2) k) g2.dom (ints_rpL _) p3 hp3
      | none =>
        rw [e5] at e4
        simp only at e4
        cases e6 : prs? xs with
        | none => rw [e6] at e4; cases e4
        | some ps =>
          rw [e6] at e4
          simp only at e4
          split at e4
          case h_2 => cases e4
          rename_i ys hys
          split at hys
          case isFalse => cases hys
          rename_i hb
          cases hys
          cases e4
          obtain ⟨q1, q2⟩ := prs_rp e6 rr
          have adr : ∀ v : V, ∃ t : Addr, v = .ref t → True := fun v => ⟨0, fun _ => trivial⟩
          let ks : List (Addr × List Int) := vs.map fun v => (match v with | .ref t => t | _ => 0, [(pk H' v).1, (pk H' v).2])
          have e7 : ks.map (fun q => V.ref q.1) = vs := by
            show (vs.map _).map _ = vs
            rw [List.map_map]
            conv => rhs; rw [← List.map_id vs]
            refine List.map_congr_left fun v hv => ?_
            obtain ⟨t, rfl, _⟩ := q2 v hv
            rfl
          have e8 : ∀ q ∈ ks, F' q.1 ∧ H' q.1 = some (.tup (q.2.map V.int)) ∧ ∃ i j, q.2 = [i, j] ∧ (i, j) ∈ ps ∧ pk H' (.ref q.1) = (i, j) := fun q hq => by
            obtain ⟨v, hv, rfl⟩ := List.mem_map.mp hq
            obtain ⟨t, rfl, ft, et⟩ := q2 v hv
            refine ⟨ft, et, _, _, rfl, ?_, rfl⟩
            rw [← q1]
            exact List.mem_map.mpr ⟨_, hv, rfl⟩
          have e9 : ∀ z ∈ ps, ∃ q ∈ ks, q.2 = [z.1, z.2] := fun z hz => by
            rw [← q1] at hz
            obtain ⟨v, hv, rfl⟩ := List.mem_map.mp hz
            exact ⟨_, List.mem_map.mpr ⟨v, hv, rfl⟩, rfl⟩
          have hlen : ks.length = ps.length := by rw [← q1, List.length_map, List.length_map]
          refine .inr ⟨l, ks, (sPrs ps).map fun z => [z.1, z.2], rfl, by rw [e7]; exact SqL.of eH, fun q hq => SqT.of (e8 q hq).2.1, by rw [List.length_map]; exact hb.2.1, fun q hq => ?_, fun p2 L hp2 sub all => ?_⟩
          · obtain ⟨_, _, i, j, a1, a2, _⟩ := e8 q hq
            rw [a1]
            exact List.mem_map.mpr ⟨_, sPrs_mem.mpr a2, rfl⟩
          have g2 : Gr F' H' F' (upd H' p2 (SetTO X.prog X.w p2 L)) := Gr.laid' g.dom hp2
          have ne : ∀ q ∈ ks, q.1 ≠ p2 := fun q hq z => by have := (e8 q hq).2.1; rw [z, hp2] at this; cases this
          refine .inr ⟨p2, L, 2, 64, rfl, upd_same, fun q hq => SqT.of (by rw [upd_ne (ne q (sub q hq))]; exact (e8 q (sub q hq)).2.1), by decide, fun q hq => ?_, fun L' p3 pm nd few pw hp3 => ?_⟩
          · obtain ⟨_, _, i, j, e10, e11, _⟩ := e8 q (sub q hq)
            rw [e10]
            have b := hb.2.2 _ e11
            refine ⟨rfl, fun m hm => ?_⟩
            simp only [List.mem_cons, List.not_mem_nil, or_false] at hm
            rcases hm with rfl | rfl
            · exact ⟨b.1, b.2.1⟩
            · exact ⟨b.2.2.1, b.2.2.2⟩
          · have e12 : RpL X.K F' (upd H' p2 (SetTO X.prog X.w p2 L)) (L'.map fun q => V.ref q.1) ((sPrs ps).map p2D) := by
              have inks : ∀ q ∈ L', q ∈ ks := fun q hq => sub q (pm.mem_iff.mp hq)
              have e13 : L'.map (fun q => pk H' (.ref q.1)) = sPrs ps := by
                refine rise_uniq (le := leP) leP_as ?_ (sPrs_rise ps) fun z => ?_
                · rw [List.pairwise_map]
                  have nd' := List.pairwise_map.mp nd
                  refine List.Pairwise.imp_of_mem (fun {q r} hq hr hc => ?_) (pw.and nd')
                  obtain ⟨_, _, i, j, a1, a2, a3⟩ := e8 q (inks q hq)
                  obtain ⟨_, _, i', j', b1, b2, b3⟩ := e8 r (inks r hr)
                  have c1 := hb.2.2 _ a2
                  have c2 := hb.2.2 _ b2
                  have hc1 := hc.1
                  have hc2 := hc.2
                  rw [a1, b1] at hc1 hc2
                  have := pair_lt hc1 hc2 ⟨c1.1, c1.2.1⟩ ⟨c1.2.2.1, c1.2.2.2⟩ ⟨c2.1, c2.2.1⟩ ⟨c2.2.2.1, c2.2.2.2⟩
                  rw [a3, b3, leP_iff]
                  refine ⟨?_, fun z => ?_⟩
                  · show i < i' ∨ (i = i' ∧ j ≤ j')
                    omega
                  · cases z
                    exact hc2 rfl
                · rw [sPrs_mem, List.mem_map]
                  constructor
                  · rintro ⟨q, hq, rfl⟩
                    obtain ⟨_, _, i, j, a1, a2, a3⟩ := e8 q (inks q hq)
                    rw [a3]; exact a2
                  · intro hz
                    obtain ⟨q, hq, e10⟩ := e9 z hz
                    obtain ⟨r, hr, e11⟩ := List.mem_map.mp (all q hq)
                    refine ⟨r, pm.mem_iff.mpr hr, ?_⟩
                    obtain ⟨_, _, i, j, a1, a2, a3⟩ := e8 r (sub r hr)
                    rw [a3]
                    rw [a1, e10] at e11
                    cases e11
                    rfl
              rw [← e13]
              have : ∀ M : List (Addr × List Int), (∀ q ∈ M, q ∈ ks) → RpL X.K F' (upd H' p2 (SetTO X.prog X.w p2 L)) (M.map fun q => V.ref q.1) ((M.map (fun q => pk H' (.ref q.1))).map p2D) := by
                intro M
                induction M with
                | nil => intro _; exact .nil
                | cons q M ih =>
                  intro hM
                  obtain ⟨f1, f2, i, j, a1, a2, a3⟩ := e8 q (hM q List.mem_cons_self)
                  refine .cons ?_ (ih fun r hr => hM r (List.mem_cons_of_mem _ hr))
                  show Rp X.K F' (upd H' p2 (SetTO X.prog X.w p2 L)) (V.ref q.1) (p2D (pk H' (V.ref q.1)))
                  rw [a3]
                  rw [a1] at f2
                  exact .tup f1 (by rw [upd_ne (ne q (hM q List.mem_cons_self))]; exact f2) (.cons (.int _) (.cons (.int _) .nil))
              exact this L' inks
            exact Kt.newLst (Kt.after (g.trans g2) k) g2.dom e12 p3 hp3
    | _ => cases e4
end
end Pv

/-! Pv11: the compiler from the text to the little language. -/
namespace Pv
open PySem PySem.Spec PyProof.Rows L2

def ixOf : List Str → Str → Option Nat
  | [], _ => none
  | y :: r, x => if y = x then some 0 else (ixOf r x).map (· + 1)
theorem ixOf_get : ∀ {l : List Str} {x : Str} {i : Nat}, ixOf l x = some i → l[i]? = some x
  | [], _, _, h => by cases h
  | y :: r, x, i, h => by
    unfold ixOf at h
    split at h
    · rename_i e; cases h; rw [e]; rfl
    · cases e : ixOf r x with
      | none => rw [e] at h; cases h
      | some j => rw [e] at h; cases h; exact ixOf_get (l := r) e
def kdIs (sc : Scope) (x : Str) (k : NameKind) : Bool := sc.names.lookup x == some k
theorem kdIs_of {sc : Scope} {x : Str} {k : NameKind} (h : kdIs sc x k = true) : sc.names.lookup x = some k := by
  unfold kdIs at h
  exact eq_of_beq h
def plainNm (x : Str) : Bool := !(x == ("__debug__" : Str)) && !(x == ("__classdict__" : Str))
/-- a name that is read -/
def slot (C : Cc) (sc : Scope) (x : Str) : Option Nat := if (kdIs sc x .local || kdIs sc x .cell || kdIs sc x .free) && plainNm x then ixOf C.N x else none
/-- a name that is stored -/
def lslot (C : Cc) (sc ss : Scope) (x : Str) : Option Nat := if (kdIs sc x .local || kdIs sc x .cell) && (kdIs ss x .local || kdIs ss x .cell) then ixOf C.N x else none

def mapE (f : Expr → Option CE) : List Expr → Option CEs
  | [] => some .nil
  | e :: r => match f e, mapE f r with
    | some c, some cs => if notStar e then some (.cons c cs) else none
    | _, _ => none
def boolE (f : Expr → Option CE) (op : PySem.BoolOp) : List Expr → Option CE
  | [] => none
  | [a] => f a
  | a :: b :: r => match f a, boolE f op (b :: r) with
    | some ca, some cb => some (match op with
      | .And => .andd ca cb
      | .Or => .orr ca cb)
    | _, _ => none
def tyS (x : Str) : Option Ty :=
  if x = Str.ofString "int" then some .int else if x = Str.ofString "bool" then some .bool else if x = Str.ofString "str" then some .str else if x = Str.ofString "tuple" then some .tup else if x = Str.ofString "list" then some .lst else none
def bfE (x : Str) (n : Nat) : Option BF :=
  if n = 1 then
    (if x = ("len" : Str) then some .len else if x = ("max" : Str) then some .max1 else if x = ("min" : Str) then some .min1 else if x = ("sum" : Str) then some .sum else if x = ("all" : Str) then some .all
    else if x = ("list" : Str) then some .list else if x = ("tuple" : Str) then some .tuple else if x = ("int" : Str) then some .int else if x = ("bool" : Str) then some .bool else if x = ("sorted" : Str) then some .sorted else none)
  else if n = 2 then (if x = ("max" : Str) then some .max2 else if x = ("min" : Str) then some .min2 else none) else none
/-- a target -/
def tgNs (C : Cc) (sc ss : Scope) : List Expr → Option (List Nat)
  | [] => some []
  | .Name x _ :: r => match lslot C sc ss x, tgNs C sc ss r with
    | some i, some is => some (i :: is)
    | _, _ => none
  | _ :: _ => none
def tgE (C : Cc) (sc ss : Scope) : Expr → Option Tg
  | .Name x _ => match lslot C sc ss x with
    | some i => some (.one i)
    | none => none
  | .Tuple es _ _ => match tgNs C sc ss es with
    | some is => some (.many is)
    | none => none
  | _ => none
def isTupT : Expr → Bool
  | .Tuple _ _ _ => true
  | _ => false
def gl (sc : Scope) (x : Str) : Bool := kdIs sc x .globalImplicit
/-- what is walked -/
def itE (C : Cc) (sc : Scope) (f : Expr → Option CE) (tg : Expr) (e : Expr) : Option CIt :=
  match e with
  | .Call (.Name x _) [a] [] _ =>
    if x = ("range" : Str) ∧ gl sc x = true ∧ notStar a = true ∧ ixOf C.fns x = none then (f a).map .rng1
    else if x = ("enumerate" : Str) ∧ gl sc x = true ∧ notStar a = true ∧ isTupT tg = true ∧ ixOf C.fns x = none then (f a).map .enum
    else (f e).map .seq
  | .Call (.Name x _) [a, b] [] _ =>
    if x = ("range" : Str) ∧ gl sc x = true ∧ notStar a = true ∧ notStar b = true ∧ ixOf C.fns x = none then (match f a, f b with
      | some ca, some cb => some (.rng2 ca cb)
      | _, _ => none)
    else if x = ("zip" : Str) ∧ gl sc x = true ∧ notStar a = true ∧ notStar b = true ∧ isTupT tg = true ∧ ixOf C.fns x = none then (match f a, f b with
      | some ca, some cb => some (.zip ca cb)
      | _, _ => none)
    else (f e).map .seq
  | .Call (.Name x _) [a, b, .UnaryOp .USub (.Constant (.int i) _ _) _] [] _ =>
    if x = ("range" : Str) ∧ gl sc x = true ∧ notStar a = true ∧ notStar b = true ∧ i = 1 ∧ ixOf C.fns x = none then (match f a, f b with
      | some ca, some cb => some (.rngd ca cb)
      | _, _ => none)
    else (f e).map .seq
  | e => (f e).map .seq
def isSetE : Expr → Bool
  | .Set _ _ _ => true
  | _ => false
def ownE (C : Cc) : List (Str × NameKind) → List (Str × Nat)
  | [] => []
  | (x, k) :: r => if k == .local || k == .cell then (match ixOf C.N x with
    | some i => (x, i) :: ownE C r
    | none => ownE C r) else ownE C r
/-- a list comprehension; f: outside, g: inside -/
def lcE (C : Cc) (sc : Scope) (f g : Expr → Option CE) (elt tg iter : Expr) (ifs : List Expr) (scope : Scope) : Option CE :=
  match itE C sc f tg iter, tgE C (relS scope sc) scope tg, mapE g ifs, g elt with
  | some cit, some ctg, some cs, some ce =>
    if blkC C.N sc scope (ownE C scope.names) && (tgI ctg).all (fun j => ((ownE C scope.names).map (·.2)).contains j) && decide (ifs.length ≤ 1) && !isSetE iter then some (.lc ce ctg cit cs ((ownE C scope.names).map (·.2))) else none
  | _, _, _, _ => none
def isOneN : Expr → Bool
  | .UnaryOp .USub (.Constant (.int i) _ _) _ => i == 1
  | _ => false
def callE (C : Cc) (sc : Scope) (f : Expr → Option CE) (x : Str) (args : List Expr) : Option CE :=
  if gl sc x = true ∧ (x == ("__debug__" : Str)) = false then
    match ixOf C.fns x with
    | some k => (mapE f args).map (.call k)
    | none => match bfE x args.length with
      | some b => if (bfV b).map (·.1) = some x then (mapE f args).map (.blt b) else none
      | none => none
  else none
def isiE (C : Cc) (sc : Scope) (f : Expr → Option CE) (a t : Expr) : Option CE :=
  if gl sc ("isinstance" : Str) = true ∧ ixOf C.fns ("isinstance" : Str) = none ∧ notStar a = true then
    match t with
    | .Name T _ => match tyS T, f a with
      | some T, some c => if gl sc (Str.ofString T.nm) then some (.blt (.isi T) (.cons c .nil)) else none
      | _, _ => none
    | .Tuple [.Name T _, .Name T' _] _ _ => match tyS T, tyS T', f a with
      | some T, some T', some c => if gl sc (Str.ofString T.nm) && gl sc (Str.ofString T'.nm) then some (.blt (.isi2 T T') (.cons c .nil)) else none
      | _, _, _ => none
    | _ => none
  else none
def lrE (C : Cc) (sc : Scope) (f : Expr → Option CE) (a b : Expr) : Option CE :=
  if gl sc ("list" : Str) = true ∧ gl sc ("range" : Str) = true ∧ ixOf C.fns ("list" : Str) = none ∧ ixOf C.fns ("range" : Str) = none ∧ notStar a = true ∧ notStar b = true then
    match f a, f b with
    | some ca, some cb => some (.lrng ca cb)
    | _, _ => none
  else none
/-- sorted(set(a)) -/
def ssE (C : Cc) (sc : Scope) (f : Expr → Option CE) (a : Expr) : Option CE :=
  if gl sc ("sorted" : Str) = true ∧ gl sc ("set" : Str) = true ∧ ixOf C.fns ("sorted" : Str) = none ∧ ixOf C.fns ("set" : Str) = none ∧ notStar a = true then
    match f a with
    | some ca => some (.blt .ssort (.cons ca .nil))
    | none => none
  else none
def comp (C : Cc) : Nat → Scope → Scope → Expr → Option CE
  | 0, _, _, _ => none
  | n + 1, sc, ss, e => match e with
    | .Constant (.int i) _ _ => some (.cint i)
    | .Constant (.bool i) _ _ => some (.cbl i)
    | .Constant .none _ _ => some .cnon
    | .Constant (.str i) _ _ => some (.cstr i)
    | .Name x _ => (slot C sc x).map .var
    | .BinOp a op b _ => match bopOf op, comp C n sc ss a, comp C n sc ss b with
      | some o, some ca, some cb => some (.bin o ca cb)
      | _, _, _ => none
    | .UnaryOp .USub a _ => (comp C n sc ss a).map .neg
    | .UnaryOp .Not a _ => (comp C n sc ss a).map .nott
    | .Compare a [op] [b] _ => match copOf op, comp C n sc ss a, comp C n sc ss b with
      | some o, some ca, some cb => if behindInMarks op b = false then some (.cmp o ca cb) else none
      | _, _, _ => none
    | .Compare a [op, op'] [b, b'] _ => match copOf op, copOf op', comp C n sc ss a, comp C n sc ss b, comp C n sc ss b' with
      | some o, some o', some ca, some cb, some cb' => if lastMarks [op, op'] [b, b'] = false then some (.chain o o' ca cb cb') else none
      | _, _, _, _, _ => none
    | .BoolOp op vs _ => match boolE (comp C n sc ss) op vs with
      | some c => if isVar c = false then some c else none
      | none => none
    | .IfExp t a b _ => match comp C n sc ss t, comp C n sc ss a, comp C n sc ss b with
      | some c, some ca, some cb => some (.ite c ca cb)
      | _, _, _ => none
    | .Tuple es _ _ => (mapE (comp C n sc ss) es).map .tup
    | .List es _ => (mapE (comp C n sc ss) es).map .lst
    | .Dict [] [] _ => some (.dnil C.dtup)
    | .Dict [some a] [b] _ => match comp C n sc ss a, comp C n sc ss b with
      | some ca, some cb => some (.dsp C.dtup ca cb)
      | _, _ => none
    | .Subscript a (.Slice none none none _) _ => (comp C n sc ss a).map .sl00
    | .Subscript a (.Slice (some lo) none none _) _ => match comp C n sc ss a, comp C n sc ss lo with
      | some ca, some cb => some (.sl10 ca cb)
      | _, _ => none
    | .Subscript a (.Slice none (some hi) none _) _ => match comp C n sc ss a, comp C n sc ss hi with
      | some ca, some cb => some (.sl01 ca cb)
      | _, _ => none
    | .Subscript a (.Slice (some lo) (some hi) none _) _ => match comp C n sc ss a, comp C n sc ss lo, comp C n sc ss hi with
      | some ca, some cb, some cb' => some (.sl11 ca cb cb')
      | _, _, _ => none
    | .Subscript a (.Slice none none (some (.UnaryOp .USub (.Constant (.int i) _ _) _)) _) _ => if i = 1 then (comp C n sc ss a).map .rev else none
    | .Subscript a b _ => if isSl b = false then (match comp C n sc ss a, comp C n sc ss b with
      | some ca, some cb => some (.idx ca cb)
      | _, _ => none) else none
    | .Call (.Name x _) args [] _ => match args with
      | [.Call (.Name y _) [a, b] [] _] => if x = ("list" : Str) ∧ y = ("range" : Str) then lrE C sc (comp C n sc ss) a b else callE C sc (comp C n sc ss) x args
      | [.Call (.Name y _) [a] [] _] => if x = ("sorted" : Str) ∧ y = ("set" : Str) then ssE C sc (comp C n sc ss) a else callE C sc (comp C n sc ss) x args
      | [a, t] => if x = ("isinstance" : Str) then isiE C sc (comp C n sc ss) a t else callE C sc (comp C n sc ss) x args
      | args => callE C sc (comp C n sc ss) x args
    | .Call (.Attribute o m apos) [b] [] cpos => if m = ("get" : Str) ∧ noSuper o = true ∧ notStar b = true ∧ (apos.endLine == cpos.line) = true then (match comp C n sc ss o, comp C n sc ss b with
      | some ca, some cb => some (.mth .get1 ca (.cons cb .nil))
      | _, _ => none) else none
    | .Call (.Attribute o m apos) [b, b'] [] cpos => if m = ("get" : Str) ∧ noSuper o = true ∧ notStar b = true ∧ notStar b' = true ∧ (apos.endLine == cpos.line) = true then (match comp C n sc ss o, comp C n sc ss b, comp C n sc ss b' with
      | some ca, some cb, some cb' => some (.mth .get2 ca (.cons cb (.cons cb' .nil)))
      | _, _, _ => none) else none
    | .ListComp elt [⟨tg, iter, ifs, 0⟩] scope _ => lcE C sc (comp C n sc ss) (comp C n (relS scope sc) scope) elt tg iter ifs scope
    | _ => none
def swB (sc : Scope) (t : Str) (tl vl : Nat) (scope : Scope) : Bool :=
  sc.kind == .function && sc.names.lookup t == some .local && tl == vl && !(scope.names.any fun (n, k) => n == t && (k == .local || k == .cell))
def parC (sc : Scope) (xs : List (Str × Pos)) (vs : List Expr) : Bool :=
  (xs.all fun p => kdIs sc p.1 .local && (p.2.line == ((xs.head?.map (·.2.line)).getD 0))) && ((xs.map (·.1)).eraseDups.length == xs.length) && !(vs.all (foldedForSure 8)) && !(vs.all (constantsAlone 8)) && vs.all notStar
/-- a name that is no plain local: no swap -/
def parN (sc : Scope) (xs : List Str) : Bool := xs.any fun x => !kdIs sc x .local
/-- folded constants: no swap -/
def parK (vs : List Expr) : Bool := vs.all (foldedForSure 8)
def bodyE (f : Stmt → Option CS) : List Stmt → Option CSs
  | [] => some .nil
  | s :: r => match f s, bodyE f r with
    | some c, some cs => some (.cons c cs)
    | _, _ => none
def fuelE : Nat := 40
/-- a dict that is walked by its keys -/
def dvE (C : Cc) : Expr → Bool
  | .Name x _ => C.dv.contains x
  | _ => false
def compS (C : Cc) (sc : Scope) : Nat → Stmt → Option CS
  | 0, _ => none
  | n + 1, st => match st with
    | .Assign [.Name x p] e pos => match lslot C sc sc x, comp C fuelE sc sc e with
      | some i, some c => (match e with
        | .ListComp elt [⟨tg, iter, ifs, 0⟩] scope lpos => some (.asg i c)
        | e => if isComp e = false then some (.asg i c) else none)
      | _, _ => none
    | .Assign [.Subscript (.Name x _) ix _] e _ => match slot C sc x, comp C fuelE sc sc ix, comp C fuelE sc sc e with
      | some i, some ca, some c => if isSl ix = false ∧ isComp e = false then some (.setix i ca c) else none
      | _, _, _ => none
    | .Assign [.Tuple es _ _] e _ => (match es, e with
      | [.Name x px, .Name y py], .Tuple [a, b] _ _ =>
        if parC sc [(x, px), (y, py)] [a, b] then (match lslot C sc sc x, lslot C sc sc y, comp C fuelE sc sc a, comp C fuelE sc sc b with
          | some i, some j, some ca, some cb => if i = j then none else some (.par2 i j ca cb)
          | _, _, _, _ => none) else if parN sc [x, y] = true then (match tgNs C sc sc es, comp C fuelE sc sc e with
            | some is, some c => some (.asgT is c)
            | _, _ => none) else none
      | [.Name x px, .Name y py, .Name z pz], .Tuple [a, b, b'] _ _ =>
        if parC sc [(x, px), (y, py), (z, pz)] [a, b, b'] then (match lslot C sc sc x, lslot C sc sc y, lslot C sc sc z, comp C fuelE sc sc a, comp C fuelE sc sc b, comp C fuelE sc sc b' with
          | some i, some j, some l, some ca, some cb, some cb' => if i = j ∨ i = l ∨ j = l then none else some (.par3 i j l ca cb cb')
          | _, _, _, _, _, _ => none) else none
      | es, e => if isTup e = false ∧ isComp e = false then (match tgNs C sc sc es, comp C fuelE sc sc e with
        | some is, some c => some (.asgT is c)
        | _, _ => none) else none)
    | .AugAssign (.Name x _) op e _ => match lslot C sc sc x, bopOf op, comp C fuelE sc sc e with
      | some i, some o, some c => if o = .add ∨ o = .sub then some (.aug i o c) else none
      | _, _, _ => none
    | .Expr (.Call (.Attribute (.Name x _) m apos) [e] [] cpos) _ => if m = ("append" : Str) ∧ notStar e = true ∧ (apos.endLine == cpos.line) = true then (match slot C sc x, comp C fuelE sc sc e with
      | some i, some c => some (.app i c)
      | _, _ => none) else none
    | .If t a b _ => match comp C fuelE sc sc t, bodyE (compS C sc n) a, bodyE (compS C sc n) b with
      | some c, some ca, some cb => some (.ife c ca cb)
      | _, _, _ => none
    | .Return none _ => some .retn
    | .Return (some (.Name x _)) _ => (slot C sc x).map fun i => .ret (.var i)
    | .Return (some e) _ => match comp C fuelE sc sc e with
      | some c => if isVar c = false then some (.ret c) else none
      | none => none
    | .For tg iter body [] _ => match tgE C sc sc tg, bodyE (compS C sc n) body with
      | some ctg, some cb => (match iter with
        | .Call (.Attribute o m apos) [] [] cpos => if m = ("items" : Str) ∧ isTupT tg = true ∧ noSuper o = true ∧ (apos.endLine == cpos.line) = true then (comp C fuelE sc sc o).map fun c => .for_ ctg (.items c) cb else none
        | iter => if dvE C iter = true then (comp C fuelE sc sc iter).map fun c => .for_ ctg (.keys c) cb else
          (match itE C sc (comp C fuelE sc sc) tg iter with
          | some cit => if isSetE iter = false then some (.for_ ctg cit cb) else none
          | none => none))
      | _, _ => none
    | .While t body [] _ => match comp C fuelE sc sc t, bodyE (compS C sc n) body with
      | some c, some cb => some (.whl C.whn c cb)
      | _, _ => none
    | _ => none
end Pv

/-! Pv12: what is compiled is what runs. -/
namespace Pv
open PySem PySem.Spec PyProof.Rows L2
section
variable {C : Cc} {sc ss : Scope} {Φ : List Fn} {X : Cx} {e a b b' : Expr} {c ca cb cb' : CE} {pos : Pos}
theorem slot_ok (k : Cok C sc ss Φ X) {x : Str} {i : Nat} (h : slot C sc x = some i) : X.N[i]? = some x ∧ Vis X.env.scope x ∧ (x == ("__debug__" : Str)) = false ∧ (x == ("__classdict__" : Str)) = false := by
  unfold slot at h
  split at h
  case isFalse => cases h
  rename_i hc
  simp only [Bool.and_eq_true, Bool.or_eq_true, plainNm, Bool.not_eq_true'] at hc
  refine ⟨by rw [k.hN]; exact ixOf_get h, ?_, hc.2.1, hc.2.2⟩
  rw [k.hsc]
  rcases hc.1 with (h1 | h1) | h1
  · exact .inl (kdIs_of h1)
  · exact .inr (.inl (kdIs_of h1))
  · exact .inr (.inr (kdIs_of h1))
theorem lslot_ok (k : Cok C sc ss Φ X) {x : Str} {i : Nat} (h : lslot C sc ss x = some i) : X.N[i]? = some x ∧ L2.Loc X.env.scope x ∧ (X.fn x = true ∨ X.env.scope.names.lookup x = some .local) := by
  unfold lslot at h
  split at h
  case isFalse => cases h
  rename_i hc
  simp only [Bool.and_eq_true, Bool.or_eq_true] at hc
  have h1 : L2.Loc sc x := hc.1.elim (fun z => .inl (kdIs_of z)) fun z => .inr (kdIs_of z)
  have h2 : L2.Loc ss x := hc.2.elim (fun z => .inl (kdIs_of z)) fun z => .inr (kdIs_of z)
  refine ⟨by rw [k.hN]; exact ixOf_get h, by rw [k.hsc]; exact h1, ?_⟩
  rw [k.hsc]
  exact k.st x h1 h2
theorem gl_ok (k : Cok C sc ss Φ X) {x : Str} (h : gl sc x = true) : Gl X x := by
  unfold Gl Env.kindOf
  rw [k.hsc]
  exact kdIs_of h
theorem Cok.blk (k : Cok C sc ss Φ X) {scope : Scope} (hk : scope.kind = .function) (s : Shared) (H : Hp) (D : Addr) (cl : List (Str × Addr)) (fp : List Addr) : Cok C (relS scope sc) scope Φ (X.blk s H scope (compEnvC scope cl D X.env) fp) := by
  refine ⟨k.hN, k.nd, ?_, hk, k.calm, k.hu, fun x h1 h2 => ?_, k.bi, k.len, fun j F nm h1 h2 => k.fn j F nm h1 h2, rfl⟩
  · show relS scope X.env.scope = relS scope sc
    rw [k.hsc]
  · rcases h2 with h2 | h2
    · exact .inr (lookup_relS_keep (by decide) h2)
    · left
      show (scope.names.lookup x == some .cell) = true
      rw [h2]
      rfl
/-- all expressions of a kind -/
def AllE (X : Cx) (Φ : List Fn) (f : Expr → Option CE) : Prop := ∀ e c, f e = some c → Snd X Φ e c
theorem mapE_cons {f : Expr → Option CE} {r : List Expr} {cs : CEs} (h : mapE f (e :: r) = some cs) : ∃ c cs', f e = some c ∧ mapE f r = some cs' ∧ notStar e = true ∧ cs = .cons c cs' := by
  unfold mapE at h
  cases e1 : f e with
  | none => rw [e1] at h; cases h
  | some c =>
    cases e2 : mapE f r with
    | none => rw [e1, e2] at h; cases h
    | some cs' =>
      rw [e1, e2] at h
      simp only at h
      split at h
      · rename_i n; cases h; exact ⟨c, cs', rfl, rfl, n, rfl⟩
      · cases h
theorem mapE_ns {f : Expr → Option CE} : ∀ {es : List Expr} {cs : CEs}, mapE f es = some cs → ∀ e ∈ es, notStar e = true
  | [], _, _ => fun e he => by cases he
  | a :: r, cs, h => by
    obtain ⟨c, cs', _, h2, h3, _⟩ := mapE_cons h
    intro e he
    rcases List.mem_cons.mp he with rfl | he
    · exact h3
    · exact mapE_ns h2 e he
theorem mapE_F {f : Expr → Option CE} (A : AllE X Φ f) : ∀ {es : List Expr} {cs : CEs}, mapE f es = some cs → PA X es (tFs X.K Φ cs)
  | [], cs, h => by cases h; exact as_nil
  | a :: r, cs, h => by
    obtain ⟨c, cs', h1, h2, h3, rfl⟩ := mapE_cons h
    exact as_cons h3 (A _ _ h1) (mapE_F A h2)
theorem mapE_B {f : Expr → Option CE} (A : AllE X Φ f) : ∀ {es : List Expr} {cs : CEs}, mapE f es = some cs → PA X es (tBs X.K Φ cs)
  | [], cs, h => by cases h; exact ab_nil
  | a :: r, cs, h => by
    obtain ⟨c, cs', h1, h2, h3, rfl⟩ := mapE_cons h
    exact ab_cons h3 (A _ _ h1) (mapE_B A h2)
theorem boolE_ok {f : Expr → Option CE} (A : AllE X Φ f) {op : PySem.BoolOp} : ∀ {es : List Expr} {c : CE}, boolE f op es = some c → SndW X Φ (.BoolOp op es pos) c
  | [], _, h => by cases h
  | [a], c, h => s_one (A _ _ h)
  | a :: b :: r, c, h => by
    unfold boolE at h
    cases e1 : f a with
    | none => rw [e1] at h; cases h
    | some ca =>
      cases e2 : boolE f op (b :: r) with
      | none => rw [e1, e2] at h; cases h
      | some cb =>
        rw [e1, e2] at h
        cases h
        cases op with
        | And => exact s_and (A _ _ e1) (boolE_ok A e2)
        | Or => exact s_or (A _ _ e1) (boolE_ok A e2)
theorem tyS_ok {x : Str} {T : Ty} (h : tyS x = some T) : x = Str.ofString T.nm ∧ T.nm ∈ ["int", "bool", "str", "tuple", "list"] := by
  unfold tyS at h
  split at h
  · rename_i e; cases h; exact ⟨e, by decide⟩
  split at h
  · rename_i e; cases h; exact ⟨e, by decide⟩
  split at h
  · rename_i e; cases h; exact ⟨e, by decide⟩
  split at h
  · rename_i e; cases h; exact ⟨e, by decide⟩
  split at h
  · rename_i e; cases h; exact ⟨e, by decide⟩
  · cases h
theorem tgNs_ok (k : Cok C sc ss Φ X) : ∀ {es : List Expr} {is : List Nat}, tgNs C sc ss es = some is → (∀ e ∈ es, isName e = true) ∧ es.length = is.length ∧ PGs X es (tGs X.K is)
  | [], is, h => by cases h; exact ⟨fun e he => (by cases he), rfl, gs_nil⟩
  | e :: r, is, h => by
    unfold tgNs at h
    split at h
    · rename_i h0; cases h0
    · rename_i x p r' h0
      cases h0
      split at h
      · rename_i i is' e1 e2
        cases h
        obtain ⟨q1, q2, q3⟩ := tgNs_ok k e2
        obtain ⟨l1, l2, l3⟩ := lslot_ok k e1
        refine ⟨fun e he => ?_, by rw [List.length_cons, List.length_cons, q2], gs_cons k.nd l1 l2 l3 q3⟩
        rcases List.mem_cons.mp he with rfl | he
        · rfl
        · exact q1 e he
      · cases h
    · cases h
theorem tgE_ok (k : Cok C sc ss Φ X) {tg : Tg} (h : tgE C sc ss e = some tg) : PG X e (tG X.K tg) := by
  unfold tgE at h
  split at h
  · split at h
    · rename_i x p i e1
      cases h
      obtain ⟨l1, l2, l3⟩ := lslot_ok k e1
      exact g_name k.nd l1 l2 l3
    · cases h
  · split at h
    · rename_i es k' p is e1
      cases h
      obtain ⟨q1, q2, q3⟩ := tgNs_ok k e1
      exact g_tup k.calm q1 q2 q3
    · cases h
  · cases h
theorem bi' (k : Cok C sc ss Φ X) {x : Str} (h : x ∈ bNames) : X.mg x = none := k.bi x h
theorem seq_ok {f : Expr → Option CE} (A : AllE X Φ f) {cit : CIt} {tg : Expr} (h : (f e).map CIt.seq = some cit) : PI X tg e (tI X.K Φ cit) := by
  cases e1 : f e with
  | none => rw [e1] at h; cases h
  | some c => rw [e1] at h; cases h; exact i_seq (A _ _ e1)
theorem itE_ok (k : Cok C sc ss Φ X) {f : Expr → Option CE} (A : AllE X Φ f) {tg : Expr} {cit : CIt} (h : itE C sc f tg e = some cit) : PI X tg e (tI X.K Φ cit) := by
  unfold itE at h
  split at h
  · split at h
    · rename_i x p a p2 hc
      obtain ⟨rfl, h1, h2, h3⟩ := hc
      cases e1 : f a with
      | none => rw [e1] at h; cases h
      | some ca => rw [e1] at h; cases h; exact i_rng1 (gl_ok k h1) (bi' k (by decide)) h2 (A _ _ e1)
    split at h
    · rename_i x p a p2 _ hc
      obtain ⟨rfl, h1, h2, h3, h4⟩ := hc
      cases e1 : f a with
      | none => rw [e1] at h; cases h
      | some ca =>
        rw [e1] at h
        cases h
        cases tg <;> first | exact i_enum (gl_ok k h1) (bi' k (by decide)) h2 (A _ _ e1) | cases h3
    · exact seq_ok A h
  · split at h
    · rename_i x p a b p2 hc
      obtain ⟨rfl, h1, h2, h3, h4⟩ := hc
      split at h
      · rename_i ca cb e1 e2
        cases h
        exact i_rng2 (gl_ok k h1) (bi' k (by decide)) h2 h3 (A _ _ e1) (A _ _ e2)
      · cases h
    split at h
    · rename_i x p a b p2 _ hc
      obtain ⟨rfl, h1, h2, h3, h4, h5⟩ := hc
      split at h
      · rename_i ca cb e1 e2
        cases h
        cases tg <;> first | exact i_zip (gl_ok k h1) (bi' k (by decide)) h2 h3 (A _ _ e1) (A _ _ e2) | cases h4
      · cases h
    · exact seq_ok A h
  · split at h
    · rename_i hc
      obtain ⟨rfl, h1, h2, h3, rfl, h5⟩ := hc
      split at h
      · rename_i ca cb e1 e2
        cases h
        exact i_rngd (gl_ok k h1) (bi' k (by decide)) h2 h3 (A _ _ e1) (A _ _ e2)
      · cases h
    · exact seq_ok A h
  · exact seq_ok A h
theorem set_no (h : isSetE e = false) {env : Env} (x : Value) : foldedSetIterable e env x = pure x := by
  cases e <;> first | rfl | cases h
/-- the parts of a comprehension -/
theorem lcE_ok (k : Cok C sc ss Φ X) {f g : Expr → Option CE} {elt tg iter : Expr} {ifs : List Expr} {scope : Scope} (A : AllE X Φ f) (B : ∀ Y : Cx, Cok C (relS scope sc) scope Φ Y → AllE Y Φ g) (h : lcE C sc f g elt tg iter ifs scope = some c) :
    ∃ ctg cit celt cs, c = .lc celt ctg cit cs ((ownE C scope.names).map (·.2)) ∧ PI X tg iter (tI X.K Φ cit) ∧ BlkOk X.N X.env.scope scope (ownE C scope.names) ∧
      (∀ (s : Shared) (H : Hp) (C : Addr) (cl : List (Str × Addr)) (fp : List Addr), PG (X.blk s H scope (compEnvC scope cl C X.env) fp) tg (tG X.K ctg)) ∧
      (∀ (s : Shared) (H : Hp) (C : Addr) (cl : List (Str × Addr)) (fp : List Addr), PTs (X.blk s H scope (compEnvC scope cl C X.env) fp) ifs (tC1 X.K Φ cs)) ∧
      (∀ (s : Shared) (H : Hp) (C : Addr) (cl : List (Str × Addr)) (fp : List Addr), PE (X.blk s H scope (compEnvC scope cl C X.env) fp) elt (tT X.K Φ celt)) ∧
      (∀ j ∈ tgI ctg, j ∈ (ownE C scope.names).map (·.2)) ∧ (∀ x, foldedSetIterable iter X.env x = pure x) := by
  unfold lcE at h
  split at h
  · rename_i cit ctg cs ce e1 e2 e3 e4
    split at h
    case isFalse => cases h
    rename_i hc
    cases h
    simp only [Bool.and_eq_true, List.all_eq_true, Bool.not_eq_true'] at hc
    obtain ⟨⟨⟨h1, h2⟩, h3⟩, h4⟩ := hc
    have ok : BlkOk X.N X.env.scope scope (ownE C scope.names) := by rw [k.hN, k.hsc]; exact blkOk_by h1
    refine ⟨ctg, cit, ce, cs, rfl, itE_ok k A e1, ok, fun s H D cl fp => ?_, fun s H D cl fp => ?_, fun s H D cl fp => ?_, fun j hj => ?_, set_no h4⟩
    · exact tgE_ok (k.blk ok.kind s H D cl fp) e2
    · have kb := k.blk ok.kind s H D cl fp
      have hl : ifs.length ≤ 1 := of_decide_eq_true h3
      cases ifs with
      | nil => cases e3; exact cs_nil
      | cons a r =>
        cases r with
        | cons _ _ => simp at hl
        | nil =>
          obtain ⟨c1, cs', q1, q2, q3, rfl⟩ := mapE_cons e3
          cases q2
          exact cs_one (B _ kb _ _ q1)
    · exact (B _ (k.blk ok.kind s H D cl fp) _ _ e4).t
    · have := h2 j hj
      simpa using this
  · cases h
theorem callE_ok (k : Cok C sc ss Φ X) {f : Expr → Option CE} (A : AllE X Φ f) {x : Str} {p : Pos} {args : List Expr} (h : callE C sc f x args = some c) : Snd X Φ (.Call (.Name x p) args [] pos) c := by
  unfold callE at h
  split at h
  case isFalse => cases h
  rename_i hc
  obtain ⟨h1, h2⟩ := hc
  split at h
  · rename_i kk e1
    cases e2 : mapE f args with
    | none => rw [e2] at h; cases h
    | some cs =>
      rw [e2] at h
      cases h
      have hn := ixOf_get e1
      have hlt : kk < Φ.length := by
        rw [k.len]
        by_cases l : kk < C.fns.length
        · exact l
        · rw [List.getElem?_eq_none (by omega)] at hn; cases hn
      have hF : Φ[kk]? = some Φ[kk] := List.getElem?_eq_getElem hlt
      cases args with
      | nil => cases e2; exact s_call0 (gl_ok k h1) h2 hF (k.fn kk _ x hF hn)
      | cons a r => exact s_call (gl_ok k h1) h2 hF (k.fn kk _ x hF hn) (mapE_ns e2) (mapE_F A e2)
  · split at h
    · rename_i bf e1
      split at h
      case isFalse => cases h
      rename_i hb
      cases e2 : mapE f args with
      | none => rw [e2] at h; cases h
      | some cs =>
        rw [e2] at h
        cases h
        cases e3 : bfV bf with
        | none => rw [e3] at hb; cases hb
        | some nu =>
          obtain ⟨nm, u⟩ := nu
          rw [e3] at hb
          cases hb
          cases args with
          | nil => cases e1
          | cons a r => exact s_blt k.calm k.hu e3 (gl_ok k h1) (k.bi _ (name_of e3).2.2) (mapE_ns e2) (mapE_B A e2)
    · cases h
theorem ty_b {T : String} (h : T ∈ ["int", "bool", "str", "tuple", "list"]) : Str.ofString T ∈ bNames := by
  simp only [List.mem_cons, List.mem_nil_iff, or_false] at h
  rcases h with rfl | rfl | rfl | rfl | rfl <;> decide +kernel
theorem isiE_ok (k : Cok C sc ss Φ X) {f : Expr → Option CE} (A : AllE X Φ f) {p : Pos} {t : Expr} (h : isiE C sc f a t = some c) : Snd X Φ (.Call (.Name ("isinstance" : Str) p) [a, t] [] pos) c := by
  unfold isiE at h
  split at h
  case isFalse => cases h
  rename_i hc
  obtain ⟨h1, h2, h3⟩ := hc
  split at h
  · split at h
    · rename_i T p2 _ _ T' c' e1 e2
      split at h
      case isFalse => cases h
      rename_i hg
      cases h
      obtain ⟨rfl, m⟩ := tyS_ok e1
      exact s_isi (gl_ok k h1) (bi' k (by decide)) m (gl_ok k hg) (bi' k (ty_b m)) h3 (A _ _ e2)
    · cases h
  · split at h
    · rename_i e1 e1' e2
      split at h
      case isFalse => cases h
      rename_i hg
      cases h
      rw [Bool.and_eq_true] at hg
      obtain ⟨rfl, m⟩ := tyS_ok e1
      obtain ⟨rfl, m'⟩ := tyS_ok e1'
      exact s_isi2 (gl_ok k h1) (bi' k (by decide)) m m' (gl_ok k hg.1) (bi' k (ty_b m)) (gl_ok k hg.2) (bi' k (ty_b m')) h3 (A _ _ e2)
    · cases h
  · cases h
theorem lrE_ok (k : Cok C sc ss Φ X) {f : Expr → Option CE} (A : AllE X Φ f) {p p2 pos2 : Pos} (h : lrE C sc f a b = some c) : Snd X Φ (.Call (.Name ("list" : Str) p) [.Call (.Name ("range" : Str) p2) [a, b] [] pos2] [] pos) c := by
  unfold lrE at h
  split at h
  case isFalse => cases h
  rename_i hc
  obtain ⟨h1, h2, h3, h4, h5, h6⟩ := hc
  split at h
  · rename_i e1 e2
    cases h
    exact s_lrng k.calm (gl_ok k h1) (bi' k (by decide)) (gl_ok k h2) (bi' k (by decide)) h5 h6 (A _ _ e1) (A _ _ e2)
  · cases h
theorem ssE_ok (k : Cok C sc ss Φ X) {f : Expr → Option CE} (A : AllE X Φ f) {p p2 pos2 : Pos} (h : ssE C sc f a = some c) : Snd X Φ (.Call (.Name ("sorted" : Str) p) [.Call (.Name ("set" : Str) p2) [a] [] pos2] [] pos) c := by
  unfold ssE at h
  split at h
  case isFalse => cases h
  rename_i hc
  obtain ⟨h1, h2, h3, h4, h5⟩ := hc
  split at h
  · rename_i e1
    cases h
    exact s_ssort k.calm k.hu (gl_ok k h1) (bi' k (by decide)) (gl_ok k h2) (bi' k (by decide)) h5 (A _ _ e1)
  · cases h
theorem map_of {α β : Type} {f : α → β} {o : Option α} {y : β} (h : o.map f = some y) : ∃ x, o = some x ∧ y = f x := by
  cases o with
  | none => cases h
  | some x => cases h; exact ⟨x, rfl, rfl⟩
theorem comp_ok : ∀ (n : Nat) {sc ss : Scope} {X : Cx}, Cok C sc ss Φ X → AllE X Φ (comp C n sc ss)
  | 0, sc, ss, X, k => fun e c h => by cases h
  | n + 1, sc, ss, X, k => fun e c h => by
    have A : AllE X Φ (comp C n sc ss) := comp_ok n k
    unfold comp at h
    split at h
    · cases h; exact s_int
    · cases h; exact s_bl
    · cases h; exact s_non
    · cases h; exact s_str
    · obtain ⟨i, e1, rfl⟩ := map_of h
      obtain ⟨q1, q2, q3, q4⟩ := slot_ok k e1
      exact s_var q1 q2 q3 q4
    · split at h
      · rename_i e1 e2 e3; cases h; exact s_bin e1 (A _ _ e2) (A _ _ e3)
      · cases h
    · obtain ⟨c', e1, rfl⟩ := map_of h; exact s_neg (A _ _ e1)
    · obtain ⟨c', e1, rfl⟩ := map_of h; exact s_not (A _ _ e1)
    · split at h
      · rename_i e1 e2 e3
        split at h
        · rename_i hm; cases h; exact s_cmp k.hu e1 hm (A _ _ e2) (A _ _ e3)
        · cases h
      · cases h
    · split at h
      · rename_i e1 e1' e2 e3 e4
        split at h
        · rename_i hm; cases h; exact s_chain k.hu e1 e1' hm (A _ _ e2) (A _ _ e3) (A _ _ e4)
        · cases h
      · cases h
    · split at h
      · rename_i e1
        split at h
        · rename_i hv; cases h; exact (boolE_ok A e1).snd hv
        · cases h
      · cases h
    · split at h
      · rename_i e1 e2 e3; cases h; exact s_ite (A _ _ e1) (A _ _ e2) (A _ _ e3)
      · cases h
    · obtain ⟨c', e1, rfl⟩ := map_of h; exact s_tup (mapE_F A e1)
    · obtain ⟨c', e1, rfl⟩ := map_of h; exact s_lst (mapE_F A e1)
    · cases h; exact s_dnil
    · split at h
      · rename_i e1 e2
        cases h
        cases C.dtup with
        | false => exact s_dsp (A _ _ e1) (A _ _ e2)
        | true => exact s_dspT k.hu (A _ _ e1) (A _ _ e2)
      · cases h
    · obtain ⟨c', e1, rfl⟩ := map_of h; exact s_sl00 (A _ _ e1)
    · split at h
      · rename_i e1 e2; cases h; exact s_sl10 (A _ _ e1) (A _ _ e2)
      · cases h
    · split at h
      · rename_i e1 e2; cases h; exact s_sl01 (A _ _ e1) (A _ _ e2)
      · cases h
    · split at h
      · rename_i e1 e2 e3; cases h; exact s_sl11 (A _ _ e1) (A _ _ e2) (A _ _ e3)
      · cases h
    · split at h
      · rename_i hi
        subst hi
        obtain ⟨c', e1, rfl⟩ := map_of h
        exact s_rev (A _ _ e1)
      · cases h
    · split at h
      · rename_i hs
        split at h
        · rename_i e1 e2; cases h; exact s_idx k.hu hs (A _ _ e1) (A _ _ e2)
        · cases h
      · cases h
    · split at h
      · split at h
        · rename_i hx
          obtain ⟨rfl, rfl⟩ := hx
          exact lrE_ok k A h
        · exact callE_ok k A h
      · split at h
        · rename_i hx
          obtain ⟨rfl, rfl⟩ := hx
          exact ssE_ok k A h
        · exact callE_ok k A h
      · split at h
        · rename_i hx
          subst hx
          exact isiE_ok k A h
        · exact callE_ok k A h
      · exact callE_ok k A h
    · split at h
      · rename_i hc
        obtain ⟨rfl, h1, h2, h3⟩ := hc
        split at h
        · rename_i e1 e2; cases h; exact s_get1 k.hu h1 h2 h3 (A _ _ e1) (A _ _ e2)
        · cases h
      · cases h
    · split at h
      · rename_i hc
        obtain ⟨rfl, h1, h2, h3, h4⟩ := hc
        split at h
        · rename_i e1 e2 e3; cases h; exact s_get2 k.hu h1 h2 h3 h4 (A _ _ e1) (A _ _ e2) (A _ _ e3)
        · cases h
      · cases h
    · obtain ⟨ctg, cit, celt, cs, rfl, h1, h2, h3, h4, h5, h6, h7⟩ := lcE_ok k A (fun Y kY => comp_ok n kY) h
      exact s_lc k.calm k.nd h1 h2 h3 h4 h5 h6 h7
    · cases h
/-! ### statements -/
theorem parC_one {x : Str} {px : Pos} {xs : List (Str × Pos)} {vs : List Expr} (h : parC sc xs vs = true) (m : (x, px) ∈ xs) : sc.names.lookup x = some .local ∧ (px.line == ((xs.head?.map (·.2.line)).getD 0)) = true := by
  unfold parC at h
  simp only [Bool.and_eq_true, List.all_eq_true] at h
  obtain ⟨⟨⟨⟨h1, _⟩, _⟩, _⟩, _⟩ := h
  have := h1 _ m
  exact ⟨kdIs_of this.1, this.2⟩
theorem parC_rest {xs : List (Str × Pos)} {vs : List Expr} (h : parC sc xs vs = true) : (xs.map (·.1)).eraseDups.length = xs.length ∧ vs.all (foldedForSure 8) = false ∧ vs.all (constantsAlone 8) = false ∧ ∀ e ∈ vs, notStar e = true := by
  unfold parC at h
  simp only [Bool.and_eq_true, Bool.not_eq_true'] at h
  obtain ⟨⟨⟨⟨_, h2⟩, h3⟩, h4⟩, h5⟩ := h
  exact ⟨eq_of_beq h2, h3, h4, fun e he => (List.all_eq_true.mp h5) e he⟩
theorem parC_l (k : Cok C sc ss Φ X) {xs : List (Str × Pos)} {vs : List Expr} (h : parC sc xs vs = true) (i : Nat) {p : Str × Pos} (e : xs[i]? = some p) : X.env.scope.names.lookup p.1 = some .local := by
  rw [k.hsc]
  exact (parC_one h (x := p.1) (px := p.2) (List.mem_of_getElem? e)).1
theorem star_any {vs : List Expr} (h : ∀ e ∈ vs, notStar e = true) : (vs.any fun | .Starred .. => true | _ => false) = false := by
  rw [List.any_eq_false]
  intro e he
  have := h e he
  cases e <;> first | (simp; done) | cases this
theorem bk_of (k : Cok C sc ss Φ X) : X.env.blockKind = .function := by
  unfold Env.blockKind
  rw [k.hsc, k.kd]
  rfl
theorem swap2 (k : Cok C sc ss Φ X) {x y : Str} {px py pt pt2 : Pos} {kt k2 : Nat} (h : parC sc [(x, px), (y, py)] [a, b] = true) : swappedStores [.Tuple [.Name x px, .Name y py] kt pt] (.Tuple [a, b] k2 pt2) X.env = pure (some [x, y]) := by
  obtain ⟨h1, _⟩ := parC_one h (x := x) (px := px) (by simp)
  obtain ⟨h2, h2'⟩ := parC_one h (x := y) (px := py) (by simp)
  obtain ⟨h3, h4, h5, h6⟩ := parC_rest h
  have hk := bk_of k
  have k1 : X.env.kindOf x = some .local := by unfold Env.kindOf; rw [k.hsc]; exact h1
  have k2' : X.env.kindOf y = some .local := by unfold Env.kindOf; rw [k.hsc]; exact h2
  have hl : (py.line == px.line) = true := h2'
  have hd : [x, y].eraseDups.length = 2 := h3
  have hs := star_any h6
  unfold swappedStores
  simp only [hk, hs, h4, h5, k1, k2', List.filterMap_cons, List.filterMap_nil, List.head?_cons, Option.map_some, Option.getD_some, Expr.pos, hl, hd]
  simp
  rw [if_neg, if_pos hd]
  have za := h6 a (by simp)
  have zb := h6 b (by simp)
  rintro (z | z)
  · cases a <;> first | (cases za; done) | (cases z; done)
  · cases b <;> first | (cases zb; done) | (cases z; done)
theorem swapN (k : Cok C sc ss Φ X) {x y : Str} {px py pt pt2 : Pos} {kt k2 : Nat} (h : parN sc [x, y] = true) : swappedStores [.Tuple [.Name x px, .Name y py] kt pt] (.Tuple [a, b] k2 pt2) X.env = pure none := by
  have hk := bk_of k
  have h' : X.env.kindOf x ≠ some .local ∨ X.env.kindOf y ≠ some .local := by
    unfold parN kdIs at h
    simp only [List.any_cons, List.any_nil, Bool.or_false, Bool.or_eq_true, Bool.not_eq_true'] at h
    unfold Env.kindOf
    rw [k.hsc]
    rcases h with h | h
    · exact .inl fun z => by rw [z] at h; cases h
    · exact .inr fun z => by rw [z] at h; cases h
  unfold swappedStores
  simp only [hk, List.filterMap_cons, List.filterMap_nil, List.head?_cons, Option.map_some, Option.getD_some, Expr.pos]
  rcases h' with h' | h'
  · have e : (X.env.kindOf x == some .local) = false := by simpa using h'
    simp [e]
    by_cases e2 : X.env.kindOf y = some .local <;> by_cases e3 : py.line = px.line <;> simp [e2, e3]
  · have e : (X.env.kindOf y == some .local) = false := by simpa using h'
    simp [e]
    by_cases e2 : X.env.kindOf x = some .local <;> simp [e2]
theorem swap3 (k : Cok C sc ss Φ X) {x y z : Str} {px py pz pt pt2 : Pos} {kt k2 : Nat} (h : parC sc [(x, px), (y, py), (z, pz)] [a, b, b'] = true) : swappedStores [.Tuple [.Name x px, .Name y py, .Name z pz] kt pt] (.Tuple [a, b, b'] k2 pt2) X.env = pure (some [x, y, z]) := by
  obtain ⟨h1, _⟩ := parC_one h (x := x) (px := px) (by simp)
  obtain ⟨h2, h2'⟩ := parC_one h (x := y) (px := py) (by simp)
  obtain ⟨h7, h7'⟩ := parC_one h (x := z) (px := pz) (by simp)
  obtain ⟨h3, h4, h5, h6⟩ := parC_rest h
  have hk := bk_of k
  have k1 : X.env.kindOf x = some .local := by unfold Env.kindOf; rw [k.hsc]; exact h1
  have k2' : X.env.kindOf y = some .local := by unfold Env.kindOf; rw [k.hsc]; exact h2
  have k3' : X.env.kindOf z = some .local := by unfold Env.kindOf; rw [k.hsc]; exact h7
  have hl : (py.line == px.line) = true := h2'
  have hl3 : (pz.line == px.line) = true := h7'
  have hd : [x, y, z].eraseDups.length = 3 := h3
  have hs := star_any h6
  unfold swappedStores
  simp only [hk, hs, h4, h5, k1, k2', k3', List.filterMap_cons, List.filterMap_nil, List.head?_cons, Option.map_some, Option.getD_some, Expr.pos, hl, hl3, hd]
  simp
  rw [if_neg, if_pos hd]
  have za := h6 a (by simp)
  have zb := h6 b (by simp)
  have zc := h6 b' (by simp)
  rintro (z | z | z)
  · cases a <;> first | (cases za; done) | (cases z; done)
  · cases b <;> first | (cases zb; done) | (cases z; done)
  · cases b' <;> first | (cases zc; done) | (cases z; done)
def AllS (X : Cx) (Φ : List Fn) (ret : Bool) (f : Stmt → Option CS) : Prop := ∀ s c, f s = some c → PS X s (tS X.K Φ ret c)
theorem bodyE_ok {ret : Bool} {f : Stmt → Option CS} (A : AllS X Φ ret f) : ∀ {sts : List Stmt} {cs : CSs}, bodyE f sts = some cs → PSs X sts (tSs X.K Φ ret cs)
  | [], cs, h => by cases h; exact ss_nil
  | s :: r, cs, h => by
    unfold bodyE at h
    cases e1 : f s with
    | none => rw [e1] at h; cases h
    | some c =>
      cases e2 : bodyE f r with
      | none => rw [e1, e2] at h; cases h
      | some cs' =>
        rw [e1, e2] at h
        cases h
        exact ss_cons (A _ _ e1) (bodyE_ok A e2)
theorem swapsE (k : Cok C sc ss Φ X) {elt : Expr} {gs : List Comprehension} {scope : Scope} {lpos p : Pos} {x : Str} {l : Nat} : swapsWith (.ListComp elt gs scope lpos) (some (.Name x p)) l X.env = pure (swB sc x p.line lpos.line scope) := by
  have hk := bk_of k
  show (pure (X.env.blockKind == .function && X.env.kindOf x == some .local && p.line == lpos.line && !(scope.names.any fun (n, k) => n == x && (k == .local || k == .cell))) : Sem Bool) = _
  unfold swB
  rw [hk, k.kd]
  unfold Env.kindOf
  rw [k.hsc]
theorem dvE_set {e : Expr} (h : dvE C e = true) : isSetE e = false := by
  cases e <;> first | rfl | cases h
theorem isTupT_of {e : Expr} (h : isTupT e = true) : ∃ a b c, e = .Tuple a b c := by
  cases e with
  | Tuple a b c => exact ⟨a, b, c, rfl⟩
  | _ => cases h
theorem compS_ok {ret : Bool} (k : Cok C sc sc Φ X) : ∀ (n : Nat), AllS X Φ ret (compS C sc n)
  | 0 => fun s c h => by cases h
  | n + 1 => fun s c h => by
    have AS : AllS X Φ ret (compS C sc n) := compS_ok k n
    have A : AllE X Φ (comp C fuelE sc sc) := comp_ok fuelE k
    unfold compS at h
    split at h
    · -- name = value
      rename_i x p e pos
      split at h
      case h_2 => cases h
      rename_i i c' e1 e2
      obtain ⟨l1, l2, l3⟩ := lslot_ok k e1
      split at h
      · rename_i elt tg iter ifs scope lpos
        cases h
        cases hs : swB sc x p.line lpos.line scope with
        | false => exact p_asg k.nd l1 l2 l3 (A _ _ e2).t (by rw [swapsE k, hs])
        | true =>
          have e3 : lcE C sc (comp C 39 sc sc) (comp C 39 (relS scope sc) scope) elt tg iter ifs scope = some c' := e2
          obtain ⟨ctg, cit, celt, cs, rfl, h1, h2, h3, h4, h5, h6, h7⟩ := lcE_ok k (comp_ok 39 k) (fun Y kY => comp_ok 39 kY) e3
          have hl : X.env.scope.names.lookup x = some .local := by
            rw [k.hsc]
            unfold swB at hs
            simp only [Bool.and_eq_true] at hs
            exact eq_of_beq hs.1.1.2
          exact p_setLc k.calm k.nd l1 hl (by rw [swapsE k, hs]) h1 h2 h3 h4 h5 h6 h7
      · split at h
        · rename_i hc
          cases h
          exact p_asg k.nd l1 l2 l3 (A _ _ e2).t (sw_no hc)
        · cases h
    · -- name[i] = value
      split at h
      · rename_i e1 e2 e3
        split at h
        · rename_i hc
          cases h
          obtain ⟨q1, q2, q3, q4⟩ := slot_ok k e1
          exact p_setix k.hu q1 q2 q3 q4 hc.1 hc.2 (A _ _ e2) (A _ _ e3)
        · cases h
      · cases h
    · -- a, b = value
      split at h
      · split at h
        · rename_i hp
          split at h
          · rename_i e1 e2 e3 e4
            split at h
            · cases h
            · rename_i hij
              cases h
              obtain ⟨l1, _, _⟩ := lslot_ok k e1
              obtain ⟨m1, _, _⟩ := lslot_ok k e2
              have z := (parC_rest hp).2.2.2
              exact p_par2 k.calm k.nd l1 m1 hij (parC_l k hp 0 rfl) (parC_l k hp 1 rfl) (z _ (by simp)) (z _ (by simp)) (A _ _ e3) (A _ _ e4) (swap2 k hp)
          · cases h
        · split at h
          · rename_i hn
            split at h
            · rename_i e1 e2
              cases h
              obtain ⟨q1, q2, q3⟩ := tgNs_ok k e1
              exact p_asgT (swapN k hn) rfl (A _ _ e2).t (g_tup k.calm q1 q2 q3)
            · cases h
          · cases h
      · split at h
        · rename_i hp
          split at h
          · rename_i e1 e2 e3 e4 e5 e6
            split at h
            · cases h
            · rename_i hij
              cases h
              obtain ⟨l1, _, _⟩ := lslot_ok k e1
              obtain ⟨m1, _, _⟩ := lslot_ok k e2
              obtain ⟨o1, _, _⟩ := lslot_ok k e3
              have z := (parC_rest hp).2.2.2
              simp only [not_or] at hij
              exact p_par3 k.calm k.nd l1 m1 o1 hij.1 hij.2.1 hij.2.2 (parC_l k hp 0 rfl) (parC_l k hp 1 rfl) (parC_l k hp 2 rfl) (z _ (by simp)) (z _ (by simp)) (z _ (by simp)) (A _ _ e4) (A _ _ e5) (A _ _ e6) (swap3 k hp)
          · cases h
        · cases h
      · split at h
        · rename_i hc
          split at h
          · rename_i e1 e2
            cases h
            obtain ⟨q1, q2, q3⟩ := tgNs_ok k e1
            exact p_asgT (st_no hc.1) hc.2 (A _ _ e2).t (g_tup k.calm q1 q2 q3)
          · cases h
        · cases h
    · split at h
      · rename_i e1 e2 e3
        split at h
        · rename_i hc
          cases h
          obtain ⟨l1, l2, l3⟩ := lslot_ok k e1
          exact p_aug e2 hc k.nd l1 l2 l3 (A _ _ e3)
        · cases h
      · cases h
    · split at h
      · rename_i hc
        obtain ⟨rfl, h1, h2⟩ := hc
        split at h
        · rename_i e1 e2
          cases h
          obtain ⟨q1, q2, q3, q4⟩ := slot_ok k e1
          exact p_app q1 q2 q3 q4 h1 h2 (A _ _ e2)
        · cases h
      · cases h
    · split at h
      · rename_i e1 e2 e3
        cases h
        exact p_if (A _ _ e1) (bodyE_ok AS e2) (bodyE_ok AS e3)
      · cases h
    · cases h; exact p_retn
    · obtain ⟨i, e1, rfl⟩ := map_of h
      obtain ⟨q1, q2, q3, q4⟩ := slot_ok k e1
      exact p_retv q1 q2 q3 q4
    · split at h
      · rename_i e1
        split at h
        · rename_i hv; cases h; exact p_ret hv (A _ _ e1)
        · cases h
      · cases h
    · split at h
      · rename_i e1 e2
        split at h
        · split at h
          · rename_i hc
            obtain ⟨rfl, h1, h2, h3⟩ := hc
            obtain ⟨c', e3, rfl⟩ := map_of h
            obtain ⟨elts, kk, tp, rfl⟩ := isTupT_of h1
            exact p_items k.xe k.calm h2 h3 (A _ _ e3) (tgE_ok k e1) (bodyE_ok AS e2)
          · cases h
        · split at h
          · rename_i hd
            obtain ⟨c', e3, rfl⟩ := map_of h
            exact p_keys k.xe k.calm (set_no (dvE_set hd)) (A _ _ e3) (tgE_ok k e1) (bodyE_ok AS e2)
          · split at h
            · rename_i e3
              split at h
              · rename_i hs
                cases h
                exact p_for k.xe k.calm (itE_ok k A e3) (tgE_ok k e1) (bodyE_ok AS e2) (set_no hs)
              · cases h
            · cases h
      · cases h
    · split at h
      · rename_i e1 e2
        cases h
        exact p_while k.xe (A _ _ e1) (bodyE_ok AS e2)
      · cases h
    · cases h
end
end Pv

/-! Pv13: a def by its code; the law's head. -/
namespace Pv
open PySem PySem.Spec PyProof.Rows L2
section
variable {P : Program} {w : World} {K : PySem.W.Frag} {mg : Str → Option Value} {base : Heap}
/-- the def at a name runs as F; j: how deep it calls -/
structure Kd (P : Program) (w : World) (K : PySem.W.Frag) (mg : Str → Option Value) (base : Heap) (j : Nat) (nm : Str) (F : Fn) : Prop where
  ex : ∃ (f : Addr) (fd : FuncData) (ps : List Str), mg nm = some (.ref f) ∧ PySem.W.keepIn K (.ref f) = true ∧ Binds K fd ps [] ∧ FnOk P w K mg base CX0 j f fd ps (spF K F)
theorem start_st {F : AP} {H : Hp} {N : List Str} {vs : List V} {ds : List D} (dm : Dm F H) (r : RpL K F H vs ds) : Stt K F H F H (L2.start N vs) (ds.map some ++ List.replicate (N.length - ds.length) none) (List.replicate N.length.succ.pred false ++ List.replicate (ds.length - N.length) false) := by
  have hl := r.length
  have no : ∀ j, (List.replicate N.length.succ.pred false ++ List.replicate (ds.length - N.length) false).getD j false = false := fun j => by
    rw [List.replicate_append_replicate, List.getD_eq_getElem?_getD, List.getElem?_replicate]
    split <;> rfl
  have nO : ∀ j a, ¬ Owns (L2.start N vs) (ds.map some ++ List.replicate (N.length - ds.length) none) (List.replicate N.length.succ.pred false ++ List.replicate (ds.length - N.length) false) j a := fun j a o => by
    have := o.1
    rw [no j] at this
    cases this
  refine ⟨⟨?_, ?_, fun i => ?_, fun i j a o => absurd o (nO i a)⟩, Gr.refl dm, fun i a o => absurd o (nO i a)⟩
  · unfold L2.start
    simp [hl]
  · simp
    omega
  · rw [no i]
    unfold SlotOk
    by_cases h : i < ds.length
    · have e1 : (ds.map some ++ List.replicate (N.length - ds.length) none).getD i none = some ds[i] := by
        rw [List.getD_eq_getElem?_getD, List.getElem?_append_left (by simpa using h), List.getElem?_map, List.getElem?_eq_getElem h]
        rfl
      rw [e1]
      simp only [Bool.false_and]
      rw [if_neg Bool.false_ne_true]
      obtain ⟨v, ev, rv⟩ := r.get (List.getElem?_eq_getElem h)
      refine ⟨v, ?_, rv⟩
      have hv : i < vs.length := by rw [hl]; exact h
      unfold L2.start
      rw [List.getD_eq_getElem?_getD, List.getElem?_append_left (by simpa using hv), List.getElem?_map, ev]
      rfl
    · have e1 : (ds.map some ++ List.replicate (N.length - ds.length) none).getD i none = none := by
        rw [List.getD_eq_getElem?_getD, List.getElem?_append_right (by simpa using Nat.le_of_not_lt h), List.getElem?_replicate]
        split <;> rfl
      rw [e1]
      trivial
/-- what is asked of a def's code -/
def okC (fr : Nat → Bool) (ret : Bool) (N : List Str) (cs : CSs) : Bool := (cks fr ret cs (List.replicate N.length false)).isSome
theorem fn_okF {x : Str} {st : Stmt} {f : Addr} {fd : FuncData} {ps : List Str} {C : Cc} {Φ : List Fn} {cs : CSs} {kk : Nat} {fr : Bool} (F : Fun K x x st f fd) (S : FnScope C.N ps (defScope st)) (hp : ps.length ≤ C.N.length)
    (hc : bodyE (compS C (defScope st) 40) (defBody st) = some cs) (ho : okC (frs Φ) fr C.N cs = true) (bi : ∀ y ∈ bNames, mg y = none) (len : Φ.length = C.fns.length)
    (hf : ∀ (k : Nat) (G : Fn) (nm : Str), Φ[k]? = some G → C.fns[k]? = some nm → ∃ j, j ≤ kk ∧ Kd P w K mg base j nm G) : FnOk P w K mg base CX0 (kk + 1) f fd ps (spF K ⟨ps.length, runF Φ cs C.N.length, fr⟩) := by
  refine F.ok S (fun vs H Q E h => h.1) fun cdv A outer s H vs Q E hr hsp => ?_
  obtain ⟨hl, Fz, ds, d, dm, rl, e, k⟩ := hsp
  have hl : vs.length = ps.length := hl
  have hdl : ds.length = ps.length := by rw [← rl.length]; exact hl
  have kX : Cok C (defScope st) (defScope st) Φ (cxOf CX0 P w K mg base C.N x (defScope st) f cdv A outer s H E).nox := by
    refine ⟨rfl, S.nd, rfl, S.kind, rfl, ?_, fun y h1 h2 => .inl rfl, bi, len, fun j G nm h1 h2 => ?_, rfl⟩
    · have := hr.un
      show (A.deeper _).units + 65 < cLine
      omega
    · obtain ⟨j', hj, ⟨f', fd', ps', q1, q2, q3, q4⟩⟩ := hf j G nm h1 h2
      exact ⟨f', fd', ps', j', q1, q2, q3, q4, hr.mono hj⟩
  refine ⟨_, bodyE_ok (ret := fr) (compS_ok kX 40) hc, ?_⟩
  unfold okC at ho
  cases eo : cks (frs Φ) fr cs (List.replicate C.N.length false) with
  | none => rw [eo] at ho; cases ho
  | some r =>
    have s0 := start_st (N := C.N) dm rl
    have e0 : List.replicate C.N.length.succ.pred false ++ List.replicate (ds.length - C.N.length) false = List.replicate C.N.length false := by
      rw [show ds.length - C.N.length = 0 by omega]
      simp
    rw [e0] at s0
    have e' : runF Φ cs C.N.length ds = some d := e
    unfold runF at e'
    cases ee : exs Φ cs (ds.map some ++ List.replicate (C.N.length - ds.length) none) with
    | none => rw [ee] at e'; cases e'
    | some out =>
      rw [ee] at e'
      refine ⟨Fz, H, Fz, _, _, out, r, s0, eo, ee, ?_⟩
      cases out with
      | rt d' => cases e'; exact fun F' H' v _ g rv => k F' H' v g rv
      | nx env' =>
        cases e'
        intro F' H' σ' kp s'
        cases r with
        | none => exact s'.elim
        | some o => exact k F' H' .non (Stt.gr s') (RpO.flat .non rfl)
theorem kd_ok {x : Str} {st : Stmt} {f : Addr} {fd : FuncData} {ps : List Str} {C : Cc} {Φ : List Fn} {cs : CSs} {kk : Nat} {fr : Bool} (hb : Binds K fd ps []) (hm : mg x = some (.ref f)) (F : Fun K x x st f fd) (S : FnScope C.N ps (defScope st)) (hp : ps.length ≤ C.N.length)
    (hc : bodyE (compS C (defScope st) 40) (defBody st) = some cs) (ho : okC (frs Φ) fr C.N cs = true) (bi : ∀ y ∈ bNames, mg y = none) (len : Φ.length = C.fns.length)
    (hf : ∀ (k : Nat) (G : Fn) (nm : Str), Φ[k]? = some G → C.fns[k]? = some nm → ∃ j, j ≤ kk ∧ Kd P w K mg base j nm G) : Kd P w K mg base (kk + 1) x ⟨ps.length, runF Φ cs C.N.length, fr⟩ :=
  ⟨f, fd, ps, hm, F.kp, hb, fn_okF F S hp hc ho bi len hf⟩
/-- nothing is known of the def -/
def fnNo (n : Nat) (fr : Bool) : Fn := ⟨n, fun _ => none, fr⟩
theorem kd_no {x : Str} {st : Stmt} {f : Addr} {fd : FuncData} {ps N : List Str} {kk : Nat} {fr : Bool} (hb : Binds K fd ps []) (hm : mg x = some (.ref f)) (F : Fun K x x st f fd) (S : FnScope N ps (defScope st)) : Kd P w K mg base (kk + 1) x (fnNo ps.length fr) :=
  ⟨f, fd, ps, hm, F.kp, hb, F.ok S (fun vs H Q E h => h.1) fun cdv A outer s H vs Q E hr hsp => by
    obtain ⟨_, _, _, _, _, _, e, _⟩ := hsp
    cases e⟩
theorem bi_mk {h : Heap} (X : K.In h) (G : h.Ns mainGlobals mg)
    (z1 : PySem.W.nsIn K mainGlobals "len" = some none) (z2 : PySem.W.nsIn K mainGlobals "max" = some none) (z3 : PySem.W.nsIn K mainGlobals "min" = some none) (z4 : PySem.W.nsIn K mainGlobals "sum" = some none) (z5 : PySem.W.nsIn K mainGlobals "all" = some none) (z6 : PySem.W.nsIn K mainGlobals "list" = some none)
    (z7 : PySem.W.nsIn K mainGlobals "tuple" = some none) (z8 : PySem.W.nsIn K mainGlobals "int" = some none) (z9 : PySem.W.nsIn K mainGlobals "bool" = some none) (z10 : PySem.W.nsIn K mainGlobals "str" = some none) (z11 : PySem.W.nsIn K mainGlobals "isinstance" = some none) (z12 : PySem.W.nsIn K mainGlobals "range" = some none)
    (z13 : PySem.W.nsIn K mainGlobals "enumerate" = some none) (z14 : PySem.W.nsIn K mainGlobals "zip" = some none) (z15 : PySem.W.nsIn K mainGlobals "sorted" = some none) (z16 : PySem.W.nsIn K mainGlobals "set" = some none) : ∀ y ∈ bNames, mg y = none := by
  intro y hy
  simp only [bNames, List.mem_cons, List.mem_nil_iff, or_false] at hy
  rcases hy with rfl | rfl | rfl | rfl | rfl | rfl | rfl | rfl | rfl | rfl | rfl | rfl | rfl | rfl | rfl | rfl <;> exact PySem.W.mg_none_of X G (by assumption)
/-- the law holds at every script that its head gives -/
theorem law_sp {F : Fn} {n : Nat} (har : F.ar = 1) (h : ∀ ns : List Int, ns.length ≤ n → F.run [.scr ns] = some (.bl true)) {H : Hp} {a : Addr} {ns : List Int} (hl : ns.length ≤ n) (hS : SqL K H a (ns.map V.int)) : spF K F [.ref a] H (fun v _ => v = .bl true) fun _ _ _ => False := by
  refine ⟨har.symm, fun b => H b ≠ none, [.scr ns], .bl true, fun b hb => hb, ?_, h ns hl, fun F' H' v g r => ?_⟩
  · refine .cons (.scr (hS.imp (fun r => ⟨?_, r⟩) id)) .nil
    intro z
    rcases r with r | ⟨od, r⟩ <;> (rw [z] at r; cases r)
  · have r' : Rp K F' H' v (.bl true) := by
      unfold RpO at r
      rw [if_neg (by simp [D.isMut])] at r
      exact r
    exact r'.bl_of
end
end Pv

/-! Pv13f: == and «in» on ints and tuples of ints, quick in the kernel. -/
namespace Pv
open PySem L2
def eqI : List Int → List Int → Bool
  | [], [] => true
  | x :: xs, y :: ys => match decide (x = y) with
    | true => eqI xs ys
    | false => false
  | _, _ => false
def eqF : D → D → Option Bool
  | .int i, .int j => some (decide (i = j))
  | .tup xs, .tup ys => match ints? xs, ints? ys with
    | some is, some js => some (eqI is js)
    | _, _ => none
  | .lst xs, .lst ys => match ints? xs, ints? ys with
    | some is, some js => some (eqI is js)
    | _, _ => none
  | _, _ => none
def memT (is : List Int) : List D → Option Bool
  | [] => some false
  | .tup xs :: r => match ints? xs with
    | none => none
    | some js => match memT is r with
      | none => none
      | some b => some (eqI js is || b)
  | _ :: _ => none
def memF : D → D → Option Bool
  | .tup xs, .lst ds => match ints? xs with
    | some is => memT is ds
    | none => none
  | _, _ => none
def dcmpF (op : COp) (a b : D) : Option Bool := match op with
  | .eq => match eqF a b with
    | some k => some k
    | none => dcmp .eq a b
  | .ne => match eqF a b with
    | some k => some (!k)
    | none => dcmp .ne a b
  | .inn => match memF a b with
    | some k => some k
    | none => dcmp .inn a b
  | .nin => match memF a b with
    | some k => some (!k)
    | none => dcmp .nin a b
  | op => dcmp op a b
theorem ints_of : ∀ {xs : List D} {is : List Int}, ints? xs = some is → xs = is.map .int
  | [], is, h => by cases h; rfl
  | x :: r, is, h => by
    cases x with
    | int i =>
      unfold ints? at h
      cases e : ints? r with
      | none => rw [e] at h; cases h
      | some js => rw [e] at h; cases h; rw [ints_of e]; rfl
    | _ => cases h
theorem lay_ints : ∀ is : List Int, PyData.canLayAll0 (pyL (is.map .int)) = true
  | [] => rfl
  | i :: r => by
    show (PyData.canLay0 (.int i) && PyData.canLayAll0 (pyL (r.map .int))) = true
    rw [lay_ints r]; rfl
theorem dep_ints : ∀ is : List Int, PyData.depthAll (pyL (is.map .int)) = 0
  | [] => rfl
  | i :: r => by
    show max (PyData.depth (.int i)) (PyData.depthAll (pyL (r.map .int))) = 0
    rw [dep_ints r]; rfl
theorem eqv_ints : ∀ is js : List Int, PyData.eqvAll (pyL (is.map .int)) (pyL (js.map .int)) = eqI is js
  | [], [] => rfl
  | [], _ :: _ => rfl
  | _ :: _, [] => rfl
  | i :: r, j :: s => by
    show (PyData.eqv (.int i) (.int j) && PyData.eqvAll (pyL (r.map .int)) (pyL (s.map .int))) = _
    rw [eqv_ints r s]
    show ((i == j) && eqI r s) = (match decide (i = j) with | true => eqI r s | false => false)
    by_cases h : i = j
    · subst h; simp
    · simp [h]
theorem shaped_tup (is : List Int) : SeqAt.shaped (py (.tup (is.map .int))) = true := by
  show (PyData.canLayAll0 (pyL (is.map .int)) && decide (PyData.depthAll (pyL (is.map .int)) + 1 ≤ 64)) = true
  rw [lay_ints, dep_ints]; rfl
theorem shaped_lst (is : List Int) : SeqAt.shaped (py (.lst (is.map .int))) = true := by
  show (PyData.canLayAll0 (pyL (is.map .int)) && decide (PyData.depthAll (pyL (is.map .int)) + 1 ≤ 64)) = true
  rw [lay_ints, dep_ints]; rfl
theorem eqF_ok {a b : D} {k : Bool} (h : eqF a b = some k) : deq a b = some k := by
  unfold eqF at h
  split at h
  · rename_i i j
    cases h
    show some (i == j) = _
    by_cases e : i = j <;> simp [e]
  · split at h
    · rename_i e1 e2
      cases h
      rw [ints_of e1, ints_of e2]
      unfold deq
      rw [shaped_tup, shaped_tup]
      show some (PyData.eqvAll _ _) = _
      rw [eqv_ints]
    · cases h
  · split at h
    · rename_i e1 e2
      cases h
      rw [ints_of e1, ints_of e2]
      unfold deq
      rw [shaped_lst, shaped_lst]
      show some (PyData.eqvAll _ _) = _
      rw [eqv_ints]
    · cases h
  · cases h
theorem memT_ok {is : List Int} : ∀ {ds : List D} {k : Bool}, memT is ds = some k → PyData.canLayAll0 (pyL ds) = true ∧ PyData.depthAll (pyL ds) ≤ 1 ∧ (ds.any fun z => PyData.eqv (py z) (py (.tup (is.map .int)))) = k
  | [], k, h => by cases h; exact ⟨rfl, by decide, rfl⟩
  | x :: r, k, h => by
    cases x with
    | tup xs =>
      unfold memT at h
      split at h
      · cases h
      · rename_i js e1
        split at h
        · cases h
        · rename_i b e2
          cases h
          obtain ⟨q1, q2, q3⟩ := memT_ok e2
          rw [ints_of e1]
          refine ⟨?_, ?_, ?_⟩
          · show (PyData.canLayAll0 (pyL (js.map .int)) && PyData.canLayAll0 (pyL r)) = true
            rw [lay_ints, q1]; rfl
          · show max (PyData.depthAll (pyL (js.map .int)) + 1) (PyData.depthAll (pyL r)) ≤ 1
            rw [dep_ints]; omega
          · show (PyData.eqvAll (pyL (js.map .int)) (pyL (is.map .int)) || r.any _) = _
            rw [q3, eqv_ints]
    | _ => cases h
theorem memF_ok {a b : D} {k : Bool} (h : memF a b = some k) : (∃ xs ds, a = .tup xs ∧ b = .lst ds) ∧ dmem a b = some k := by
  unfold memF at h
  split at h
  · rename_i xs ds
    split at h
    · rename_i is e1
      obtain ⟨q1, q2, q3⟩ := memT_ok h
      refine ⟨⟨_, _, rfl, rfl⟩, ?_⟩
      rw [ints_of e1]
      unfold dmem
      have s2 : SeqAt.shaped (py (.lst ds)) = true := by
        show (PyData.canLayAll0 (pyL ds) && decide (PyData.depthAll (pyL ds) + 1 ≤ 64)) = true
        rw [q1, decide_eq_true (show PyData.depthAll (pyL ds) + 1 ≤ 64 by omega)]; rfl
      simp only [shaped_tup, s2, Bool.and_self, if_true, q3]
    · cases h
  · cases h
theorem dcmpF_eq (op : COp) (a b : D) : dcmpF op a b = dcmp op a b := by
  cases op with
  | eq =>
    unfold dcmpF
    simp only
    split
    · rename_i e; exact (eqF_ok e).symm
    · rfl
  | ne =>
    unfold dcmpF
    simp only
    split
    · rename_i e
      show _ = (match deq a b with | some k => some (!k) | none => none)
      rw [eqF_ok e]
    · rfl
  | inn =>
    unfold dcmpF
    simp only
    split
    · rename_i e
      obtain ⟨⟨xs, ds, rfl, rfl⟩, q⟩ := memF_ok e
      exact q.symm
    · rfl
  | nin =>
    unfold dcmpF
    simp only
    split
    · rename_i e
      obtain ⟨⟨xs, ds, rfl, rfl⟩, q⟩ := memF_ok e
      show _ = (match dmem (.tup xs) (.lst ds) with | some k => some (!k) | none => none)
      rw [q]
    · rfl
  | _ => rfl
end Pv

/-! Pv14: the same semantics by recursors (quick in the kernel), and that a smaller environment gives no other answer. -/
namespace Pv
open PySem L2
abbrev RD := En → Option D
structure RS where
  s : En → Option (List D)
  c : En → Option Bool
section
variable (Φ : List Fn)
def m_var (i : Nat)  : RD := fun env => env.getD i none
def m_cint (i : Int)  : RD := fun _ => some (.int i)
def m_cbl (b : Bool)  : RD := fun _ => some (.bl b)
def m_cnon   : RD := fun _ => some .non
def m_cstr (x : Str)  : RD := fun _ => some (.str x)
def m_bin (op : BOp) (xa : CE) (xb : CE) (ra : RD) (rb : RD) : RD := fun env => match ra env with
  | none => none
  | some x => match rb env with
    | none => none
    | some y => dbin op x y
def m_neg  (xa : CE) (ra : RD) : RD := fun env => match ra env with
  | some (.int i) => some (.int (-i))
  | _ => none
def m_cmp (op : COp) (xa : CE) (xb : CE) (ra : RD) (rb : RD) : RD := fun env => match ra env with
  | none => none
  | some x => match rb env with
    | none => none
    | some y => match dcmpF op x y with
      | some k => some (.bl k)
      | none => none
def m_chain (op op' : COp) (xa : CE) (xb : CE) (xc : CE) (ra : RD) (rb : RD) (rc : RD) : RD := fun env => match ra env with
  | none => none
  | some x => match rb env with
    | none => none
    | some y => match dcmpF op x y with
      | none => none
      | some false => some (.bl false)
      | some true => match rc env with
        | none => none
        | some z => match dcmpF op' y z with
          | some k => some (.bl k)
          | none => none
def m_andd  (xa : CE) (xb : CE) (ra : RD) (rb : RD) : RD := fun env => match ra env with
  | some (.bl false) => some (.bl false)
  | some (.bl true) => (match rb env with
    | some (.bl k) => some (.bl k)
    | _ => none)
  | _ => none
def m_orr  (xa : CE) (xb : CE) (ra : RD) (rb : RD) : RD := fun env => match ra env with
  | some (.bl true) => some (.bl true)
  | some (.bl false) => (match rb env with
    | some (.bl k) => some (.bl k)
    | _ => none)
  | _ => none
def m_nott  (xa : CE) (ra : RD) : RD := fun env => match ra env with
  | some (.bl k) => some (.bl (!k))
  | _ => none
def m_ite  (xc : CE) (xa : CE) (xb : CE) (rc : RD) (ra : RD) (rb : RD) : RD := fun env => match rc env with
  | some (.bl true) => ra env
  | some (.bl false) => rb env
  | _ => none
def m_tup  (xE : CEs) (rE : RS) : RD := fun env => match rE.s env with
  | some ds => if ds.length ≤ sizeLine then some (.tup ds) else none
  | none => none
def m_lst  (xE : CEs) (rE : RS) : RD := fun env => match rE.s env with
  | some ds => if ds.length ≤ sizeLine then some (.lst ds) else none
  | none => none
def m_dnil (t : Bool)  : RD := fun _ => some (if t then .dt [] else .dk [])
def m_dsp (t : Bool) (xk : CE) (xv : CE) (rk : RD) (rv : RD) : RD := fun env => match rk env with
  | none => none
  | some x => match rv env with
    | none => none
    | some y => dput (if t then .dt [] else .dk []) x y
def m_idx  (xa : CE) (xb : CE) (ra : RD) (rb : RD) : RD := fun env => match ra env with
  | none => none
  | some x => match rb env with
    | none => none
    | some y => didx x y
def m_sl00  (xa : CE) (ra : RD) : RD := fun env => match ra env with
  | none => none
  | some x => dslice x none none
def m_sl10  (xa : CE) (xl : CE) (ra : RD) (rl : RD) : RD := fun env => match ra env with
  | none => none
  | some x => match rl env with
    | some (.int i) => dslice x (some i) none
    | _ => none
def m_sl01  (xa : CE) (xh : CE) (ra : RD) (rh : RD) : RD := fun env => match ra env with
  | none => none
  | some x => match rh env with
    | some (.int j) => dslice x none (some j)
    | _ => none
def m_sl11  (xa : CE) (xl : CE) (xh : CE) (ra : RD) (rl : RD) (rh : RD) : RD := fun env => match ra env with
  | none => none
  | some x => match rl env with
    | some (.int i) => (match rh env with
      | some (.int j) => dslice x (some i) (some j)
      | _ => none)
    | _ => none
def m_rev  (xa : CE) (ra : RD) : RD := fun env => match ra env with
  | none => none
  | some x => drev x
def m_call (k : Nat) (xE : CEs) (rE : RS) : RD := fun env => match rE.s env with
  | none => none
  | some ds => match Φ[k]? with
    | some F => if ds.length = F.ar then F.run ds else none
    | none => none
def m_blt (f : BF) (xE : CEs) (rE : RS) : RD := fun env => match rE.s env with
  | none => none
  | some ds => dblt f ds
def m_mth (m : MF) (xo : CE) (xE : CEs) (ro : RD) (rE : RS) : RD := fun env => match ro env with
  | none => none
  | some x => match rE.s env with
    | none => none
    | some ds => dmth m x ds
def m_lrng  (xa : CE) (xb : CE) (ra : RD) (rb : RD) : RD := fun env => match ra env with
  | some (.int i) => (match rb env with
    | some (.int j) => if smallR i && smallR j && decide ((j - i).toNat ≤ sizeLine) then some (.lst (rngD i 1 (j - i).toNat)) else none
    | _ => none)
  | _ => none
def m_lc (elt : CE) (tg : Tg) (it : CIt) (cs : CEs) (own : List Nat) (re : RD) (ri : En → Option (List D)) (rc : RS) : RD := fun env => match ri env with
    | none => none
    | some xs => match lcL (fun x => match setT tg (wipeE env own) x with
        | none => none
        | some env' => match rc.c env' with
          | none => none
          | some false => some none
          | some true => match re env' with
            | none => none
            | some y => some (some y)) xs with
      | none => none
      | some ys => if xs.length ≤ sizeLine then some (.lst ys) else none
def m_nil : RS := ⟨fun _ => some [], fun _ => some true⟩
def isNil : CEs → Bool
  | .nil => true
  | _ => false
def m_cons (e : CE) (r : CEs) (re : RD) (rr : RS) : RS := ⟨fun env => match re env with
    | none => none
    | some x => match rr.s env with
      | none => none
      | some xs => some (x :: xs), fun env => match r with
    | .nil => (match re env with
      | some (.bl k) => some k
      | _ => none)
    | .cons _ _ => none⟩
abbrev RL := En → Option (List D)
def m_rng1 (a : CE) (ra : RD) : RL := fun env => match ra env with
    | some (.int j) => if smallR j then some (rngD 0 1 j.toNat) else none
    | _ => none
def m_rng2 (a b : CE) (ra rb : RD) : RL := fun env => match ra env with
    | some (.int i) => (match rb env with
      | some (.int j) => if smallR i && smallR j then some (rngD i 1 (j - i).toNat) else none
      | _ => none)
    | _ => none
def m_rngd (a b : CE) (ra rb : RD) : RL := fun env => match ra env with
    | some (.int i) => (match rb env with
      | some (.int j) => if smallR i && smallR j then some (rngD i (-1) (i - j).toNat) else none
      | _ => none)
    | _ => none
def m_seq (a : CE) (ra : RD) : RL := fun env => match ra env with
    | some x => seq? x
    | none => none
def m_keys (a : CE) (ra : RD) : RL := fun env => match ra env with
    | some x => keysD x
    | none => none
def m_enum (a : CE) (ra : RD) : RL := fun env => match ra env with
    | some (.lst xs) => some (enumD 0 xs)
    | some (.tup xs) => some (enumD 0 xs)
    | _ => none
def m_zip (a b : CE) (ra rb : RD) : RL := fun env => match ra env with
    | none => none
    | some x => match rb env with
      | none => none
      | some y => match x, y with
        | .lst xs, .lst ys => some (zipD xs ys)
        | .tup xs, .lst ys => some (zipD xs ys)
        | _, _ => none
def m_items (a : CE) (ra : RD) : RL := fun env => match ra env with
    | some x => itemsD x
    | none => none
noncomputable def evR : CE → RD := fun e => CE.rec (motive_1 := fun _ => RD) (motive_2 := fun _ => RS) (motive_3 := fun _ => RL) m_var m_cint m_cbl m_cnon m_cstr m_bin m_neg m_cmp m_chain m_andd m_orr m_nott m_ite m_tup m_lst m_dnil m_dsp m_idx m_sl00 m_sl10 m_sl01 m_sl11 m_rev (m_call Φ) m_blt m_mth m_lrng m_lc m_nil m_cons m_rng1 m_rng2 m_rngd m_seq m_enum m_zip m_keys m_items e
noncomputable def evsR : CEs → RS := fun e => CEs.rec (motive_1 := fun _ => RD) (motive_2 := fun _ => RS) (motive_3 := fun _ => RL) m_var m_cint m_cbl m_cnon m_cstr m_bin m_neg m_cmp m_chain m_andd m_orr m_nott m_ite m_tup m_lst m_dnil m_dsp m_idx m_sl00 m_sl10 m_sl01 m_sl11 m_rev (m_call Φ) m_blt m_mth m_lrng m_lc m_nil m_cons m_rng1 m_rng2 m_rngd m_seq m_enum m_zip m_keys m_items e
noncomputable def evIR : CIt → RL := fun e => CIt.rec (motive_1 := fun _ => RD) (motive_2 := fun _ => RS) (motive_3 := fun _ => RL) m_var m_cint m_cbl m_cnon m_cstr m_bin m_neg m_cmp m_chain m_andd m_orr m_nott m_ite m_tup m_lst m_dnil m_dsp m_idx m_sl00 m_sl10 m_sl01 m_sl11 m_rev (m_call Φ) m_blt m_mth m_lrng m_lc m_nil m_cons m_rng1 m_rng2 m_rngd m_seq m_enum m_zip m_keys m_items e
mutual
theorem evR_eq : ∀ (e : CE) (env : En), evR Φ e env = ev Φ e env
  | .var i, env => by first | rfl | (unfold ev; rfl)
  | .cint i, env => by first | rfl | (unfold ev; rfl)
  | .cbl b, env => by first | rfl | (unfold ev; rfl)
  | .cnon , env => by first | rfl | (unfold ev; rfl)
  | .cstr x, env => by first | rfl | (unfold ev; rfl)
  | .bin op xa xb, env => by
    show m_bin op xa xb (evR Φ xa) (evR Φ xb) env = _
    unfold m_bin ev
    simp only [evR_eq xa, evR_eq xb] <;> rfl
  | .neg  xa, env => by
    show m_neg  xa (evR Φ xa) env = _
    unfold m_neg ev
    simp only [evR_eq xa] <;> rfl
  | .cmp op xa xb, env => by
    show m_cmp op xa xb (evR Φ xa) (evR Φ xb) env = _
    unfold m_cmp ev
    simp only [dcmpF_eq, evR_eq xa, evR_eq xb] <;> rfl
  | .chain op op' xa xb xc, env => by
    show m_chain op op' xa xb xc (evR Φ xa) (evR Φ xb) (evR Φ xc) env = _
    unfold m_chain ev
    simp only [dcmpF_eq, evR_eq xa, evR_eq xb, evR_eq xc] <;> rfl
  | .andd  xa xb, env => by
    show m_andd  xa xb (evR Φ xa) (evR Φ xb) env = _
    unfold m_andd ev
    simp only [evR_eq xa, evR_eq xb] <;> rfl
  | .orr  xa xb, env => by
    show m_orr  xa xb (evR Φ xa) (evR Φ xb) env = _
    unfold m_orr ev
    simp only [evR_eq xa, evR_eq xb] <;> rfl
  | .nott  xa, env => by
    show m_nott  xa (evR Φ xa) env = _
    unfold m_nott ev
    simp only [evR_eq xa] <;> rfl
  | .ite  xc xa xb, env => by
    show m_ite  xc xa xb (evR Φ xc) (evR Φ xa) (evR Φ xb) env = _
    unfold m_ite ev
    simp only [evR_eq xc, evR_eq xa, evR_eq xb] <;> rfl
  | .tup  xE, env => by
    show m_tup  xE (evsR Φ xE) env = _
    unfold m_tup ev
    simp only [evsR_eq xE] <;> rfl
  | .lst  xE, env => by
    show m_lst  xE (evsR Φ xE) env = _
    unfold m_lst ev
    simp only [evsR_eq xE] <;> rfl
  | .dnil t, env => by first | rfl | (unfold ev; rfl)
  | .dsp t xk xv, env => by
    show m_dsp t xk xv (evR Φ xk) (evR Φ xv) env = _
    unfold m_dsp ev
    simp only [evR_eq xk, evR_eq xv] <;> rfl
  | .idx  xa xb, env => by
    show m_idx  xa xb (evR Φ xa) (evR Φ xb) env = _
    unfold m_idx ev
    simp only [evR_eq xa, evR_eq xb] <;> rfl
  | .sl00  xa, env => by
    show m_sl00  xa (evR Φ xa) env = _
    unfold m_sl00 ev
    simp only [evR_eq xa] <;> rfl
  | .sl10  xa xl, env => by
    show m_sl10  xa xl (evR Φ xa) (evR Φ xl) env = _
    unfold m_sl10 ev
    simp only [evR_eq xa, evR_eq xl] <;> rfl
  | .sl01  xa xh, env => by
    show m_sl01  xa xh (evR Φ xa) (evR Φ xh) env = _
    unfold m_sl01 ev
    simp only [evR_eq xa, evR_eq xh] <;> rfl
  | .sl11  xa xl xh, env => by
    show m_sl11  xa xl xh (evR Φ xa) (evR Φ xl) (evR Φ xh) env = _
    unfold m_sl11 ev
    simp only [evR_eq xa, evR_eq xl, evR_eq xh] <;> rfl
  | .rev  xa, env => by
    show m_rev  xa (evR Φ xa) env = _
    unfold m_rev ev
    simp only [evR_eq xa] <;> rfl
  | .call k xE, env => by
    show m_call Φ k xE (evsR Φ xE) env = _
    unfold m_call ev
    simp only [evsR_eq xE] <;> rfl
  | .blt f xE, env => by
    show m_blt f xE (evsR Φ xE) env = _
    unfold m_blt ev
    simp only [evsR_eq xE] <;> rfl
  | .mth m xo xE, env => by
    show m_mth m xo xE (evR Φ xo) (evsR Φ xE) env = _
    unfold m_mth ev
    simp only [evR_eq xo, evsR_eq xE] <;> rfl
  | .lrng  xa xb, env => by
    show m_lrng  xa xb (evR Φ xa) (evR Φ xb) env = _
    unfold m_lrng ev
    simp only [evR_eq xa, evR_eq xb] <;> rfl
  | .lc elt tg it cs own, env => by
    show m_lc elt tg it cs own (evR Φ elt) (evIR Φ it) (evsR Φ cs) env = _
    unfold m_lc ev
    simp only [evIR_eq it, evCR_eq cs, evR_eq elt] <;> rfl
theorem evsR_eq : ∀ (e : CEs) (env : En), (evsR Φ e).s env = evs Φ e env
  | .nil, env => rfl
  | .cons e r, env => by
    show (m_cons e r (evR Φ e) (evsR Φ r)).s env = _
    unfold m_cons evs
    simp only [evR_eq e, evsR_eq r] <;> rfl
theorem evCR_eq : ∀ (e : CEs) (env : En), (evsR Φ e).c env = evC Φ e env
  | .nil, env => rfl
  | .cons e .nil, env => by
    show (m_cons e .nil (evR Φ e) (evsR Φ .nil)).c env = _
    unfold m_cons evC
    simp only [evR_eq e] <;> rfl
  | .cons e (.cons e' r), env => rfl
theorem evIR_eq : ∀ (e : CIt) (env : En), evIR Φ e env = evI Φ e env
  | .rng1 xa, env => by
    show m_rng1 xa (evR Φ xa) env = _
    unfold m_rng1 evI
    simp only [evR_eq xa] <;> rfl
  | .rng2 xa xb, env => by
    show m_rng2 xa xb (evR Φ xa) (evR Φ xb) env = _
    unfold m_rng2 evI
    simp only [evR_eq xa, evR_eq xb] <;> rfl
  | .rngd xa xb, env => by
    show m_rngd xa xb (evR Φ xa) (evR Φ xb) env = _
    unfold m_rngd evI
    simp only [evR_eq xa, evR_eq xb] <;> rfl
  | .seq xa, env => by
    show m_seq xa (evR Φ xa) env = _
    unfold m_seq evI
    simp only [evR_eq xa] <;> rfl
  | .keys xa, env => by
    show m_keys xa (evR Φ xa) env = _
    unfold m_keys evI
    simp only [evR_eq xa] <;> rfl
  | .enum xa, env => by
    show m_enum xa (evR Φ xa) env = _
    unfold m_enum evI
    simp only [evR_eq xa] <;> rfl
  | .zip xa xb, env => by
    show m_zip xa xb (evR Φ xa) (evR Φ xb) env = _
    unfold m_zip evI
    simp only [evR_eq xa, evR_eq xb] <;> rfl
  | .items xa, env => by
    show m_items xa (evR Φ xa) env = _
    unfold m_items evI
    simp only [evR_eq xa] <;> rfl
end
abbrev RO := En → Option Out
noncomputable def n_asg (i : Nat) (xe : CE) : RO := fun env => match evR Φ xe env with
    | some d => some (.nx (env.set i (some d)))
    | none => none
noncomputable def n_asgT (is : List Nat) (xe : CE) : RO := fun env => match evR Φ xe env with
    | some (.tup ds) => (match setM env is ds with
      | some env' => some (.nx env')
      | none => none)
    | _ => none
noncomputable def n_par2 (i j : Nat) (xa : CE) (xb : CE) : RO := fun env => match evR Φ xa env with
    | none => none
    | some x => match evR Φ xb env with
      | none => none
      | some y => some (.nx ((env.set i (some x)).set j (some y)))
noncomputable def n_par3 (i j k : Nat) (xa : CE) (xb : CE) (xc : CE) : RO := fun env => match evR Φ xa env with
    | none => none
    | some x => match evR Φ xb env with
      | none => none
      | some y => match evR Φ xc env with
        | none => none
        | some z => some (.nx (((env.set i (some x)).set j (some y)).set k (some z)))
noncomputable def n_setix (i : Nat) (xi : CE) (xe : CE) : RO := fun env => match evR Φ xe env with
    | none => none
    | some v => match env.getD i none with
      | none => none
      | some d => match evR Φ xi env with
        | none => none
        | some y => match dset d y v with
          | some d' => some (.nx (env.set i (some d')))
          | none => none
noncomputable def n_app (i : Nat) (xe : CE) : RO := fun env => match env.getD i none with
    | none => none
    | some d => match evR Φ xe env with
      | none => none
      | some v => match dapp d v with
        | some d' => some (.nx (env.set i (some d')))
        | none => none
noncomputable def n_aug (i : Nat) (op : BOp) (xe : CE) : RO := fun env => match env.getD i none with
    | some (.int x) => (match evR Φ xe env with
      | some (.int y) => (match augF op x y with
        | some z => some (.nx (env.set i (some (.int z))))
        | none => none)
      | _ => none)
    | _ => none
noncomputable def n_ife (c : CE) (a b : CSs) (ra rb : RO) : RO := fun env => match asBool (evR Φ c env) with
    | some true => ra env
    | some false => rb env
    | none => none
noncomputable def n_ret (e : CE) : RO := fun env => match evR Φ e env with
    | some d => some (.rt d)
    | none => none
def n_retn : RO := fun _ => some (.rt .non)
noncomputable def n_for (tg : Tg) (it : CIt) (body : CSs) (rb : RO) : RO := fun env => match evIR Φ it env with
    | none => none
    | some xs => forL (fun env' x => match setT tg env' x with
      | some env'' => rb env''
      | none => none) xs env
noncomputable def n_whl (n : Nat) (c : CE) (body : CSs) (rb : RO) : RO := fun env => whileL (fun env' => asBool (evR Φ c env')) (fun env' => rb env') n env
def n_nil : RO := fun env => some (.nx env)
def n_cons (s : CS) (r : CSs) (rs rr : RO) : RO := fun env => match rs env with
    | none => none
    | some (.rt d) => some (.rt d)
    | some (.nx env') => rr env'
noncomputable def exR : CS → RO := fun e => CS.rec (motive_1 := fun _ => RO) (motive_2 := fun _ => RO) (n_asg Φ) (n_asgT Φ) (n_par2 Φ) (n_par3 Φ) (n_setix Φ) (n_app Φ) (n_aug Φ) (n_ife Φ) (n_ret Φ) n_retn (n_for Φ) (n_whl Φ) n_nil n_cons e
noncomputable def exsR : CSs → RO := fun e => CSs.rec (motive_1 := fun _ => RO) (motive_2 := fun _ => RO) (n_asg Φ) (n_asgT Φ) (n_par2 Φ) (n_par3 Φ) (n_setix Φ) (n_app Φ) (n_aug Φ) (n_ife Φ) (n_ret Φ) n_retn (n_for Φ) (n_whl Φ) n_nil n_cons e
mutual
theorem exR_eq : ∀ (e : CS) (env : En), exR Φ e env = ex Φ e env
  | .asg i xe, env => by
    show n_asg Φ i xe env = _
    unfold n_asg ex
    simp only [evR_eq] <;> rfl
  | .asgT is xe, env => by
    show n_asgT Φ is xe env = _
    unfold n_asgT ex
    simp only [evR_eq] <;> rfl
  | .par2 i j xa xb, env => by
    show n_par2 Φ i j xa xb env = _
    unfold n_par2 ex
    simp only [evR_eq] <;> rfl
  | .par3 i j k xa xb xc, env => by
    show n_par3 Φ i j k xa xb xc env = _
    unfold n_par3 ex
    simp only [evR_eq] <;> rfl
  | .setix i xi xe, env => by
    show n_setix Φ i xi xe env = _
    unfold n_setix ex
    simp only [evR_eq] <;> rfl
  | .app i xe, env => by
    show n_app Φ i xe env = _
    unfold n_app ex
    simp only [evR_eq] <;> rfl
  | .aug i op xe, env => by
    show n_aug Φ i op xe env = _
    unfold n_aug ex
    simp only [evR_eq] <;> rfl
  | .ife c a b, env => by
    show n_ife Φ c a b (exsR Φ a) (exsR Φ b) env = _
    unfold n_ife ex
    simp only [evR_eq, exsR_eq a, exsR_eq b] <;> rfl
  | .ret e, env => by
    show n_ret Φ e env = _
    unfold n_ret ex
    simp only [evR_eq] <;> rfl
  | .retn, env => by
    show n_retn env = _
    unfold n_retn ex
    rfl
  | .for_ tg it body, env => by
    show n_for Φ tg it body (exsR Φ body) env = _
    unfold n_for ex
    simp only [evIR_eq, exsR_eq body] <;> rfl
  | .whl n c body, env => by
    show n_whl Φ n c body (exsR Φ body) env = _
    unfold n_whl ex
    simp only [evR_eq, exsR_eq body] <;> rfl
theorem exsR_eq : ∀ (e : CSs) (env : En), exsR Φ e env = exs Φ e env
  | .nil, env => by
    show n_nil env = _
    unfold n_nil exs
    rfl
  | .cons s r, env => by
    show n_cons s r (exR Φ s) (exsR Φ r) env = _
    unfold n_cons exs
    simp only [exR_eq s, exsR_eq r] <;> rfl
end
/-- a def's body, quick in the kernel -/
noncomputable def runR (c : CSs) (n : Nat) (ds : List D) : Option D := match exsR Φ c (ds.map some ++ List.replicate (n - ds.length) none) with
  | some (.rt d) => some d
  | some (.nx _) => some .non
  | none => none
theorem runR_eq (c : CSs) (n : Nat) (ds : List D) : runR Φ c n ds = runF Φ c n ds := by
  unfold runR runF
  rw [exsR_eq] <;> rfl
end
end Pv

/-! Pv15: what is answered from less is answered from more. -/
namespace Pv
open PySem L2
def OLe {α : Type} (o o' : Option α) : Prop := ∀ x, o = some x → o' = some x
theorem OLe.refl {α : Type} (o : Option α) : OLe o o := fun _ h => h
theorem OLe.cs {α : Type} {o o' : Option α} (h : OLe o o') : o = none ∨ ∃ x, o = some x ∧ o' = some x := by
  cases o with
  | none => exact .inl rfl
  | some x => exact .inr ⟨x, rfl, h x rfl⟩
theorem OLe.non {α : Type} {o : Option α} : OLe none o := fun _ h => nomatch h
structure EnLe (e e' : En) : Prop where
  len : e.length = e'.length
  at_ : ∀ i, OLe (e.getD i none) (e'.getD i none)
theorem EnLe.refl (e : En) : EnLe e e := ⟨rfl, fun i => OLe.refl _⟩
theorem EnLe.set {e e' : En} (h : EnLe e e') (i : Nat) (d : Option D) : EnLe (e.set i d) (e'.set i d) := by
  refine ⟨by rw [List.length_set, List.length_set, h.len], fun j => ?_⟩
  by_cases hj : j = i
  · subst hj
    by_cases l : j < e.length
    · rw [getD_self l, getD_self (by rw [← h.len]; exact l)]; exact OLe.refl _
    · rw [set_out l, set_out (by rw [← h.len]; exact l)]; exact h.at_ j
  · rw [getD_set_ne hj, getD_set_ne hj]; exact h.at_ j
theorem EnLe.setM : ∀ {is : List Nat} {ds : List D} {e e' r : En}, EnLe e e' → setM e is ds = some r → ∃ r', setM e' is ds = some r' ∧ EnLe r r'
  | [], [], e, e', r, h, q => by cases q; exact ⟨e', rfl, h⟩
  | [], _ :: _, _, _, _, _, q => by cases q
  | _ :: _, [], _, _, _, _, q => by cases q
  | i :: is, d :: ds, e, e', r, h, q => EnLe.setM (is := is) (ds := ds) (h.set i (some d)) q
theorem EnLe.setT {tg : Tg} {d : D} {e e' r : En} (h : EnLe e e') (q : setT tg e d = some r) : ∃ r', Pv.setT tg e' d = some r' ∧ EnLe r r' := by
  cases tg with
  | one i => cases q; exact ⟨_, rfl, h.set i (some d)⟩
  | many is =>
    cases d with
    | tup ds => exact EnLe.setM h q
    | _ => cases q
theorem EnLe.wipe {e e' : En} (h : EnLe e e') : ∀ vs : List Nat, EnLe (wipeE e vs) (wipeE e' vs)
  | [] => h
  | v :: vs => (h.wipe vs).set v none
/-- F' says nothing else than F -/
structure FnLe (F' F : Fn) : Prop where
  ar : F'.ar = F.ar
  run : ∀ ds, OLe (F'.run ds) (F.run ds)
theorem FnLe.refl (F : Fn) : FnLe F F := ⟨rfl, fun _ => OLe.refl _⟩
def FsLe (Φ' Φ : List Fn) : Prop := ∀ (k : Nat) (F' : Fn), Φ'[k]? = some F' → ∃ F, Φ[k]? = some F ∧ FnLe F' F
theorem FsLe.nil : FsLe [] [] := fun k F' h => by cases h
theorem FsLe.cons {F' F : Fn} {r' r : List Fn} (h : FnLe F' F) (hs : FsLe r' r) : FsLe (F' :: r') (F :: r) := fun k G e => by
  cases k with
  | zero => cases e; exact ⟨F, rfl, h⟩
  | succ k => exact hs k G e
theorem FsLe.refl : ∀ (Φ : List Fn), FsLe Φ Φ
  | [] => .nil
  | F :: r => .cons (.refl F) (.refl r)
theorem lcL_le {f g : D → Option (Option D)} (h : ∀ x, OLe (f x) (g x)) : ∀ xs, OLe (lcL f xs) (lcL g xs)
  | [] => OLe.refl _
  | x :: r => by
    unfold lcL
    rcases (h x).cs with e | ⟨y, e, e'⟩
    · rw [e]; exact OLe.non
    · rw [e, e']
      cases y with
      | none => exact lcL_le h r
      | some y =>
        rcases (lcL_le h r).cs with e2 | ⟨z, e2, e2'⟩
        · simp only [e2]; exact OLe.non
        · simp only [e2, e2']; exact OLe.refl _
def OutLe : Out → Out → Prop
  | .nx e, .nx e' => EnLe e e'
  | .rt d, .rt d' => d = d'
  | _, _ => False
def OOLe (o o' : Option Out) : Prop := ∀ x, o = some x → ∃ x', o' = some x' ∧ OutLe x x'
theorem OOLe.non {o : Option Out} : OOLe none o := fun _ h => nomatch h
theorem OOLe.nx {e e' : En} (h : EnLe e e') : OOLe (some (.nx e)) (some (.nx e')) := fun _ q => by cases q; exact ⟨_, rfl, h⟩
theorem OOLe.rt {d : D} : OOLe (some (.rt d)) (some (.rt d)) := fun _ q => by cases q; exact ⟨_, rfl, rfl⟩
theorem OOLe.cs {o o' : Option Out} (h : OOLe o o') : o = none ∨ (∃ d, o = some (.rt d) ∧ o' = some (.rt d)) ∨ ∃ e e', o = some (.nx e) ∧ o' = some (.nx e') ∧ EnLe e e' := by
  cases o with
  | none => exact .inl rfl
  | some x =>
    obtain ⟨x', e, l⟩ := h x rfl
    cases x with
    | rt d =>
      cases x' with
      | rt d' => cases l; exact .inr (.inl ⟨d, rfl, e⟩)
      | nx e' => exact l.elim
    | nx e1 =>
      cases x' with
      | rt d' => exact l.elim
      | nx e' => exact .inr (.inr ⟨e1, e', rfl, e, l⟩)
theorem forL_le {f g : En → D → Option Out} (h : ∀ e e' x, EnLe e e' → OOLe (f e x) (g e' x)) : ∀ (xs : List D) {e e' : En}, EnLe e e' → OOLe (forL f xs e) (forL g xs e')
  | [], e, e', l => .nx l
  | x :: r, e, e', l => by
    unfold forL
    rcases (h e e' x l).cs with q | ⟨d, q, q'⟩ | ⟨e1, e1', q, q', l'⟩
    · simp only [q]; exact .non
    · simp only [q, q']; exact .rt
    · simp only [q, q']; exact forL_le h r l'
theorem whileL_le {t t' : En → Option Bool} {f g : En → Option Out} (ht : ∀ e e', EnLe e e' → OLe (t e) (t' e')) (h : ∀ e e', EnLe e e' → OOLe (f e) (g e')) : ∀ (n : Nat) {e e' : En}, EnLe e e' → OOLe (whileL t f n e) (whileL t' g n e')
  | 0, _, _, _ => .non
  | n + 1, e, e', l => by
    unfold whileL
    rcases (ht e e' l).cs with q | ⟨b, q, q'⟩
    · simp only [q]; exact .non
    · simp only [q, q']
      cases b with
      | false => exact .nx l
      | true =>
        rcases (h e e' l).cs with z | ⟨d, z, z'⟩ | ⟨e1, e1', z, z', l'⟩
        · simp only [z]; exact .non
        · simp only [z, z']; exact .rt
        · simp only [z, z']; exact whileL_le ht h n l'
section
variable {Φ' Φ : List Fn} (hF : FsLe Φ' Φ)
include hF
mutual
theorem ev_le : ∀ (c : CE) {e e' : En}, EnLe e e' → OLe (ev Φ' c e) (ev Φ c e')
  | .var i, e, e', l => l.at_ i
  | .cint _, _, _, _ => OLe.refl _
  | .cbl _, _, _, _ => OLe.refl _
  | .cnon, _, _, _ => OLe.refl _
  | .cstr _, _, _, _ => OLe.refl _
  | .dnil _, _, _, _ => OLe.refl _
  | .bin op xa xb, e, e', l => by
    unfold ev
    have ha := (ev_le xa l).cs
    have hb := (ev_le xb l).cs
    rcases ha with qa | ⟨va, qa, qa'⟩ <;> rcases hb with qb | ⟨vb, qb, qb'⟩
    all_goals (simp only [*]; try exact OLe.non)
    all_goals (try exact OLe.refl _)
    all_goals (try (repeat (first | exact OLe.non | exact OLe.refl _ | split)))
  | .neg  xa, e, e', l => by
    unfold ev
    have ha := (ev_le xa l).cs
    rcases ha with qa | ⟨va, qa, qa'⟩
    all_goals (simp only [*]; try exact OLe.non)
    all_goals (try exact OLe.refl _)
    all_goals (try (repeat (first | exact OLe.non | exact OLe.refl _ | split)))
  | .cmp op xa xb, e, e', l => by
    unfold ev
    have ha := (ev_le xa l).cs
    have hb := (ev_le xb l).cs
    rcases ha with qa | ⟨va, qa, qa'⟩ <;> rcases hb with qb | ⟨vb, qb, qb'⟩
    all_goals (simp only [*]; try exact OLe.non)
    all_goals (try exact OLe.refl _)
    all_goals (try (repeat (first | exact OLe.non | exact OLe.refl _ | split)))
  | .chain op op' xa xb xc, e, e', l => by
    unfold ev
    have ha := (ev_le xa l).cs
    have hb := (ev_le xb l).cs
    have hc := (ev_le xc l).cs
    rcases ha with qa | ⟨va, qa, qa'⟩ <;> rcases hb with qb | ⟨vb, qb, qb'⟩ <;> rcases hc with qc | ⟨vc, qc, qc'⟩
    all_goals (simp only [*]; try exact OLe.non)
    all_goals (try exact OLe.refl _)
    all_goals (try (repeat (first | exact OLe.non | exact OLe.refl _ | split)))
  | .andd  xa xb, e, e', l => by
    unfold ev
    have ha := (ev_le xa l).cs
    have hb := (ev_le xb l).cs
    rcases ha with qa | ⟨va, qa, qa'⟩ <;> rcases hb with qb | ⟨vb, qb, qb'⟩
    all_goals (simp only [*]; try exact OLe.non)
    all_goals (try exact OLe.refl _)
    all_goals (try (repeat (first | exact OLe.non | exact OLe.refl _ | split)))
  | .orr  xa xb, e, e', l => by
    unfold ev
    have ha := (ev_le xa l).cs
    have hb := (ev_le xb l).cs
    rcases ha with qa | ⟨va, qa, qa'⟩ <;> rcases hb with qb | ⟨vb, qb, qb'⟩
    all_goals (simp only [*]; try exact OLe.non)
    all_goals (try exact OLe.refl _)
    all_goals (try (repeat (first | exact OLe.non | exact OLe.refl _ | split)))
  | .nott  xa, e, e', l => by
    unfold ev
    have ha := (ev_le xa l).cs
    rcases ha with qa | ⟨va, qa, qa'⟩
    all_goals (simp only [*]; try exact OLe.non)
    all_goals (try exact OLe.refl _)
    all_goals (try (repeat (first | exact OLe.non | exact OLe.refl _ | split)))
  | .ite  xc xa xb, e, e', l => by
    unfold ev
    have hc := (ev_le xc l).cs
    have ha := (ev_le xa l).cs
    have hb := (ev_le xb l).cs
    rcases hc with qc | ⟨vc, qc, qc'⟩ <;> rcases ha with qa | ⟨va, qa, qa'⟩ <;> rcases hb with qb | ⟨vb, qb, qb'⟩
    all_goals (simp only [*]; try exact OLe.non)
    all_goals (try exact OLe.refl _)
    all_goals (try (repeat (first | exact OLe.non | exact OLe.refl _ | split)))
  | .tup  xE, e, e', l => by
    unfold ev
    have hE := (evs_le xE l).cs
    rcases hE with qE | ⟨vE, qE, qE'⟩
    all_goals (simp only [*]; try exact OLe.non)
    all_goals (try exact OLe.refl _)
    all_goals (try (repeat (first | exact OLe.non | exact OLe.refl _ | split)))
  | .lst  xE, e, e', l => by
    unfold ev
    have hE := (evs_le xE l).cs
    rcases hE with qE | ⟨vE, qE, qE'⟩
    all_goals (simp only [*]; try exact OLe.non)
    all_goals (try exact OLe.refl _)
    all_goals (try (repeat (first | exact OLe.non | exact OLe.refl _ | split)))
  | .dsp t xk xv, e, e', l => by
    unfold ev
    have hk := (ev_le xk l).cs
    have hv := (ev_le xv l).cs
    rcases hk with qk | ⟨vk, qk, qk'⟩ <;> rcases hv with qv | ⟨vv, qv, qv'⟩
    all_goals (simp only [*]; try exact OLe.non)
    all_goals (try exact OLe.refl _)
    all_goals (try (repeat (first | exact OLe.non | exact OLe.refl _ | split)))
  | .idx  xa xb, e, e', l => by
    unfold ev
    have ha := (ev_le xa l).cs
    have hb := (ev_le xb l).cs
    rcases ha with qa | ⟨va, qa, qa'⟩ <;> rcases hb with qb | ⟨vb, qb, qb'⟩
    all_goals (simp only [*]; try exact OLe.non)
    all_goals (try exact OLe.refl _)
    all_goals (try (repeat (first | exact OLe.non | exact OLe.refl _ | split)))
  | .sl00  xa, e, e', l => by
    unfold ev
    have ha := (ev_le xa l).cs
    rcases ha with qa | ⟨va, qa, qa'⟩
    all_goals (simp only [*]; try exact OLe.non)
    all_goals (try exact OLe.refl _)
    all_goals (try (repeat (first | exact OLe.non | exact OLe.refl _ | split)))
  | .sl10  xa xl, e, e', l => by
    unfold ev
    have ha := (ev_le xa l).cs
    have hl := (ev_le xl l).cs
    rcases ha with qa | ⟨va, qa, qa'⟩ <;> rcases hl with ql | ⟨vl, ql, ql'⟩
    all_goals (simp only [*]; try exact OLe.non)
    all_goals (try exact OLe.refl _)
    all_goals (try (repeat (first | exact OLe.non | exact OLe.refl _ | split)))
  | .sl01  xa xh, e, e', l => by
    unfold ev
    have ha := (ev_le xa l).cs
    have hh := (ev_le xh l).cs
    rcases ha with qa | ⟨va, qa, qa'⟩ <;> rcases hh with qh | ⟨vh, qh, qh'⟩
    all_goals (simp only [*]; try exact OLe.non)
    all_goals (try exact OLe.refl _)
    all_goals (try (repeat (first | exact OLe.non | exact OLe.refl _ | split)))
  | .sl11  xa xl xh, e, e', l => by
    unfold ev
    have ha := (ev_le xa l).cs
    have hl := (ev_le xl l).cs
    have hh := (ev_le xh l).cs
    rcases ha with qa | ⟨va, qa, qa'⟩ <;> rcases hl with ql | ⟨vl, ql, ql'⟩ <;> rcases hh with qh | ⟨vh, qh, qh'⟩
    all_goals (simp only [*]; try exact OLe.non)
    all_goals (try exact OLe.refl _)
    all_goals (try (repeat (first | exact OLe.non | exact OLe.refl _ | split)))
  | .rev  xa, e, e', l => by
    unfold ev
    have ha := (ev_le xa l).cs
    rcases ha with qa | ⟨va, qa, qa'⟩
    all_goals (simp only [*]; try exact OLe.non)
    all_goals (try exact OLe.refl _)
    all_goals (try (repeat (first | exact OLe.non | exact OLe.refl _ | split)))
  | .blt f xE, e, e', l => by
    unfold ev
    have hE := (evs_le xE l).cs
    rcases hE with qE | ⟨vE, qE, qE'⟩
    all_goals (simp only [*]; try exact OLe.non)
    all_goals (try exact OLe.refl _)
    all_goals (try (repeat (first | exact OLe.non | exact OLe.refl _ | split)))
  | .mth m xo xE, e, e', l => by
    unfold ev
    have ho := (ev_le xo l).cs
    have hE := (evs_le xE l).cs
    rcases ho with qo | ⟨vo, qo, qo'⟩ <;> rcases hE with qE | ⟨vE, qE, qE'⟩
    all_goals (simp only [*]; try exact OLe.non)
    all_goals (try exact OLe.refl _)
    all_goals (try (repeat (first | exact OLe.non | exact OLe.refl _ | split)))
  | .lrng  xa xb, e, e', l => by
    unfold ev
    have ha := (ev_le xa l).cs
    have hb := (ev_le xb l).cs
    rcases ha with qa | ⟨va, qa, qa'⟩ <;> rcases hb with qb | ⟨vb, qb, qb'⟩
    all_goals (simp only [*]; try exact OLe.non)
    all_goals (try exact OLe.refl _)
    all_goals (try (repeat (first | exact OLe.non | exact OLe.refl _ | split)))
  | .call k xE, e, e', l => by
    unfold ev
    rcases (evs_le xE l).cs with q | ⟨v, q, q'⟩
    · simp only [q]; exact OLe.non
    · simp only [q, q']
      cases hk : Φ'[k]? with
      | none => exact OLe.non
      | some F' =>
        obtain ⟨F, e1, hle⟩ := hF k F' hk
        simp only [e1, hle.ar]
        split
        · exact hle.run v
        · exact OLe.non
  | .lc elt tg it cs own, e, e', l => by
    unfold ev
    rcases (evI_le it l).cs with q | ⟨xs, q, q'⟩
    · simp only [q]; exact OLe.non
    · simp only [q, q']
      have hb : ∀ x, OLe (lcF Φ' elt tg cs own e x) (lcF Φ elt tg cs own e' x) := fun x => by
        unfold lcF
        cases h1 : setT tg (wipeE e own) x with
        | none => exact OLe.non
        | some r =>
          obtain ⟨r', h2, l2⟩ := EnLe.setT (l.wipe own) h1
          simp only [h2]
          rcases (evC_le cs l2).cs with z | ⟨b, z, z'⟩
          · simp only [z]; exact OLe.non
          · simp only [z, z']
            cases b with
            | false => exact OLe.refl _
            | true =>
              rcases (ev_le elt l2).cs with y | ⟨v, y, y'⟩
              · simp only [y]; exact OLe.non
              · simp only [y, y']; exact OLe.refl _
      show OLe (match lcL (lcF Φ' elt tg cs own e) xs with
        | none => none
        | some ys => if xs.length ≤ sizeLine then some (D.lst ys) else none) (match lcL (lcF Φ elt tg cs own e') xs with
        | none => none
        | some ys => if xs.length ≤ sizeLine then some (D.lst ys) else none)
      rcases (lcL_le hb xs).cs with z | ⟨ys, z, z'⟩
      · rw [z]; exact OLe.non
      · rw [z, z']; exact OLe.refl _
theorem evs_le : ∀ (c : CEs) {e e' : En}, EnLe e e' → OLe (evs Φ' c e) (evs Φ c e')
  | .nil, _, _, _ => OLe.refl _
  | .cons a r, e, e', l => by
    unfold evs
    rcases (ev_le a l).cs with q | ⟨v, q, q'⟩
    · simp only [q]; exact OLe.non
    · rcases (evs_le r l).cs with z | ⟨w, z, z'⟩
      · simp only [q, q', z]; exact OLe.non
      · simp only [q, q', z, z']; exact OLe.refl _
theorem evC_le : ∀ (c : CEs) {e e' : En}, EnLe e e' → OLe (evC Φ' c e) (evC Φ c e')
  | .nil, _, _, _ => OLe.refl _
  | .cons a .nil, e, e', l => by
    unfold evC
    rcases (ev_le a l).cs with q | ⟨v, q, q'⟩
    · simp only [q]; exact OLe.non
    · simp only [q, q']; exact OLe.refl _
  | .cons a (.cons _ _), _, _, _ => OLe.refl _
theorem evI_le : ∀ (c : CIt) {e e' : En}, EnLe e e' → OLe (evI Φ' c e) (evI Φ c e')
  | .rng1 xa, e, e', l => by
    unfold evI
    have ha := (ev_le xa l).cs
    rcases ha with qa | ⟨va, qa, qa'⟩
    all_goals (simp only [*]; try exact OLe.non)
    all_goals (try exact OLe.refl _)
    all_goals (try (repeat (first | exact OLe.non | exact OLe.refl _ | split)))
  | .rng2 xa xb, e, e', l => by
    unfold evI
    have ha := (ev_le xa l).cs
    have hb := (ev_le xb l).cs
    rcases ha with qa | ⟨va, qa, qa'⟩ <;> rcases hb with qb | ⟨vb, qb, qb'⟩
    all_goals (simp only [*]; try exact OLe.non)
    all_goals (try exact OLe.refl _)
    all_goals (try (repeat (first | exact OLe.non | exact OLe.refl _ | split)))
  | .rngd xa xb, e, e', l => by
    unfold evI
    have ha := (ev_le xa l).cs
    have hb := (ev_le xb l).cs
    rcases ha with qa | ⟨va, qa, qa'⟩ <;> rcases hb with qb | ⟨vb, qb, qb'⟩
    all_goals (simp only [*]; try exact OLe.non)
    all_goals (try exact OLe.refl _)
    all_goals (try (repeat (first | exact OLe.non | exact OLe.refl _ | split)))
  | .seq xa, e, e', l => by
    unfold evI
    have ha := (ev_le xa l).cs
    rcases ha with qa | ⟨va, qa, qa'⟩
    all_goals (simp only [*]; try exact OLe.non)
    all_goals (try exact OLe.refl _)
    all_goals (try (repeat (first | exact OLe.non | exact OLe.refl _ | split)))
  | .keys xa, e, e', l => by
    unfold evI
    have ha := (ev_le xa l).cs
    rcases ha with qa | ⟨va, qa, qa'⟩
    all_goals (simp only [*]; try exact OLe.non)
    all_goals (try exact OLe.refl _)
    all_goals (try (repeat (first | exact OLe.non | exact OLe.refl _ | split)))
  | .enum xa, e, e', l => by
    unfold evI
    have ha := (ev_le xa l).cs
    rcases ha with qa | ⟨va, qa, qa'⟩
    all_goals (simp only [*]; try exact OLe.non)
    all_goals (try exact OLe.refl _)
    all_goals (try (repeat (first | exact OLe.non | exact OLe.refl _ | split)))
  | .zip xa xb, e, e', l => by
    unfold evI
    have ha := (ev_le xa l).cs
    have hb := (ev_le xb l).cs
    rcases ha with qa | ⟨va, qa, qa'⟩ <;> rcases hb with qb | ⟨vb, qb, qb'⟩
    all_goals (simp only [*]; try exact OLe.non)
    all_goals (try exact OLe.refl _)
    all_goals (try (repeat (first | exact OLe.non | exact OLe.refl _ | split)))
  | .items xa, e, e', l => by
    unfold evI
    have ha := (ev_le xa l).cs
    rcases ha with qa | ⟨va, qa, qa'⟩
    all_goals (simp only [*]; try exact OLe.non)
    all_goals (try exact OLe.refl _)
    all_goals (try (repeat (first | exact OLe.non | exact OLe.refl _ | split)))
end
mutual
theorem ex_le : ∀ (c : CS) {e e' : En}, EnLe e e' → OOLe (ex Φ' c e) (ex Φ c e')
  | .asg i x, e, e', l => by
    unfold ex
    rcases (ev_le hF x l).cs with q | ⟨v, q, q'⟩
    · simp only [q]; exact .non
    · simp only [q, q']; exact .nx (l.set i (some v))
  | .asgT is x, e, e', l => by
    unfold ex
    rcases (ev_le hF x l).cs with q | ⟨v, q, q'⟩
    · simp only [q]; exact .non
    · simp only [q, q']
      cases v with
      | tup ds =>
        simp only
        cases h1 : setM e is ds with
        | none => exact .non
        | some r =>
          obtain ⟨r', h2, l2⟩ := EnLe.setM l h1
          simp only [h2]
          exact .nx l2
      | _ => exact .non
  | .par2 i j x y, e, e', l => by
    unfold ex
    rcases (ev_le hF x l).cs with q | ⟨v, q, q'⟩
    · simp only [q]; exact .non
    · rcases (ev_le hF y l).cs with z | ⟨w, z, z'⟩
      · simp only [q, q', z]; exact .non
      · simp only [q, q', z, z']; exact .nx ((l.set i (some v)).set j (some w))
  | .par3 i j k x y u, e, e', l => by
    unfold ex
    rcases (ev_le hF x l).cs with q | ⟨v, q, q'⟩
    · simp only [q]; exact .non
    · rcases (ev_le hF y l).cs with z | ⟨w, z, z'⟩
      · simp only [q, q', z]; exact .non
      · rcases (ev_le hF u l).cs with p | ⟨t, p, p'⟩
        · simp only [q, q', z, z', p]; exact .non
        · simp only [q, q', z, z', p, p']; exact .nx (((l.set i (some v)).set j (some w)).set k (some t))
  | .setix i x y, e, e', l => by
    unfold ex
    rcases (ev_le hF y l).cs with q | ⟨v, q, q'⟩
    · simp only [q]; exact .non
    · rcases (l.at_ i).cs with p | ⟨d, p, p'⟩
      · simp only [q, q', p]; exact .non
      · rcases (ev_le hF x l).cs with z | ⟨w, z, z'⟩
        · simp only [q, q', p, p', z]; exact .non
        · simp only [q, q', p, p', z, z']
          split
          · exact .nx (l.set i (some _))
          · exact .non
  | .app i x, e, e', l => by
    unfold ex
    rcases (l.at_ i).cs with p | ⟨d, p, p'⟩
    · simp only [p]; exact .non
    · rcases (ev_le hF x l).cs with z | ⟨w, z, z'⟩
      · simp only [p, p', z]; exact .non
      · simp only [p, p', z, z']
        split
        · exact .nx (l.set i (some _))
        · exact .non
  | .aug i op x, e, e', l => by
    unfold ex
    rcases (l.at_ i).cs with p | ⟨d, p, p'⟩
    · simp only [p]; exact .non
    · rcases (ev_le hF x l).cs with z | ⟨w, z, z'⟩
      · simp only [p, p', z]
        split
        · exact .non
        · exact .non
      · simp only [p, p', z, z']
        split
        · split
          · split
            · exact .nx (l.set i (some _))
            · exact .non
          · exact .non
        · exact .non
  | .ife x a b, e, e', l => by
    unfold ex
    rcases (ev_le hF x l).cs with z | ⟨w, z, z'⟩
    · simp only [z, asBool]; exact .non
    · simp only [z, z']
      split
      · exact exs_le a l
      · exact exs_le b l
      · exact .non
  | .ret x, e, e', l => by
    unfold ex
    rcases (ev_le hF x l).cs with z | ⟨w, z, z'⟩
    · simp only [z]; exact .non
    · simp only [z, z']; exact .rt
  | .retn, e, e', l => .rt
  | .for_ tg it body, e, e', l => by
    unfold ex
    rcases (evI_le hF it l).cs with z | ⟨xs, z, z'⟩
    · simp only [z]; exact .non
    · simp only [z, z']
      refine forL_le (fun e1 e1' x l1 => ?_) xs l
      cases h1 : setT tg e1 x with
      | none => exact .non
      | some r =>
        obtain ⟨r', h2, l2⟩ := EnLe.setT l1 h1
        simp only [h2]
        exact exs_le body l2
  | .whl n c body, e, e', l => by
    unfold ex
    refine whileL_le (fun e1 e1' l1 => ?_) (fun e1 e1' l1 => exs_le body l1) n l
    rcases (ev_le hF c l1).cs with z | ⟨w, z, z'⟩
    · simp only [z, asBool]; exact OLe.non
    · simp only [z, z']; exact OLe.refl _
theorem exs_le : ∀ (c : CSs) {e e' : En}, EnLe e e' → OOLe (exs Φ' c e) (exs Φ c e')
  | .nil, e, e', l => .nx l
  | .cons s r, e, e', l => by
    unfold exs
    rcases (ex_le s l).cs with q | ⟨d, q, q'⟩ | ⟨e1, e1', q, q', l'⟩
    · simp only [q]; exact .non
    · simp only [q, q']; exact .rt
    · simp only [q, q']; exact exs_le r l'
end
theorem run_le (c : CSs) (n : Nat) (ds : List D) : OLe (runF Φ' c n ds) (runF Φ c n ds) := by
  unfold runF
  rcases (exs_le hF c (EnLe.refl (ds.map some ++ List.replicate (n - ds.length) none))).cs with q | ⟨d, q, q'⟩ | ⟨e1, e1', q, q', l'⟩
  · simp only [q]; exact OLe.non
  · simp only [q, q']; exact OLe.refl _
  · simp only [q, q']; exact OLe.refl _
end
end Pv

/-! Pv16: reading a code by equations. -/
namespace Pv
open PySem L2
section
variable {Φ : List Fn} {env : En}
def bO : Option Out → (En → Option Out) → Option Out
  | none, _ => none
  | some (.rt d), _ => some (.rt d)
  | some (.nx e), f => f e
@[simp] theorem bO_none (f : En → Option Out) : bO none f = none := id rfl
@[simp] theorem bO_rt (d : D) (f : En → Option Out) : bO (some (.rt d)) f = some (.rt d) := id rfl
@[simp] theorem bO_nx (e : En) (f : En → Option Out) : bO (some (.nx e)) f = f e := id rfl
@[simp] theorem bO_ite (p : Prop) [Decidable p] (x y : Option Out) (f : En → Option Out) : bO (if p then x else y) f = if p then bO x f else bO y f := by split <;> rfl
def rO : Option Out → Option D
  | none => none
  | some (.rt d) => some d
  | some (.nx _) => some .non
@[simp] theorem rO_none : rO none = none := id rfl
@[simp] theorem rO_rt (d : D) : rO (some (.rt d)) = some d := id rfl
@[simp] theorem rO_nx (e : En) : rO (some (.nx e)) = some .non := id rfl
@[simp] theorem rO_ite (p : Prop) [Decidable p] (x y : Option Out) : rO (if p then x else y) = if p then rO x else rO y := by split <;> rfl
theorem y_run (c : CSs) (n : Nat) (ds : List D) : runF Φ c n ds = rO (exs Φ c (ds.map some ++ List.replicate (n - ds.length) none)) := by
  unfold runF
  cases exs Φ c (ds.map some ++ List.replicate (n - ds.length) none) with
  | none => rfl
  | some o => cases o <;> rfl
@[simp] theorem ite_bind {α β : Type} (p : Prop) [Decidable p] (x y : Option α) (f : α → Option β) : (if p then x else y).bind f = if p then x.bind f else y.bind f := by split <;> rfl
@[simp] theorem y_asB (b : Bool) : asBool (some (.bl b)) = some b := id rfl
@[simp] theorem asB_ite (p : Prop) [Decidable p] (x y : Option D) : asBool (if p then x else y) = if p then asBool x else asBool y := by split <;> rfl
/-- a test -/
def iO {α : Type} : Option Bool → Option α → Option α → Option α
  | none, _, _ => none
  | some true, x, _ => x
  | some false, _, y => y
@[simp] theorem iO_some {α : Type} (b : Bool) (x y : Option α) : iO (some b) x y = if b = true then x else y := by cases b <;> rfl
@[simp] theorem iO_ite {α : Type} (p : Prop) [Decidable p] (a b : Option Bool) (x y : Option α) : iO (if p then a else b) x y = if p then iO a x y else iO b x y := by split <;> rfl
/-- a value that is a bool -/
def oB : Option D → Option D
  | some (.bl k) => some (.bl k)
  | _ => none
@[simp] theorem oB_bl (k : Bool) : oB (some (.bl k)) = some (.bl k) := id rfl
@[simp] theorem oB_ite (p : Prop) [Decidable p] (x y : Option D) : oB (if p then x else y) = if p then oB x else oB y := by split <;> rfl
@[simp] theorem y_var (i : Nat) : ev Φ (.var i) env = env.getD i none := id rfl
@[simp] theorem y_cint (i : Int) : ev Φ (.cint i) env = some (.int i) := id rfl
@[simp] theorem y_cbl (b : Bool) : ev Φ (.cbl b) env = some (.bl b) := id rfl
@[simp] theorem y_cnon : ev Φ .cnon env = some .non := id rfl
@[simp] theorem y_cstr (x : Str) : ev Φ (.cstr x) env = some (.str x) := id rfl
@[simp] theorem y_dnil (t : Bool) : ev Φ (.dnil t) env = some (if t then .dt [] else .dk []) := id rfl
@[simp] theorem y_bin (op : BOp) (a b : CE) : ev Φ (.bin op a b) env = (ev Φ a env).bind fun x => (ev Φ b env).bind fun y => dbin op x y := by
  rw [ev]
  cases ev Φ a env <;> first | rfl | (cases ev Φ b env <;> rfl)
def nInt : D → Option D
  | .int i => some (.int (-i))
  | _ => none
@[simp] theorem y_neg (a : CE) : ev Φ (.neg a) env = (ev Φ a env).bind nInt := by
  rw [ev]
  cases ev Φ a env with
  | none => rfl
  | some x => cases x <;> rfl
@[simp] theorem y_cmp (op : COp) (a b : CE) : ev Φ (.cmp op a b) env = (ev Φ a env).bind fun x => (ev Φ b env).bind fun y => (dcmp op x y).map .bl := by
  rw [ev]
  cases ev Φ a env with
  | none => rfl
  | some x =>
    cases ev Φ b env with
    | none => rfl
    | some y => simp only [Option.bind_some]; cases dcmp op x y <;> rfl
@[simp] theorem y_chain (op op' : COp) (a b c : CE) : ev Φ (.chain op op' a b c) env = (ev Φ a env).bind fun x => (ev Φ b env).bind fun y => iO (dcmp op x y) ((ev Φ c env).bind fun z => (dcmp op' y z).map .bl) (some (.bl false)) := by
  rw [ev]
  cases ev Φ a env with
  | none => rfl
  | some x =>
    cases ev Φ b env with
    | none => rfl
    | some y =>
      simp only [Option.bind_some]
      cases dcmp op x y with
      | none => rfl
      | some k =>
        cases k with
        | false => rfl
        | true =>
          cases ev Φ c env with
          | none => rfl
          | some z => simp only [Option.bind_some]; cases dcmp op' y z <;> rfl
@[simp] theorem y_andd (a b : CE) : ev Φ (.andd a b) env = iO (asBool (ev Φ a env)) (oB (ev Φ b env)) (some (.bl false)) := by
  rw [ev]
  cases ev Φ a env with
  | none => rfl
  | some x =>
    cases x with
    | bl k => cases k <;> rfl
    | _ => rfl
@[simp] theorem y_orr (a b : CE) : ev Φ (.orr a b) env = iO (asBool (ev Φ a env)) (some (.bl true)) (oB (ev Φ b env)) := by
  rw [ev]
  cases ev Φ a env with
  | none => rfl
  | some x =>
    cases x with
    | bl k => cases k <;> rfl
    | _ => rfl
@[simp] theorem y_nott (a : CE) : ev Φ (.nott a) env = (asBool (ev Φ a env)).map fun k => .bl (!k) := by
  rw [ev]
  cases ev Φ a env with
  | none => rfl
  | some x =>
    cases x with
    | bl k => cases k <;> rfl
    | _ => rfl
@[simp] theorem map_ite {α β : Type} (p : Prop) [Decidable p] (x y : Option α) (f : α → β) : (if p then x else y).map f = if p then x.map f else y.map f := by split <;> rfl
@[simp] theorem y_ite (c a b : CE) : ev Φ (.ite c a b) env = iO (asBool (ev Φ c env)) (ev Φ a env) (ev Φ b env) := by
  rw [ev]
  cases ev Φ c env with
  | none => rfl
  | some x =>
    cases x with
    | bl k => cases k <;> rfl
    | _ => rfl
@[simp] theorem y_tup (es : CEs) : ev Φ (.tup es) env = (evs Φ es env).bind fun ds => if ds.length ≤ sizeLine then some (.tup ds) else none := by
  rw [ev]
  cases evs Φ es env <;> rfl
@[simp] theorem y_lst (es : CEs) : ev Φ (.lst es) env = (evs Φ es env).bind fun ds => if ds.length ≤ sizeLine then some (.lst ds) else none := by
  rw [ev]
  cases evs Φ es env <;> rfl
@[simp] theorem y_idx (a b : CE) : ev Φ (.idx a b) env = (ev Φ a env).bind fun x => (ev Φ b env).bind fun y => didx x y := by
  rw [ev]
  cases ev Φ a env <;> first | rfl | (cases ev Φ b env <;> rfl)
@[simp] theorem y_sl00 (a : CE) : ev Φ (.sl00 a) env = (ev Φ a env).bind fun x => dslice x none none := by
  rw [ev]
  cases ev Φ a env <;> rfl
def sl1 (x : D) : D → Option D
  | .int i => dslice x (some i) none
  | _ => none
def sl2 (x : D) : D → Option D
  | .int j => dslice x none (some j)
  | _ => none
def sl3 (x : D) : D → D → Option D
  | .int i, .int j => dslice x (some i) (some j)
  | _, _ => none
@[simp] theorem sl1_int (x : D) (i : Int) : sl1 x (.int i) = dslice x (some i) none := id rfl
@[simp] theorem sl2_int (x : D) (i : Int) : sl2 x (.int i) = dslice x none (some i) := id rfl
@[simp] theorem sl3_int (x : D) (i j : Int) : sl3 x (.int i) (.int j) = dslice x (some i) (some j) := id rfl
@[simp] theorem y_sl10 (a l : CE) : ev Φ (.sl10 a l) env = (ev Φ a env).bind fun x => (ev Φ l env).bind (sl1 x) := by
  rw [ev]
  cases ev Φ a env with
  | none => rfl
  | some x =>
    cases ev Φ l env with
    | none => rfl
    | some y => cases y <;> rfl
@[simp] theorem y_sl01 (a l : CE) : ev Φ (.sl01 a l) env = (ev Φ a env).bind fun x => (ev Φ l env).bind (sl2 x) := by
  rw [ev]
  cases ev Φ a env with
  | none => rfl
  | some x =>
    cases ev Φ l env with
    | none => rfl
    | some y => cases y <;> rfl
@[simp] theorem y_sl11 (a l h : CE) : ev Φ (.sl11 a l h) env = (ev Φ a env).bind fun x => (ev Φ l env).bind fun y => (ev Φ h env).bind (sl3 x y) := by
  rw [ev]
  cases ev Φ a env with
  | none => rfl
  | some x =>
    cases ev Φ l env with
    | none => rfl
    | some y =>
      cases y with
      | int i =>
        cases ev Φ h env with
        | none => rfl
        | some z => cases z <;> rfl
      | _ => cases ev Φ h env <;> rfl
@[simp] theorem y_rev (a : CE) : ev Φ (.rev a) env = (ev Φ a env).bind drev := by
  rw [ev]
  cases ev Φ a env <;> rfl
theorem y_call (k : Nat) (es : CEs) : ev Φ (.call k es) env = (evs Φ es env).bind fun ds => (Φ[k]?).bind fun F => if ds.length = F.ar then F.run ds else none := by
  rw [ev]
  cases evs Φ es env with
  | none => rfl
  | some ds => simp only [Option.bind_some]; cases Φ[k]? <;> rfl
@[simp] theorem y_blt (f : BF) (es : CEs) : ev Φ (.blt f es) env = (evs Φ es env).bind fun ds => dblt f ds := by
  rw [ev]
  cases evs Φ es env <;> rfl
@[simp] theorem y_mth (m : MF) (o : CE) (es : CEs) : ev Φ (.mth m o es) env = (ev Φ o env).bind fun x => (evs Φ es env).bind fun ds => dmth m x ds := by
  rw [ev]
  cases ev Φ o env <;> first | rfl | (cases evs Φ es env <;> rfl)
def lrg : D → D → Option D
  | .int i, .int j => if smallR i && smallR j && decide ((j - i).toNat ≤ sizeLine) then some (.lst (rngD i 1 (j - i).toNat)) else none
  | _, _ => none
@[simp] theorem y_lrng (a b : CE) : ev Φ (.lrng a b) env = (ev Φ a env).bind fun x => (ev Φ b env).bind (lrg x) := by
  rw [ev]
  cases ev Φ a env with
  | none => rfl
  | some x =>
    cases x with
    | int i =>
      cases ev Φ b env with
      | none => rfl
      | some y => cases y <;> rfl
    | _ => cases ev Φ b env <;> rfl
@[simp] theorem y_lc (elt : CE) (tg : Tg) (it : CIt) (cs : CEs) (own : List Nat) : ev Φ (.lc elt tg it cs own) env = (evI Φ it env).bind fun xs => (lcL (lcF Φ elt tg cs own env) xs).bind fun ys => if xs.length ≤ sizeLine then some (.lst ys) else none := by
  rw [ev]
  cases evI Φ it env with
  | none => rfl
  | some xs =>
    show (match lcL (lcF Φ elt tg cs own env) xs with
        | none => none
        | some ys => if xs.length ≤ sizeLine then some (D.lst ys) else none) = _
    simp only [Option.bind_some]
    cases lcL (lcF Φ elt tg cs own env) xs <;> rfl
@[simp] theorem y_nil : evs Φ .nil env = some [] := id rfl
@[simp] theorem y_cons (e : CE) (r : CEs) : evs Φ (.cons e r) env = (ev Φ e env).bind fun x => (evs Φ r env).bind fun xs => some (x :: xs) := by
  rw [evs]
  cases ev Φ e env <;> first | rfl | (cases evs Φ r env <;> rfl)
@[simp] theorem y_seq (a : CE) : evI Φ (.seq a) env = (ev Φ a env).bind seq? := by
  rw [evI]
  cases ev Φ a env <;> rfl
def rg1 : D → Option (List D)
  | .int j => if smallR j then some (rngD 0 1 j.toNat) else none
  | _ => none
@[simp] theorem y_rng1 (a : CE) : evI Φ (.rng1 a) env = (ev Φ a env).bind rg1 := by
  rw [evI]
  cases ev Φ a env with
  | none => rfl
  | some x => cases x <;> rfl
def rg2 : D → D → Option (List D)
  | .int i, .int j => if smallR i && smallR j then some (rngD i 1 (j - i).toNat) else none
  | _, _ => none
@[simp] theorem y_rng2 (a b : CE) : evI Φ (.rng2 a b) env = (ev Φ a env).bind fun x => (ev Φ b env).bind (rg2 x) := by
  rw [evI]
  cases ev Φ a env with
  | none => rfl
  | some x =>
    cases x with
    | int i =>
      cases ev Φ b env with
      | none => rfl
      | some y => cases y <;> rfl
    | _ => cases ev Φ b env <;> rfl
/-! statements -/
@[simp] theorem y_snil : exs Φ .nil env = some (.nx env) := id rfl
@[simp] theorem y_scons (s : CS) (r : CSs) : exs Φ (.cons s r) env = bO (ex Φ s env) (exs Φ r) := by
  rw [exs]
  cases ex Φ s env with
  | none => rfl
  | some o => cases o <;> rfl
def sO (env : En) (i : Nat) : Option D → Option Out
  | some d => some (.nx (env.set i (some d)))
  | none => none
@[simp] theorem sO_some (i : Nat) (d : D) : sO env i (some d) = some (.nx (env.set i (some d))) := id rfl
@[simp] theorem sO_ite (i : Nat) (p : Prop) [Decidable p] (x y : Option D) : sO env i (if p then x else y) = if p then sO env i x else sO env i y := by split <;> rfl
@[simp] theorem y_asg (i : Nat) (e : CE) : ex Φ (.asg i e) env = sO env i (ev Φ e env) := by
  rw [ex]
  cases ev Φ e env <;> rfl
def tO (env : En) (is : List Nat) : D → Option Out
  | .tup ds => (setM env is ds).map .nx
  | _ => none
@[simp] theorem tO_tup (is : List Nat) (ds : List D) : tO env is (.tup ds) = (setM env is ds).map .nx := id rfl
@[simp] theorem y_asgT (is : List Nat) (e : CE) : ex Φ (.asgT is e) env = (ev Φ e env).bind (tO env is) := by
  rw [ex]
  cases ev Φ e env with
  | none => rfl
  | some x =>
    cases x with
    | tup ds => simp only [Option.bind_some, tO]; cases setM env is ds <;> rfl
    | _ => rfl
@[simp] theorem y_par2 (i j : Nat) (a b : CE) : ex Φ (.par2 i j a b) env = (ev Φ a env).bind fun x => (ev Φ b env).bind fun y => some (.nx ((env.set i (some x)).set j (some y))) := by
  rw [ex]
  cases ev Φ a env <;> first | rfl | (cases ev Φ b env <;> rfl)
@[simp] theorem y_ife (c : CE) (a b : CSs) : ex Φ (.ife c a b) env = iO (asBool (ev Φ c env)) (exs Φ a env) (exs Φ b env) := by
  rw [ex]
  cases asBool (ev Φ c env) with
  | none => rfl
  | some k => cases k <;> rfl
@[simp] theorem y_ret (e : CE) : ex Φ (.ret e) env = (ev Φ e env).map .rt := by
  rw [ex]
  cases ev Φ e env <;> rfl
@[simp] theorem y_retn : ex Φ .retn env = some (.rt .non) := id rfl
theorem y_for (tg : Tg) (it : CIt) (body : CSs) : ex Φ (.for_ tg it body) env = (evI Φ it env).bind fun xs => forL (forF Φ tg body) xs env := by
  rw [ex]
  cases evI Φ it env <;> rfl
theorem y_whl (n : Nat) (c : CE) (body : CSs) : ex Φ (.whl n c body) env = whileL (fun e => asBool (ev Φ c e)) (exs Φ body) n env := by
  rw [ex]
@[simp] theorem y_app (i : Nat) (e : CE) : ex Φ (.app i e) env = (env.getD i none).bind fun d => (ev Φ e env).bind fun v => sO env i (dapp d v) := by
  rw [ex]
  cases env.getD i none with
  | none => rfl
  | some d =>
    cases ev Φ e env with
    | none => rfl
    | some v => simp only [Option.bind_some]; cases dapp d v <;> rfl
end
/-! ### operators at given kinds -/
@[simp] theorem d_add (i j : Int) : dbin .add (.int i) (.int j) = some (.int (i + j)) := id rfl
@[simp] theorem d_sub (i j : Int) : dbin .sub (.int i) (.int j) = some (.int (i - j)) := id rfl
@[simp] theorem d_mod (i j : Int) : dbin .mod (.int i) (.int j) = if 0 < j then some (.int (i % j)) else none := id rfl
@[simp] theorem d_lt (i j : Int) : dcmp .lt (.int i) (.int j) = some (decide (i < j)) := id rfl
@[simp] theorem d_le (i j : Int) : dcmp .le (.int i) (.int j) = some (decide (i ≤ j)) := id rfl
@[simp] theorem d_gt (i j : Int) : dcmp .gt (.int i) (.int j) = some (decide (j < i)) := id rfl
@[simp] theorem d_ge (i j : Int) : dcmp .ge (.int i) (.int j) = some (decide (j ≤ i)) := id rfl
theorem d_eq (a b : D) : dcmp .eq a b = deq a b := id rfl
theorem d_ne (a b : D) : dcmp .ne a b = (deq a b).map (!·) := by
  show (match deq a b with
    | some k => some (!k)
    | none => none) = _
  cases deq a b <;> rfl
theorem deq_int (a b : Int) : deq (.int a) (.int b) = some (decide (a = b)) := by
  unfold deq
  have h1 : SeqAt.shaped (py (.int a)) = true := rfl
  have h2 : SeqAt.shaped (py (.int b)) = true := rfl
  rw [h1, h2]
  simp [py, PyData.eqv]
  by_cases h : a = b <;> simp [h]
@[simp] theorem d_eqi (a b : Int) : dcmp .eq (.int a) (.int b) = some (decide (a = b)) := deq_int a b
@[simp] theorem d_nei (a b : Int) : dcmp .ne (.int a) (.int b) = some (!decide (a = b)) := by rw [d_ne, deq_int]; rfl
@[simp] theorem d_max2 (i j : Int) : dblt .max2 [.int i, .int j] = some (.int (max i j)) := by
  show some (D.int (if j > i then j else i)) = _
  congr 2
  omega
@[simp] theorem d_min2 (i j : Int) : dblt .min2 [.int i, .int j] = some (.int (min i j)) := by
  show some (D.int (if j < i then j else i)) = _
  congr 2
  omega
@[simp] theorem d_max1 (i j : Int) : dblt .max1 [.tup [.int i, .int j]] = some (.int (max i j)) := by
  show some (D.int (max i j)) = _
  rfl
@[simp] theorem d_min1 (i j : Int) : dblt .min1 [.tup [.int i, .int j]] = some (.int (min i j)) := by
  show some (D.int (min i j)) = _
  rfl
@[simp] theorem sz_1 : (1 : Nat) ≤ sizeLine := by decide
@[simp] theorem sz_2 : (2 : Nat) ≤ sizeLine := by decide
@[simp] theorem sz_3 : (3 : Nat) ≤ sizeLine := by decide
@[simp] theorem sz_4 : (4 : Nat) ≤ sizeLine := by decide
@[simp] theorem sz_5 : (5 : Nat) ≤ sizeLine := by decide
@[simp] theorem sz_6 : (6 : Nat) ≤ sizeLine := by decide
@[simp] theorem sz_7 : (7 : Nat) ≤ sizeLine := by decide
@[simp] theorem sz_8 : (8 : Nat) ≤ sizeLine := by decide
@[simp] theorem sz_9 : (9 : Nat) ≤ sizeLine := by decide
@[simp] theorem sz_10 : (10 : Nat) ≤ sizeLine := by decide
@[simp] theorem sz_11 : (11 : Nat) ≤ sizeLine := by decide
@[simp] theorem sz_12 : (12 : Nat) ≤ sizeLine := by decide
@[simp] theorem sz_13 : (13 : Nat) ≤ sizeLine := by decide
@[simp] theorem sz_14 : (14 : Nat) ≤ sizeLine := by decide
@[simp] theorem sz_15 : (15 : Nat) ≤ sizeLine := by decide
@[simp] theorem sz_16 : (16 : Nat) ≤ sizeLine := by decide
@[simp] theorem sz_17 : (17 : Nat) ≤ sizeLine := by decide
@[simp] theorem sz_18 : (18 : Nat) ≤ sizeLine := by decide
@[simp] theorem sz_19 : (19 : Nat) ≤ sizeLine := by decide
@[simp] theorem sz_20 : (20 : Nat) ≤ sizeLine := by decide
@[simp] theorem sz_21 : (21 : Nat) ≤ sizeLine := by decide
@[simp] theorem sz_22 : (22 : Nat) ≤ sizeLine := by decide
@[simp] theorem sz_23 : (23 : Nat) ≤ sizeLine := by decide
@[simp] theorem sz_24 : (24 : Nat) ≤ sizeLine := by decide
theorem sz {n : Nat} (h : n ≤ 1000000) : n ≤ sizeLine := Nat.le_trans h (by decide)
end Pv

/-! Pm1: the functions that stand in many laws: their codes, and what they compute. -/
namespace Pv
open PySem L2
def c_law_cell : CSs := (CSs.cons (CS.ife (CE.cmp (COp.lt) (CE.var 1) (CE.blt (BF.len) (CEs.cons (CE.var 0) .nil))) (CSs.cons (CS.ret (CE.idx (CE.var 0) (CE.var 1))) .nil) .nil) (CSs.cons (CS.ife (CE.cmp (COp.eq) (CE.blt (BF.len) (CEs.cons (CE.var 0) .nil)) (CE.cint 0)) (CSs.cons (CS.ret (CE.bin (BOp.add) (CE.bin (BOp.mul) (CE.cint 7919) (CE.var 1)) (CE.cint 101))) .nil) .nil) (CSs.cons (CS.ret (CE.bin (BOp.add) (CE.bin (BOp.mod) (CE.idx (CE.var 0) (CE.bin (BOp.mod) (CE.var 1) (CE.blt (BF.len) (CEs.cons (CE.var 0) .nil)))) (CE.cint 1000003)) (CE.bin (BOp.mul) (CE.cint 7919) (CE.var 1)))) .nil)))
def F_law_cell : Fn := ⟨2, runF [] c_law_cell 2, false⟩
def c_law_digits : CSs := (CSs.cons (CS.asg 4 (CE.tup (CEs.cons (CE.cint 2147483647) (CEs.cons (CE.cint 2147483629) (CEs.cons (CE.cint 2147483587) (CEs.cons (CE.cint 2147483579) (CEs.cons (CE.cint 2147483563) (CEs.cons (CE.cint 2147483549) (CEs.cons (CE.cint 2147483543) (CEs.cons (CE.cint 2147483497) .nil)))))))))) (CSs.cons (CS.asg 5 (CE.call 0 (CEs.cons (CE.var 0) (CEs.cons (CE.var 1) .nil)))) (CSs.cons (CS.asg 6 (CE.ite (CE.cmp (COp.ge) (CE.var 5) (CE.bin (BOp.pow) (CE.cint 10) (CE.cint 18))) (CE.var 5) (CE.cint 0))) (CSs.cons (CS.asg 7 (CE.lst .nil)) (CSs.cons (CS.for_ (Tg.one 8) (CIt.rng1 (CE.var 2)) (CSs.cons (CS.asg 9 (CE.bin (BOp.mul) (CE.bin (BOp.mod) (CE.var 5) (CE.idx (CE.var 4) (CE.bin (BOp.mod) (CE.var 8) (CE.cint 8)))) (CE.bin (BOp.add) (CE.cint 48271) (CE.bin (BOp.mul) (CE.bin (BOp.mul) (CE.cint 2) (CE.var 8)) (CE.var 8))))) (CSs.cons (CS.asg 9 (CE.bin (BOp.add) (CE.bin (BOp.add) (CE.var 9) (CE.bin (BOp.mul) (CE.bin (BOp.mul) (CE.cint 7919) (CE.bin (BOp.add) (CE.var 8) (CE.cint 1))) (CE.bin (BOp.add) (CE.var 8) (CE.cint 1)))) (CE.bin (BOp.mul) (CE.cint 104729) (CE.var 1)))) (CSs.cons (CS.asg 9 (CE.bin (BOp.mod) (CE.var 9) (CE.idx (CE.var 4) (CE.bin (BOp.mod) (CE.bin (BOp.add) (CE.bin (BOp.mul) (CE.cint 3) (CE.var 8)) (CE.var 1)) (CE.cint 8))))) (CSs.cons (CS.asg 9 (CE.bin (BOp.mod) (CE.bin (BOp.mul) (CE.bin (BOp.mul) (CE.var 9) (CE.var 9)) (CE.var 9)) (CE.idx (CE.var 4) (CE.bin (BOp.mod) (CE.bin (BOp.add) (CE.var 8) (CE.cint 5)) (CE.cint 8))))) (CSs.cons (CS.ife (CE.cmp (COp.gt) (CE.var 6) (CE.cint 0)) (CSs.cons (CS.asg 9 (CE.var 6)) .nil) .nil) (CSs.cons (CS.app 7 (CE.bin (BOp.mod) (CE.var 9) (CE.var 3))) (CSs.cons (CS.asg 6 (CE.bin (BOp.fdiv) (CE.var 6) (CE.var 3))) .nil)))))))) (CSs.cons (CS.ret (CE.var 7)) .nil))))))
def F_law_digits : Fn := ⟨4, runF [F_law_cell] c_law_digits 10, true⟩
def c_law_rule : CSs := (CSs.cons (CS.asg 2 (CE.bin (BOp.add) (CE.cint 1) (CE.bin (BOp.mod) (CE.idx (CE.var 0) (CE.cint 0)) (CE.var 1)))) (CSs.cons (CS.asg 3 (CE.bin (BOp.add) (CE.cint 1) (CE.bin (BOp.mod) (CE.idx (CE.var 0) (CE.cint 1)) (CE.blt (BF.min2) (CEs.cons (CE.cint 3) (CEs.cons (CE.var 2) .nil)))))) (CSs.cons (CS.asg 4 (CE.idx (CE.lst (CEs.cons (CE.cint 0) (CEs.cons (CE.cint 0) (CEs.cons (CE.bin (BOp.add) (CE.var 2) (CE.bin (BOp.mod) (CE.idx (CE.var 0) (CE.cint 2)) (CE.cint 4))) .nil)))) (CE.bin (BOp.mod) (CE.bin (BOp.fdiv) (CE.idx (CE.var 0) (CE.cint 2)) (CE.cint 4)) (CE.cint 3)))) (CSs.cons (CS.ret (CE.tup (CEs.cons (CE.var 2) (CEs.cons (CE.var 3) (CEs.cons (CE.var 4) .nil))))) .nil))))
def F_law_rule : Fn := ⟨2, runF [] c_law_rule 5, true⟩
def c_law_won : CSs := (CSs.cons (CS.asgT [2, 3, 4] (CE.var 0)) (CSs.cons (CS.ife (CE.orr (CE.andd (CE.cmp (COp.gt) (CE.var 4) (CE.cint 0)) (CE.cmp (COp.ge) (CE.var 1) (CE.var 4))) (CE.andd (CE.cmp (COp.eq) (CE.var 3) (CE.cint 1)) (CE.cmp (COp.ge) (CE.var 1) (CE.var 2)))) (CSs.cons (CS.ret (CE.cnon)) .nil) .nil) (CSs.cons (CS.asg 5 (CE.var 1)) (CSs.cons (CS.whl 100000 (CE.orr (CE.cmp (COp.le) (CE.var 5) (CE.var 1)) (CE.nott (CE.orr (CE.andd (CE.cmp (COp.ge) (CE.var 5) (CE.var 2)) (CE.cmp (COp.ge) (CE.bin (BOp.sub) (CE.var 5) (CE.var 1)) (CE.var 3))) (CE.cmp (COp.eq) (CE.var 5) (CE.var 4))))) (CSs.cons (CS.asg 5 (CE.bin (BOp.add) (CE.var 5) (CE.cint 1))) .nil)) (CSs.cons (CS.ret (CE.var 5)) .nil)))))
def F_law_won : Fn := ⟨2, runF [] c_law_won 6, false⟩
def c_is_integer : CSs := (CSs.cons (CS.ret (CE.andd (CE.blt (BF.isi (Ty.int)) (CEs.cons (CE.var 0) .nil)) (CE.andd (CE.nott (CE.blt (BF.isi (Ty.bool)) (CEs.cons (CE.var 0) .nil))) (CE.chain (COp.le) (COp.le) (CE.var 1) (CE.var 0) (CE.var 2))))) .nil)
def F_is_integer : Fn := ⟨3, runF [] c_is_integer 3, true⟩
def c_winner_points : CSs := (CSs.cons (CS.asgT [2, 3, 4] (CE.var 0)) (CSs.cons (CS.ife (CE.orr (CE.andd (CE.cmp (COp.gt) (CE.var 4) (CE.cint 0)) (CE.cmp (COp.ge) (CE.var 1) (CE.var 4))) (CE.andd (CE.cmp (COp.eq) (CE.var 3) (CE.cint 1)) (CE.cmp (COp.ge) (CE.var 1) (CE.var 2)))) (CSs.cons (CS.ret (CE.cnon)) .nil) .nil) (CSs.cons (CS.asg 5 (CE.blt (BF.max2) (CEs.cons (CE.var 2) (CEs.cons (CE.bin (BOp.add) (CE.var 1) (CE.var 3)) .nil)))) (CSs.cons (CS.ret (CE.ite (CE.cmp (COp.gt) (CE.var 4) (CE.cint 0)) (CE.blt (BF.min2) (CEs.cons (CE.var 5) (CEs.cons (CE.var 4) .nil))) (CE.var 5))) .nil))))
def F_winner_points : Fn := ⟨2, runF [] c_winner_points 6, false⟩
def c_is_result : CSs := (CSs.cons (CS.ife (CE.orr (CE.nott (CE.blt (BF.isi (Ty.tup)) (CEs.cons (CE.var 1) .nil))) (CE.cmp (COp.ne) (CE.blt (BF.len) (CEs.cons (CE.var 1) .nil)) (CE.cint 2))) (CSs.cons (CS.ret (CE.cbl false)) .nil) .nil) (CSs.cons (CS.ife (CE.orr (CE.nott (CE.call 0 (CEs.cons (CE.idx (CE.var 1) (CE.cint 0)) (CEs.cons (CE.cint 0) (CEs.cons (CE.cint 1000) .nil))))) (CE.nott (CE.call 0 (CEs.cons (CE.idx (CE.var 1) (CE.cint 1)) (CEs.cons (CE.cint 0) (CEs.cons (CE.cint 1000) .nil)))))) (CSs.cons (CS.ret (CE.cbl false)) .nil) .nil) (CSs.cons (CS.ret (CE.andd (CE.cmp (COp.eq) (CE.blt (BF.max1) (CEs.cons (CE.var 1) .nil)) (CE.call 1 (CEs.cons (CE.var 0) (CEs.cons (CE.blt (BF.min1) (CEs.cons (CE.var 1) .nil)) .nil)))) (CE.cmp (COp.ne) (CE.idx (CE.var 1) (CE.cint 0)) (CE.idx (CE.var 1) (CE.cint 1))))) .nil)))
def F_is_result : Fn := ⟨2, runF [F_is_integer, F_winner_points] c_is_result 2, true⟩
def c_law_same_bool : CSs := (CSs.cons (CS.ret (CE.andd (CE.blt (BF.isi (Ty.bool)) (CEs.cons (CE.var 0) .nil)) (CE.cmp (COp.eq) (CE.var 0) (CE.var 1)))) .nil)
def F_law_same_bool : Fn := ⟨2, runF [] c_law_same_bool 2, true⟩
def c_is_over : CSs := (CSs.cons (CS.asgT [3, 4, 5] (CE.var 0)) (CSs.cons (CS.par2 6 7 (CE.blt (BF.max2) (CEs.cons (CE.var 1) (CEs.cons (CE.var 2) .nil))) (CE.blt (BF.min2) (CEs.cons (CE.var 1) (CEs.cons (CE.var 2) .nil)))) (CSs.cons (CS.ret (CE.orr (CE.andd (CE.cmp (COp.ge) (CE.var 6) (CE.var 3)) (CE.cmp (COp.ge) (CE.bin (BOp.sub) (CE.var 6) (CE.var 7)) (CE.var 4))) (CE.andd (CE.cmp (COp.gt) (CE.var 5) (CE.cint 0)) (CE.cmp (COp.ge) (CE.var 6) (CE.var 5))))) .nil)))
def F_is_over : Fn := ⟨3, runF [] c_is_over 8, true⟩
def optD : Option Int → D
  | none => .non
  | some i => .int i
def rl (t l c : Int) : D := .tup [.int t, .int l, .int c]
def pr (a b : Int) : D := .tup [.int a, .int b]
def wp (t l c x : Int) : Option Int := if (0 < c ∧ c ≤ x) ∨ (l = 1 ∧ t ≤ x) then none else some (if 0 < c then min (max t (x + l)) c else max t (x + l))
theorem r_wp (t l c x : Int) : F_winner_points.run [rl t l c, .int x] = some (optD (wp t l c x)) := by
  simp [F_winner_points, y_run, c_winner_points, rl, setM]
  by_cases h1 : 0 < c <;> by_cases h2 : c ≤ x <;> by_cases h3 : l = 1 <;> by_cases h4 : t ≤ x <;> simp [wp, optD, h1, h2, h3, h4]
@[simp] theorem ar_wp : F_winner_points.ar = 2 := id rfl
@[simp] theorem ar_isint : F_is_integer.ar = 3 := id rfl
@[simp] theorem ar_isres : F_is_result.ar = 2 := id rfl
@[simp] theorem ar_won : F_law_won.ar = 2 := id rfl
@[simp] theorem ar_over : F_is_over.ar = 3 := id rfl
@[simp] theorem ar_sb : F_law_same_bool.ar = 2 := id rfl
@[simp] theorem ar_cell : F_law_cell.ar = 2 := id rfl
@[simp] theorem ar_dig : F_law_digits.ar = 4 := id rfl
@[simp] theorem ar_rule : F_law_rule.ar = 2 := id rfl
@[simp] theorem d_isi (T : Ty) (d : D) : dblt (.isi T) [d] = (tyE T d).map .bl := by
  show (match tyE T d with
    | some b => some (D.bl b)
    | none => none) = _
  cases tyE T d <;> rfl
theorem r_isint (v lo hi : Int) : F_is_integer.run [.int v, .int lo, .int hi] = some (.bl (decide (lo ≤ v ∧ v ≤ hi))) := by
  simp [F_is_integer, y_run, c_is_integer, tyE]
  by_cases h1 : lo ≤ v <;> by_cases h2 : v ≤ hi <;> simp [h1, h2]
@[simp] theorem deq_in (a : Int) : dcmp .eq (.int a) .non = some false := id rfl
@[simp] theorem deq_ni (a : Int) : dcmp .ne (.int a) .non = some true := id rfl
theorem dcmp_opt (a : Int) (o : Option Int) : dcmp .eq (.int a) (optD o) = some (decide (o = some a)) := by
  cases o with
  | none => rfl
  | some b => rw [optD, d_eqi]; simp [eq_comm]
theorem dcmp_optn (a : Int) (o : Option Int) : dcmp .ne (.int a) (optD o) = some (!decide (o = some a)) := by
  cases o with
  | none => rfl
  | some b => rw [optD, d_nei]; simp [eq_comm]
def isRes (t l c a b : Int) : Bool := decide (0 ≤ a ∧ a ≤ 1000) && decide (0 ≤ b ∧ b ≤ 1000) && decide (wp t l c (min a b) = some (max a b)) && !decide (a = b)
@[simp] theorem at2_0 (x y : D) : didx (.tup [x, y]) (.int 0) = some x := id rfl
@[simp] theorem at2_1 (x y : D) : didx (.tup [x, y]) (.int 1) = some y := id rfl
@[simp] theorem d_len (xs : List D) : dblt .len [.tup xs] = some (.int xs.length) := id rfl
@[simp] theorem d_lenl (xs : List D) : dblt .len [.lst xs] = some (.int xs.length) := id rfl
theorem r_isres (t l c a b : Int) : F_is_result.run [rl t l c, pr a b] = some (.bl (isRes t l c a b)) := by
  simp [F_is_result, y_run, c_is_result, pr, tyE, y_call, r_isint, r_wp, dcmp_opt]
  by_cases h1 : 0 ≤ a <;> by_cases h2 : a ≤ 1000 <;> by_cases h3 : 0 ≤ b <;> by_cases h4 : b ≤ 1000 <;> by_cases h5 : a = b <;> by_cases h6 : wp t l c (min a b) = some (max a b) <;> simp [isRes, h1, h2, h3, h4, h5, h6]
  all_goals (rw [if_neg (by omega), if_neg (by omega)])
/-! ### the winner's points by counting -/
def wonEnv (t l c x p : Int) : En := [some (rl t l c), some (.int x), some (.int t), some (.int l), some (.int c), some (.int p)]
def wonC : CE := match c_law_won with
  | .cons _ (.cons _ (.cons _ (.cons (.whl _ c _) _))) => c
  | _ => .cnon
def wonB : CSs := match c_law_won with
  | .cons _ (.cons _ (.cons _ (.cons (.whl _ _ b) _))) => b
  | _ => .nil
theorem wonC_at (t l c x p : Int) : asBool (ev [] wonC (wonEnv t l c x p)) = some (decide (p ≤ x ∨ ¬ ((t ≤ p ∧ l ≤ p - x) ∨ p = c))) := by
  simp [wonC, c_law_won, wonEnv]
  by_cases h1 : p ≤ x <;> by_cases h2 : t ≤ p <;> by_cases h3 : l ≤ p - x <;> by_cases h4 : p = c <;> simp [h1, h2, h3, h4]
  all_goals first | omega | (split <;> simp_all)
theorem wonB_at (t l c x p : Int) : exs [] wonB (wonEnv t l c x p) = some (.nx (wonEnv t l c x (p + 1))) := by
  simp [wonB, c_law_won, wonEnv]
theorem won_loop (t l c x W : Int) (hW : x < W) (h1 : (t ≤ W ∧ l ≤ W - x) ∨ W = c) (h2 : ∀ p, x < p → p < W → ¬ ((t ≤ p ∧ l ≤ p - x) ∨ p = c)) : ∀ (m n : Nat) (p : Int), (W - p).toNat = m → m < n → x ≤ p → p ≤ W →
    whileL (fun e => asBool (ev [] wonC e)) (exs [] wonB) n (wonEnv t l c x p) = some (.nx (wonEnv t l c x W)) := by
  intro m
  induction m with
  | zero =>
    intro n p hm hn h3 h4
    have e : p = W := by omega
    subst e
    cases n with
    | zero => omega
    | succ n =>
      unfold whileL
      rw [wonC_at]
      have : decide (p ≤ x ∨ ¬ ((t ≤ p ∧ l ≤ p - x) ∨ p = c)) = false := by
        rw [decide_eq_false_iff_not]
        intro z
        rcases z with z | z
        · omega
        · exact z h1
      rw [this]
  | succ m ih =>
    intro n p hm hn h3 h4
    cases n with
    | zero => omega
    | succ n =>
      unfold whileL
      rw [wonC_at]
      have : decide (p ≤ x ∨ ¬ ((t ≤ p ∧ l ≤ p - x) ∨ p = c)) = true := by
        rw [decide_eq_true_iff]
        by_cases z : p ≤ x
        · exact .inl z
        · exact .inr (h2 p (by omega) (by omega))
      rw [this]
      simp only [wonB_at]
      exact ih n (p + 1) (by omega) (by omega) (by omega) (by omega)
theorem r_won (t l c x : Int) (ht : 1 ≤ t) (ht2 : t ≤ 1000) (hl : 1 ≤ l) (hl2 : l ≤ 1000) (hx : 0 ≤ x) (hc : 0 ≤ c) : F_law_won.run [rl t l c, .int x] = some (optD (wp t l c x)) := by
  have e0 : c_law_won = .cons (.asgT [2, 3, 4] (.var 0)) (.cons (.ife (.orr (.andd (.cmp .gt (.var 4) (.cint 0)) (.cmp .ge (.var 1) (.var 4))) (.andd (.cmp .eq (.var 3) (.cint 1)) (.cmp .ge (.var 1) (.var 2)))) (.cons (.ret .cnon) .nil) .nil) (.cons (.asg 5 (.var 1)) (.cons (.whl 100000 wonC wonB) (.cons (.ret (.var 5)) .nil)))) := rfl
  have e1 : wp t l c x = if (0 < c ∧ c ≤ x) ∨ (l = 1 ∧ t ≤ x) then none else some (if 0 < c then min (max t (x + l)) c else max t (x + l)) := rfl
  by_cases hn : (0 < c ∧ c ≤ x) ∨ (l = 1 ∧ t ≤ x)
  · rw [e1, if_pos hn]
    rw [F_law_won, e0]
    simp only [y_run]
    by_cases h1 : 0 < c <;> by_cases h2 : c ≤ x <;> by_cases h3 : l = 1 <;> by_cases h4 : t ≤ x <;> simp [h1, h2, h3, h4, rl, setM, optD] <;> omega
  · rw [e1, if_neg hn]
    have hw : ∀ W, W = (if 0 < c then min (max t (x + l)) c else max t (x + l)) → F_law_won.run [rl t l c, .int x] = some (.int W) := fun W eW => by
      have b1 : x < W := by split at eW <;> omega
      have b2 : (t ≤ W ∧ l ≤ W - x) ∨ W = c := by split at eW <;> omega
      have b3 : ∀ p, x < p → p < W → ¬ ((t ≤ p ∧ l ≤ p - x) ∨ p = c) := fun p q1 q2 => by split at eW <;> omega
      have b4 : (W - x).toNat < 100000 := by split at eW <;> omega
      have lp := won_loop t l c x W b1 b2 b3 (W - x).toNat 100000 x rfl b4 (Int.le_refl _) (by omega)
      rw [F_law_won, e0]
      have en : wonEnv t l c x x = [some (.tup [.int t, .int l, .int c]), some (.int x), some (.int t), some (.int l), some (.int c), some (.int x)] := rfl
      rw [en] at lp
      simp [y_run, rl, setM, y_whl, lp, wonEnv]
      repeat' split
      all_goals first | rfl | (exfalso; omega)
    exact hw _ rfl
end Pv

/-! Pm2: the law's cells, digits and rules. -/
namespace Pv
open PySem L2
theorem ixT (xs : List D) (i : Int) (h : 0 ≤ i) : didx (.tup xs) (.int i) = xs[i.toNat]? := by
  show atI xs i = _
  obtain ⟨n, rfl⟩ := Int.eq_ofNat_of_zero_le h
  cases e : xs[n]? with
  | some v => rw [Int.toNat_natCast, e]; exact atI_nat e
  | none =>
    rw [Int.toNat_natCast, e]
    cases e2 : atI xs n with
    | none => rfl
    | some v =>
      obtain ⟨j, h1, h2, h3, h4, h5⟩ := atI_get e2
      rw [List.getElem?_eq_getElem (by omega)] at e
      cases e
theorem ixL (xs : List D) (i : Int) (h : 0 ≤ i) : didx (.lst xs) (.int i) = xs[i.toNat]? := (ixT xs i h ▸ rfl : didx (.lst xs) (.int i) = didx (.tup xs) (.int i)) ▸ ixT xs i h
theorem ixS (ns : List Int) (i : Int) (h : 0 ≤ i) : didx (.scr ns) (.int i) = (ns[i.toNat]?).map D.int := by
  show (atI ns i).map D.int = _
  obtain ⟨n, rfl⟩ := Int.eq_ofNat_of_zero_le h
  cases e : ns[n]? with
  | some v => rw [Int.toNat_natCast, e, atI_nat e]
  | none =>
    rw [Int.toNat_natCast, e]
    cases e2 : atI ns n with
    | none => rfl
    | some v =>
      obtain ⟨j, h1, h2, h3, h4, h5⟩ := atI_get e2
      rw [List.getElem?_eq_getElem (by omega)] at e
      cases e
@[simp] theorem d_lens (xs : List Int) : dblt .len [.scr xs] = some (.int xs.length) := id rfl
theorem d_mul (i j : Int) : dbin .mul (.int i) (.int j) = if (small i || small j) = true then some (.int (i * j)) else none := id rfl
theorem d_fdiv (i j : Int) : dbin .fdiv (.int i) (.int j) = if (decide (0 < j) && decide (j < 1073741824)) = true then some (.int (i / j)) else none := id rfl
theorem small_mk {i : Int} (h1 : -(2 ^ 64) < i) (h2 : i < 2 ^ 64) : small i = true := by
  unfold small
  rw [Bool.and_eq_true, decide_eq_true_iff, decide_eq_true_iff]
  exact ⟨h1, h2⟩
theorem r_cell (ns : List Int) (i : Int) (h : 0 ≤ i) : ∃ v, F_law_cell.run [.scr ns, .int i] = some (.int v) := by
  have s1 : small 7919 = true := by decide
  by_cases h1 : i < ns.length
  · have e : ns[i.toNat]? = some ns[i.toNat] := List.getElem?_eq_getElem (by omega)
    exact ⟨ns[i.toNat], by simp [F_law_cell, y_run, c_law_cell, ixS _ _ h, h1, e]⟩
  · by_cases h2 : ns.length = 0
    · have h2' : ns = [] := List.length_eq_zero_iff.mp h2
      subst h2'
      exact ⟨7919 * i + 101, by
        have h' : ¬ i < 0 := by omega
        simp [F_law_cell, y_run, c_law_cell, h', d_mul, s1]⟩
    · have hp : (0 : Int) < ns.length := by omega
      have hm : 0 ≤ i % (ns.length : Int) := Int.emod_nonneg _ (by omega)
      have hm2 : i % (ns.length : Int) < ns.length := Int.emod_lt_of_pos _ hp
      have e : ns[(i % (ns.length : Int)).toNat]? = some ns[(i % (ns.length : Int)).toNat] := List.getElem?_eq_getElem (by omega)
      have hn : ns ≠ [] := fun z => h2 (by rw [z]; rfl)
      have hp' : 0 < ns.length := by omega
      exact ⟨ns[(i % (ns.length : Int)).toNat] % 1000003 + 7919 * i, by simp [F_law_cell, y_run, c_law_cell, ixS _ _ hm, h1, hn, e, hp', d_mul, s1]⟩
/-! ### for -/
theorem forL_nx {f : En → D → Option Out} (I : Nat → En → Prop) : ∀ (xs : List D) (env : En) (k : Nat), I k env → (∀ i e x, xs[i]? = some x → I (k + i) e → ∃ e', f e x = some (.nx e') ∧ I (k + i + 1) e') → ∃ e', forL f xs env = some (.nx e') ∧ I (k + xs.length) e'
  | [], env, k, h0, _ => ⟨env, rfl, h0⟩
  | x :: r, env, k, h0, hs => by
    obtain ⟨e', q1, q2⟩ := hs 0 env x rfl h0
    obtain ⟨e2, p1, p2⟩ := forL_nx I r e' (k + 1) q2 fun i e y hy hI => by
      obtain ⟨e3, z1, z2⟩ := hs (i + 1) e y hy (by rw [show k + (i + 1) = k + 1 + i by omega]; exact hI)
      exact ⟨e3, z1, by rw [show k + 1 + i + 1 = k + (i + 1) + 1 by omega]; exact z2⟩
    refine ⟨e2, ?_, by rw [List.length_cons, show k + (r.length + 1) = k + 1 + r.length by omega]; exact p2⟩
    unfold forL
    rw [q1]
    exact p1
theorem rng_get {n i : Nat} {x : D} (h : (rngD 0 1 n)[i]? = some x) : i < n ∧ x = .int i := by
  rw [rngD_get] at h
  split at h
  · rename_i hl
    cases h
    exact ⟨hl, by rw [Int.mul_one, Int.zero_add]⟩
  · cases h
theorem smallR_mk {i : Int} (h1 : -(2 ^ 62) ≤ i) (h2 : i < 2 ^ 62) : smallR i = true := by
  unfold smallR
  rw [Bool.and_eq_true, decide_eq_true_iff, decide_eq_true_iff]
  exact ⟨h1, h2⟩
theorem rg1_mk {j : Int} (h1 : -(2 ^ 62) ≤ j) (h2 : j < 2 ^ 62) : rg1 (.int j) = some (rngD 0 1 j.toNat) := by
  show (if smallR j = true then _ else _) = _
  rw [if_pos (smallR_mk h1 h2)]
theorem rg2_mk {i j : Int} (h1 : -(2 ^ 62) ≤ i) (h2 : i < 2 ^ 62) (h3 : -(2 ^ 62) ≤ j) (h4 : j < 2 ^ 62) : rg2 (.int i) (.int j) = some (rngD i 1 (j - i).toNat) := by
  show (if (smallR i && smallR j) = true then _ else _) = _
  rw [smallR_mk h1 h2, smallR_mk h3 h4]
  rfl
/-! ### digits -/
def pms : List Int := [2147483647, 2147483629, 2147483587, 2147483579, 2147483563, 2147483549, 2147483543, 2147483497]
def pmD : D := .tup [.int 2147483647, .int 2147483629, .int 2147483587, .int 2147483579, .int 2147483563, .int 2147483549, .int 2147483543, .int 2147483497]
theorem pm_at (k : Int) : ∃ p : Int, didx pmD (.int (k % 8)) = some (.int p) ∧ 0 < p ∧ p ≤ 2147483647 := by
  have h1 : 0 ≤ k % 8 := Int.emod_nonneg _ (by decide)
  have h2 : k % 8 < 8 := Int.emod_lt_of_pos _ (by decide)
  generalize k % 8 = j at h1 h2
  obtain ⟨n, rfl⟩ := Int.eq_ofNat_of_zero_le h1
  have h2 : n < 8 := by omega
  match n, h2 with
  | 0, _ => exact ⟨_, rfl, by decide, by decide⟩
  | 1, _ => exact ⟨_, rfl, by decide, by decide⟩
  | 2, _ => exact ⟨_, rfl, by decide, by decide⟩
  | 3, _ => exact ⟨_, rfl, by decide, by decide⟩
  | 4, _ => exact ⟨_, rfl, by decide, by decide⟩
  | 5, _ => exact ⟨_, rfl, by decide, by decide⟩
  | 6, _ => exact ⟨_, rfl, by decide, by decide⟩
  | 7, _ => exact ⟨_, rfl, by decide, by decide⟩
  | n + 8, h => omega
def digB : CSs := match c_law_digits with
  | .cons _ (.cons _ (.cons _ (.cons _ (.cons (.for_ _ _ b) _)))) => b
  | _ => .nil
theorem digC : c_law_digits = .cons (.asg 4 (.tup (.cons (.cint 2147483647) (.cons (.cint 2147483629) (.cons (.cint 2147483587) (.cons (.cint 2147483579) (.cons (.cint 2147483563) (.cons (.cint 2147483549) (.cons (.cint 2147483543) (.cons (.cint 2147483497) .nil))))))))))
    (.cons (.asg 5 (.call 0 (.cons (.var 0) (.cons (.var 1) .nil)))) (.cons (.asg 6 (.ite (.cmp .ge (.var 5) (.bin .pow (.cint 10) (.cint 18))) (.var 5) (.cint 0))) (.cons (.asg 7 (.lst .nil)) (.cons (.for_ (.one 8) (.rng1 (.var 2)) digB) (.cons (.ret (.var 7)) .nil))))) := rfl
def dEnv (ns : List Int) (ix cnt base cell rest : Int) (ds : List Int) (k m : Option D) : En := [some (.scr ns), some (.int ix), some (.int cnt), some (.int base), some pmD, some (.int cell), some (.int rest), some (.lst (ds.map .int)), k, m]
theorem dig_step (ns : List Int) (ix cnt base cell rest : Int) (ds : List Int) (m : Option D) (n : Int) (hb : 0 < base) (hb2 : base < 1073741824) (hn0 : 0 ≤ n) (hn : n < 1000) (hl : ds.length < 1000) (hr : 0 ≤ rest) :
    ∃ d rest' m', 0 ≤ d ∧ d < base ∧ 0 ≤ rest' ∧ exs [F_law_cell] digB (dEnv ns ix cnt base cell rest ds (some (.int n)) m) = some (.nx (dEnv ns ix cnt base cell rest' (ds ++ [d]) (some (.int n)) m')) := by
  obtain ⟨p1, e1, l1, u1⟩ := pm_at n
  obtain ⟨p2, e2, l2, u2⟩ := pm_at (3 * n + ix)
  obtain ⟨p3, e3, l3, u3⟩ := pm_at (n + 5)
  have s1 : small (48271 + 2 * n * n) = true := by
    have : n * n ≤ 1000 * 1000 := Int.mul_le_mul (by omega) (by omega) (by omega) (by omega)
    have : 0 ≤ n * n := Int.mul_nonneg (by omega) (by omega)
    rw [Int.mul_assoc]
    exact small_mk (by omega) (by omega)
  have s2 : small 2 = true := by decide
  have s3 : small n = true := small_mk (by omega) (by omega)
  have s4 : small (n + 1) = true := small_mk (by omega) (by omega)
  have s5 : small 7919 = true := by decide
  have s6 : small 104729 = true := by decide
  have s7 : small 3 = true := by decide
  have s8 : ∀ z : Int, small (z % p2) = true := fun z => by
    have q1 := Int.emod_nonneg z (show p2 ≠ 0 by omega)
    have q2 := Int.emod_lt_of_pos z l2
    exact small_mk (by omega) (by omega)
  have hz : ds.length < sizeLine := Nat.lt_of_lt_of_le hl (by decide)
  by_cases hrest : 0 < rest
  · refine ⟨rest % base, rest / base, some (.int rest), Int.emod_nonneg _ (by omega), Int.emod_lt_of_pos _ hb, Int.ediv_nonneg hr (by omega), ?_⟩
    simp [digB, c_law_digits, dEnv, d_mul, d_fdiv, s1, s2, s3, s4, s5, s6, s7, s8, e1, e2, e3, l1, l2, l3, hb, hb2, hrest, dapp, hz]
  · let m3 : Int := (cell % p1 * (48271 + 2 * n * n) + 7919 * (n + 1) * (n + 1) + 104729 * ix) % p2
    refine ⟨m3 * m3 * m3 % p3 % base, rest / base, some (.int (m3 * m3 * m3 % p3)), Int.emod_nonneg _ (by omega), Int.emod_lt_of_pos _ hb, Int.ediv_nonneg hr (by omega), ?_⟩
    simp [digB, c_law_digits, dEnv, d_mul, d_fdiv, s1, s2, s3, s4, s5, s6, s7, s8, e1, e2, e3, l1, l2, l3, hb, hb2, hrest, dapp, hz, m3]
theorem dig_run (ns ds : List Int) (ix base C v rest' T : Int) (cnt : Nat) (k' m' : Option D) (hv : F_law_cell.run [D.scr ns, D.int ix] = some (D.int v)) (hpw : dbin .pow (.int 10) (.int 18) = some (.int T)) (hrg : rg1 (D.int C) = some (rngD 0 1 cnt))
    (q1 : forL (forF [F_law_cell] (Tg.one 8) digB) (rngD 0 1 cnt) [some (D.scr ns), some (D.int ix), some (D.int C), some (D.int base), some (D.tup [D.int 2147483647, D.int 2147483629, D.int 2147483587, D.int 2147483579, D.int 2147483563, D.int 2147483549, D.int 2147483543, D.int 2147483497]), some (D.int v), some (D.int (if T ≤ v then v else 0)), some (D.lst []), none, none] = some (Out.nx [some (D.scr ns), some (D.int ix), some (D.int C), some (D.int base), some (D.tup [D.int 2147483647, D.int 2147483629, D.int 2147483587, D.int 2147483579, D.int 2147483563, D.int 2147483549, D.int 2147483543, D.int 2147483497]), some (D.int v), some (D.int rest'), some (D.lst (List.map D.int ds)), k', m'])) : exs [F_law_cell] c_law_digits [some (D.scr ns), some (D.int ix), some (D.int C), some (D.int base), none, none, none, none, none, none] = some (.rt (.lst (ds.map .int))) := by
  rw [digC]
  by_cases h18 : T ≤ v
  · simp only [h18, if_true] at q1
    simp [y_call, hv, hpw, h18, y_for, hrg, q1]
  · simp only [h18, if_false] at q1
    simp [y_call, hv, hpw, h18, y_for, hrg, q1]
theorem r_dig (ns : List Int) (ix base : Int) (cnt : Nat) (hi : 0 ≤ ix) (hc : cnt ≤ 1000) (hb : 0 < base) (hb2 : base < 1073741824) :
    ∃ ds : List Int, ds.length = cnt ∧ (∀ d ∈ ds, 0 ≤ d ∧ d < base) ∧ F_law_digits.run [.scr ns, .int ix, .int (cnt : Int), .int base] = some (.lst (ds.map .int)) := by
  obtain ⟨v, hv⟩ := r_cell ns ix hi
  have hpw : dbin .pow (.int 10) (.int 18) = some (.int 1000000000000000000) := rfl
  obtain ⟨e', q1, ds, rest', k', m', q2, q3, q4, rfl⟩ : ∃ e', forL (forF [F_law_cell] (.one 8) digB) (rngD 0 1 cnt) (dEnv ns ix cnt base v (if 1000000000000000000 ≤ v then v else 0) [] none none) = some (.nx e') ∧
      ∃ (ds : List Int) (rest' : Int) (k' m' : Option D), ds.length = cnt ∧ (∀ d ∈ ds, 0 ≤ d ∧ d < base) ∧ 0 ≤ rest' ∧ e' = dEnv ns ix cnt base v rest' ds k' m' := by
    obtain ⟨e', q1, q2⟩ := forL_nx (f := forF [F_law_cell] (.one 8) digB) (fun i e => ∃ (ds : List Int) (rest' : Int) (k' m' : Option D), ds.length = i ∧ (∀ d ∈ ds, 0 ≤ d ∧ d < base) ∧ 0 ≤ rest' ∧ e = dEnv ns ix cnt base v rest' ds k' m') (rngD 0 1 cnt) (dEnv ns ix cnt base v (if 1000000000000000000 ≤ v then v else 0) [] none none) 0
      ⟨[], _, none, none, rfl, fun d hd => (by cases hd), by split <;> omega, rfl⟩ (fun i e x hx hI => by
        obtain ⟨hi', rfl⟩ := rng_get hx
        obtain ⟨ds, rest', k', m', h1, h2, h3, rfl⟩ := hI
        generalize hk : (i : Int) = k
        obtain ⟨d, rest2, m2, z1, z2, z3, z4⟩ := dig_step ns ix cnt base v rest' ds m' k hb hb2 (by omega) (by omega) (by omega) h3
        refine ⟨dEnv ns ix cnt base v rest2 (ds ++ [d]) (some (.int k)) m2, ?_, ds ++ [d], rest2, _, m2, by simp [h1], fun d' hd' => ?_, z3, rfl⟩
        · exact z4
        · rcases List.mem_append.mp hd' with h | h
          · exact h2 d' h
          · rw [List.mem_singleton.mp h]; exact ⟨z1, z2⟩)
    rw [rngD_len, Nat.zero_add] at q2
    exact ⟨e', q1, q2⟩
  refine ⟨ds, q2, q3, ?_⟩
  have hrg : rg1 (.int (cnt : Int)) = some (rngD 0 1 cnt) := by
    have := rg1_mk (j := (cnt : Int)) (by omega) (by omega)
    rw [this]; rfl
  have := dig_run ns ds ix base cnt v rest' _ cnt k' m' hv hpw hrg q1
  rw [F_law_digits]
  show runF [F_law_cell] c_law_digits 10 _ = _
  rw [y_run]
  show rO (exs [F_law_cell] c_law_digits [some (D.scr ns), some (D.int ix), some (D.int (cnt : Int)), some (D.int base), none, none, none, none, none, none]) = _
  rw [this]
  rfl
end Pv

/-! Pv17: slots that a code leaves alone; the law's outer loop. -/
namespace Pv
open PySem L2
mutual
def kp (i : Nat) : CS → Bool
  | .asg j _ => j != i
  | .asgT js _ => !js.contains i
  | .par2 j k _ _ => j != i && k != i
  | .par3 j k l _ _ _ => j != i && k != i && l != i
  | .setix j _ _ => j != i
  | .app j _ => j != i
  | .aug j _ _ => j != i
  | .ife _ a b => kps i a && kps i b
  | .ret _ => true
  | .retn => true
  | .for_ tg _ b => !(tgI tg).contains i && kps i b
  | .whl _ _ b => kps i b
def kps (i : Nat) : CSs → Bool
  | .nil => true
  | .cons s r => kp i s && kps i r
end
/-- slot i and the length stay -/
def Keep (i : Nat) (e e' : En) : Prop := e'.getD i none = e.getD i none ∧ e'.length = e.length
theorem Keep.refl (i : Nat) (e : En) : Keep i e e := ⟨rfl, rfl⟩
theorem Keep.trans {i : Nat} {a b c : En} (h : Keep i a b) (h' : Keep i b c) : Keep i a c := ⟨h'.1.trans h.1, h'.2.trans h.2⟩
theorem Keep.set {i j : Nat} (e : En) (d : Option D) (h : (j != i) = true) : Keep i e (e.set j d) := ⟨getD_set_ne (fun z => by subst z; simp at h), List.length_set⟩
theorem Keep.setM {i : Nat} : ∀ {js : List Nat} {ds : List D} {e e' : En}, js.contains i = false → setM e js ds = some e' → Keep i e e'
  | [], [], e, e', _, h => by cases h; exact Keep.refl i e
  | [], _ :: _, _, _, _, h => by cases h
  | _ :: _, [], _, _, _, h => by cases h
  | j :: js, d :: ds, e, e', n, h => by
    simp only [List.contains_cons, Bool.or_eq_false_iff] at n
    exact (Keep.set e (some d) (by have := n.1; simp at this ⊢; exact fun z => this z.symm)).trans (Keep.setM (js := js) (ds := ds) n.2 h)
theorem Keep.setT {i : Nat} {tg : Tg} {d : D} {e e' : En} (n : (!(tgI tg).contains i) = true) (h : setT tg e d = some e') : Keep i e e' := by
  cases tg with
  | one j =>
    cases h
    exact Keep.set e (some d) (by simp [tgI] at n ⊢; exact fun z => n z.symm)
  | many js =>
    cases d with
    | tup ds => exact Keep.setM (by simpa [tgI] using n) h
    | _ => cases h
theorem forL_keep {i : Nat} {f : En → D → Option Out} (h : ∀ e x e', f e x = some (.nx e') → Keep i e e') : ∀ (xs : List D) {e e' : En}, forL f xs e = some (.nx e') → Keep i e e'
  | [], e, e', q => by cases q; exact Keep.refl i e
  | x :: r, e, e', q => by
    unfold forL at q
    cases q1 : f e x with
    | none => rw [q1] at q; cases q
    | some o =>
      rw [q1] at q
      cases o with
      | rt d => cases q
      | nx e1 => exact (h e x e1 q1).trans (forL_keep h r q)
theorem whileL_keep {i : Nat} {t : En → Option Bool} {f : En → Option Out} (h : ∀ e e', f e = some (.nx e') → Keep i e e') : ∀ (n : Nat) {e e' : En}, whileL t f n e = some (.nx e') → Keep i e e'
  | 0, _, _, q => by cases q
  | n + 1, e, e', q => by
    unfold whileL at q
    split at q
    · cases q
    · cases q; exact Keep.refl i e
    · split at q
      · cases q
      · cases q
      · rename_i e1 q1
        exact (h e e1 q1).trans (whileL_keep h n q)
section
variable {Φ : List Fn} {i : Nat}
mutual
theorem ex_keep : ∀ (c : CS) {e e' : En}, kp i c = true → ex Φ c e = some (.nx e') → Keep i e e'
  | .asg j x, e, e', n, h => by
    unfold ex at h
    split at h
    · cases h; exact Keep.set e _ n
    · cases h
  | .asgT js x, e, e', n, h => by
    unfold ex at h
    split at h
    · split at h
      · rename_i h1; cases h; exact Keep.setM (by simpa [kp] using n) h1
      · cases h
    · cases h
  | .par2 j k x y, e, e', n, h => by
    unfold ex at h
    simp only [kp, Bool.and_eq_true] at n
    split at h
    · cases h
    · split at h
      · cases h
      · cases h; exact (Keep.set e _ n.1).trans (Keep.set _ _ n.2)
  | .par3 j k l x y z, e, e', n, h => by
    unfold ex at h
    simp only [kp, Bool.and_eq_true] at n
    split at h
    · cases h
    · split at h
      · cases h
      · split at h
        · cases h
        · cases h; exact ((Keep.set e _ n.1.1).trans (Keep.set _ _ n.1.2)).trans (Keep.set _ _ n.2)
  | .setix j x y, e, e', n, h => by
    unfold ex at h
    split at h
    · cases h
    · split at h
      · cases h
      · split at h
        · cases h
        · split at h
          · cases h; exact Keep.set e _ n
          · cases h
  | .app j x, e, e', n, h => by
    unfold ex at h
    split at h
    · cases h
    · split at h
      · cases h
      · split at h
        · cases h; exact Keep.set e _ n
        · cases h
  | .aug j op x, e, e', n, h => by
    unfold ex at h
    split at h
    · split at h
      · split at h
        · cases h; exact Keep.set e _ n
        · cases h
      · cases h
    · cases h
  | .ife x a b, e, e', n, h => by
    unfold ex at h
    simp only [kp, Bool.and_eq_true] at n
    split at h
    · exact exs_keep a n.1 h
    · exact exs_keep b n.2 h
    · cases h
  | .ret x, e, e', n, h => by
    unfold ex at h
    split at h <;> cases h
  | .retn, e, e', n, h => by cases h
  | .for_ tg it body, e, e', n, h => by
    unfold ex at h
    simp only [kp, Bool.and_eq_true] at n
    split at h
    · cases h
    · refine forL_keep (fun e1 x e2 q => ?_) _ h
      split at q
      · rename_i e3 h3
        exact (Keep.setT n.1 h3).trans (exs_keep body n.2 q)
      · cases q
  | .whl m c body, e, e', n, h => by
    unfold ex at h
    exact whileL_keep (fun e1 e2 q => exs_keep body n q) m h
theorem exs_keep : ∀ (c : CSs) {e e' : En}, kps i c = true → exs Φ c e = some (.nx e') → Keep i e e'
  | .nil, e, e', n, h => by cases h; exact Keep.refl i e
  | .cons s r, e, e', n, h => by
    unfold exs at h
    simp only [kps, Bool.and_eq_true] at n
    split at h
    · cases h
    · cases h
    · rename_i e1 h1
      exact (ex_keep s n.1 h1).trans (exs_keep r n.2 h)
end
end
/-! ### rules -/
theorem r_rule (ds : List Int) (most : Int) (hl : 3 ≤ ds.length) (h0 : ∀ d ∈ ds, 0 ≤ d) (hm : 1 ≤ most) : ∃ t l c : Int, F_law_rule.run [.lst (ds.map .int), .int most] = some (rl t l c) ∧ 1 ≤ t ∧ t ≤ most ∧ 1 ≤ l ∧ l ≤ 3 ∧ l ≤ t ∧ (c = 0 ∨ (t ≤ c ∧ c ≤ t + 3)) := by
  match ds, hl with
  | a :: b :: c :: r, _ =>
    have ha : 0 ≤ a := h0 a (by simp)
    have hb : 0 ≤ b := h0 b (by simp)
    have hc : 0 ≤ c := h0 c (by simp)
    have t1 := Int.emod_nonneg a (show most ≠ 0 by omega)
    have t2 := Int.emod_lt_of_pos a (show 0 < most by omega)
    generalize ht : 1 + a % most = t
    have l1 := Int.emod_nonneg b (show min 3 t ≠ 0 by omega)
    have l2 := Int.emod_lt_of_pos b (show 0 < min 3 t by omega)
    have c1 := Int.emod_nonneg c (show (4 : Int) ≠ 0 by decide)
    have c2 := Int.emod_lt_of_pos c (show (0 : Int) < 4 by decide)
    have q1 := Int.emod_nonneg (c / 4) (show (3 : Int) ≠ 0 by decide)
    have q2 := Int.emod_lt_of_pos (c / 4) (show (0 : Int) < 3 by decide)
    have hp : 0 < min 3 t := by omega
    have hp' : 0 < most := by omega
    generalize hq : c / 4 % 3 = q at q1 q2
    have e1 : didx (.lst [.int 0, .int 0, .int (t + c % 4)]) (.int q) = some (.int (if q = 2 then t + c % 4 else 0)) := by
      have : q = 0 ∨ q = 1 ∨ q = 2 := by omega
      rcases this with rfl | rfl | rfl <;> rfl
    refine ⟨t, 1 + b % min 3 t, if q = 2 then t + c % 4 else 0, ?_, by omega, by omega, by omega, by omega, by omega, by split <;> omega⟩
    have i0 : ∀ xs : List D, didx (.lst (.int a :: xs)) (.int 0) = some (.int a) := fun xs => by rw [ixL _ _ (by decide)]; rfl
    have i1 : ∀ (x : D) (xs : List D), didx (.lst (x :: .int b :: xs)) (.int 1) = some (.int b) := fun x xs => by rw [ixL _ _ (by decide)]; rfl
    have i2 : ∀ (x y : D) (xs : List D), didx (.lst (x :: y :: .int c :: xs)) (.int 2) = some (.int c) := fun x y xs => by rw [ixL _ _ (by decide)]; rfl
    have m1 : t ≤ 3 ∨ 3 ≤ t := by omega
    simp [F_law_rule, y_run, c_law_rule, rl, i0, i1, i2, hp, hp', ht, d_fdiv, hq, e1]
/-- an iteration of a law: digits, a rule, and what follows from the rule alone -/
def dgC (nd : Int) : CS := .asg 2 (.call 0 (.cons (.var 0) (.cons (.var 1) (.cons (.cint nd) (.cons (.cint 27720) .nil)))))
def rlC (most : Int) : CS := .asg 3 (.call 1 (.cons (.var 2) (.cons (.cint most) .nil)))
theorem getD_0 {e : En} {d : D} (h : e.getD 0 none = some d) : ∃ r, e = some d :: r := by
  cases e with
  | nil => cases h
  | cons x r => exact ⟨r, by rw [show x = some d from h]⟩
/-- digits and rule are there -/
theorem law_head {Φ : List Fn} {ns : List Int} {i nd most : Int} {ndn : Nat} {rest : CSs} {e : En} (h0 : Φ[0]? = some F_law_digits) (h1 : Φ[1]? = some F_law_rule) (hn : nd = (ndn : Int)) (hn3 : 3 ≤ ndn) (hn4 : ndn ≤ 1000) (hm : 1 ≤ most) (hi : 0 ≤ i) (he : e.getD 0 none = some (.scr ns)) (hl : 4 ≤ e.length) :
    ∃ (ds : List Int) (t l c : Int), ds.length = ndn ∧ (∀ d ∈ ds, 0 ≤ d ∧ d < 27720) ∧ 1 ≤ t ∧ t ≤ most ∧ 1 ≤ l ∧ l ≤ 3 ∧ l ≤ t ∧ (c = 0 ∨ (t ≤ c ∧ c ≤ t + 3)) ∧
      exs Φ (.cons (dgC nd) (.cons (rlC most) rest)) (e.set 1 (some (.int i))) = exs Φ rest (((e.set 1 (some (.int i))).set 2 (some (.lst (ds.map .int)))).set 3 (some (rl t l c))) := by
  obtain ⟨ds, d1, d2, d3⟩ := r_dig ns i 27720 ndn hi hn4 (by decide) (by decide)
  obtain ⟨t, l, c, r1, r2⟩ := r_rule ds most (by omega) (fun d hd => (d2 d hd).1) hm
  obtain ⟨r, rfl⟩ := getD_0 he
  refine ⟨ds, t, l, c, d1, d2, r2.1, r2.2.1, r2.2.2.1, r2.2.2.2.1, r2.2.2.2.2.1, r2.2.2.2.2.2, ?_⟩
  rw [← hn] at d3
  generalize hm' : ds.map D.int = dm at d3 r1
  match r, hl with
  | x1 :: x2 :: x3 :: r', _ =>
    simp [dgC, rlC, y_call, h0, h1, d3, r1]
def minE (n k : Nat) (d : D) : En := (List.replicate n none).set k (some d)
theorem minE_le {n k : Nat} {d : D} {e : En} (hl : e.length = n) (he : e.getD k none = some d) : EnLe (minE n k d) e := by
  refine ⟨by unfold minE; rw [List.length_set, List.length_replicate, hl], fun i => ?_⟩
  unfold minE
  by_cases hi : i = k
  · subst hi
    by_cases l : i < n
    · rw [getD_self (by rw [List.length_replicate]; exact l), he]; exact OLe.refl _
    · rw [getD_out (by rw [hl]; exact l)] at he; cases he
  · rw [getD_set_ne hi, List.getD_eq_getElem?_getD, List.getElem?_replicate]
    split <;> exact OLe.non
/-- all rules up to a target -/
def rulesL (n : Nat) : List (Int × Int × Int) := (List.range n).flatMap fun t => (List.range (min 3 (t + 1))).flatMap fun l => (0 :: (List.range 4).map fun c => ((t + 1 + c : Nat) : Int)).map fun c => (((t + 1 : Nat) : Int), ((l + 1 : Nat) : Int), c)
theorem mem_rules {n : Nat} {t l c : Int} (h1 : 1 ≤ t) (h2 : t ≤ n) (h3 : 1 ≤ l) (h4 : l ≤ 3) (h5 : l ≤ t) (h6 : c = 0 ∨ (t ≤ c ∧ c ≤ t + 3)) : (t, l, c) ∈ rulesL n := by
  unfold rulesL
  rw [List.mem_flatMap]
  refine ⟨(t - 1).toNat, List.mem_range.mpr (by omega), ?_⟩
  rw [List.mem_flatMap]
  refine ⟨(l - 1).toNat, List.mem_range.mpr (by omega), ?_⟩
  rw [List.mem_map]
  refine ⟨c, ?_, by congr 1; omega; congr 1; omega⟩
  rcases h6 with h6 | h6
  · rw [h6]; exact List.mem_cons_self
  · refine List.mem_cons_of_mem _ (List.mem_map.mpr ⟨(c - t).toNat, List.mem_range.mpr (by omega), by omega⟩)
def isNx : Option Out → Bool
  | some (.nx _) => true
  | _ => false
theorem isNx_of {o : Option Out} (h : isNx o = true) : ∃ e, o = some (.nx e) := by
  unfold isNx at h
  split at h
  · exact ⟨_, rfl⟩
  · cases h
/-- a law whose iterations ask something of the rule alone -/
theorem law_rules {Φ Φ' : List Fn} {ns : List Int} {nd most : Int} {ndn mostn N m : Nat} {rest : CSs} {e : En} (hΦ : FsLe Φ' Φ) (h0 : Φ[0]? = some F_law_digits) (h1 : Φ[1]? = some F_law_rule) (hn : nd = (ndn : Int)) (hn3 : 3 ≤ ndn) (hn4 : ndn ≤ 1000) (hmn : most = (mostn : Int)) (hm : 1 ≤ most)
    (hk : kps 0 rest = true) (hN : 4 ≤ N) (ck : ∀ r ∈ rulesL mostn, isNx (exsR Φ' rest (minE N 3 (rl r.1 r.2.1 r.2.2))) = true) (he : e.getD 0 none = some (.scr ns)) (hl : e.length = N) :
    ∃ e', forL (forF Φ (.one 1) (.cons (dgC nd) (.cons (rlC most) rest))) (rngD 0 1 m) e = some (.nx e') ∧ Keep 0 e e' := by
  obtain ⟨e', q1, q2⟩ := forL_nx (f := forF Φ (.one 1) (.cons (dgC nd) (.cons (rlC most) rest))) (fun _ e1 => Keep 0 e e1) (rngD 0 1 m) e 0 (Keep.refl 0 e) fun i e1 x hx hI => by
    obtain ⟨hi, rfl⟩ := rng_get hx
    have g0 : e1.getD 0 none = some (.scr ns) := hI.1.trans he
    have gl : e1.length = N := hI.2.trans hl
    obtain ⟨ds, t, l, c, _, _, t1, t2, l1, l2, l3, c1, ee⟩ := law_head (Φ := Φ) (rest := rest) (i := (i : Int)) (most := most) h0 h1 hn hn3 hn4 hm (by omega) g0 (by omega)
    have hc := ck (t, l, c) (mem_rules t1 (by omega) l1 l2 l3 c1)
    obtain ⟨e2, z2⟩ := isNx_of hc
    rw [exsR_eq] at z2
    generalize he3 : ((e1.set 1 (some (.int (i : Int)))).set 2 (some (.lst (ds.map .int)))).set 3 (some (rl t l c)) = e3 at ee
    have k3 : Keep 0 e1 e3 := by
      rw [← he3]
      exact ((Keep.set e1 _ rfl).trans (Keep.set _ _ rfl)).trans (Keep.set _ _ rfl)
    have g3 : e3.getD 3 none = some (rl t l c) := by
      rw [← he3]
      exact getD_self (by rw [List.length_set, List.length_set]; omega)
    obtain ⟨x', y1, y2⟩ := exs_le hΦ rest (minE_le (k3.2.trans gl) g3) _ z2
    cases x' with
    | rt d => exact y2.elim
    | nx e4 =>
      refine ⟨e4, ?_, hI.trans (k3.trans (exs_keep rest hk y1))⟩
      show exs Φ _ (e1.set 1 (some (.int (i : Int)))) = _
      rw [ee, y1]
  exact ⟨e', q1, q2⟩
def isTr : Option Out → Bool
  | some (.rt (.bl true)) => true
  | _ => false
theorem isTr_of {o : Option Out} (h : isTr o = true) : o = some (.rt (.bl true)) := by
  unfold isTr at h
  split at h
  · rfl
  · cases h
theorem law_end {Φ Φ' : List Fn} {c : CSs} {N : Nat} {e : En} (hΦ : FsLe Φ' Φ) (hl : e.length = N) (h : isTr (exsR Φ' c (List.replicate N none)) = true) : exs Φ c e = some (.rt (.bl true)) := by
  have h2 := isTr_of h
  rw [exsR_eq] at h2
  have le : EnLe (List.replicate N none) e := ⟨by rw [List.length_replicate, hl], fun i => by
    rw [List.getD_eq_getElem?_getD, List.getElem?_replicate]
    split <;> exact OLe.non⟩
  obtain ⟨x', y1, y2⟩ := exs_le hΦ c le _ h2
  cases x' with
  | rt d => cases y2; exact y1
  | nx e4 => exact y2.elim
/-- a list in pieces of m -/
theorem all_chunks {α : Type} {xs : List α} {p : α → Bool} (m : Nat) (hm : 0 < m) (h : ∀ i, i * m < xs.length → ((xs.drop (i * m)).take m).all p = true) : xs.all p = true := by
  rw [List.all_eq_true]
  intro x hx
  obtain ⟨j, hj, rfl⟩ := List.getElem_of_mem hx
  have h1 : j / m * m ≤ j := Nat.div_mul_le_self j m
  have h2 : j < j / m * m + m := by
    have := Nat.mod_lt j hm
    have e := Nat.div_add_mod j m
    rw [Nat.mul_comm] at e
    omega
  refine (List.all_eq_true.mp (h (j / m) (by omega))) _ ?_
  refine List.mem_of_getElem? (i := j - j / m * m) ?_
  rw [List.getElem?_take_of_lt (by omega), List.getElem?_drop, show j / m * m + (j - j / m * m) = j by omega, List.getElem?_eq_getElem hj]
end Pv

/-! Pm3: quick mirrors of shared functions. -/
namespace Pv
open PySem L2
theorem r_over (t l c a b : Int) : F_is_over.run [rl t l c, .int a, .int b] = some (.bl (decide ((t ≤ max a b ∧ l ≤ max a b - min a b) ∨ (0 < c ∧ c ≤ max a b)))) := by
  simp [F_is_over, y_run, c_is_over, rl, setM]
  generalize max a b = h
  generalize min a b = w
  by_cases h1 : t ≤ h <;> by_cases h2 : l ≤ h - w <;> by_cases h3 : 0 < c <;> by_cases h4 : c ≤ h <;> simp [h1, h2, h3, h4]
theorem deq_bl (a b : Bool) : dcmp .eq (.bl a) (.bl b) = some (a == b) := by cases a <;> cases b <;> rfl
theorem r_sb (a b : Bool) : F_law_same_bool.run [.bl a, .bl b] = some (.bl (a == b)) := by
  simp [F_law_same_bool, y_run, c_law_same_bool, tyE, deq_bl]
def G_over : Fn := ⟨3, fun ds => match ds with
  | [.tup [.int t, .int l, .int c], .int a, .int b] => some (.bl (decide ((t ≤ max a b ∧ l ≤ max a b - min a b) ∨ (0 < c ∧ c ≤ max a b))))
  | _ => none, true⟩
theorem G_over_le : FnLe G_over F_is_over := ⟨rfl, fun ds x h => by
  unfold G_over at h
  simp only at h
  split at h
  · cases h; exact r_over _ _ _ _ _
  · cases h⟩
def G_sb : Fn := ⟨2, fun ds => match ds with
  | [.bl a, .bl b] => some (.bl (a == b))
  | _ => none, true⟩
theorem G_sb_le : FnLe G_sb F_law_same_bool := ⟨rfl, fun ds x h => by
  unfold G_sb at h
  simp only at h
  split at h
  · cases h; exact r_sb _ _
  · cases h⟩
def G_res : Fn := ⟨2, fun ds => match ds with
  | [.tup [.int t, .int l, .int c], .tup [.int a, .int b]] => some (.bl (isRes t l c a b))
  | _ => none, true⟩
theorem G_res_le : FnLe G_res F_is_result := ⟨rfl, fun ds x h => by
  unfold G_res at h
  simp only at h
  split at h
  · cases h; exact r_isres _ _ _ _ _
  · cases h⟩
def G_wp : Fn := ⟨2, fun ds => match ds with
  | [.tup [.int t, .int l, .int c], .int x] => some (optD (wp t l c x))
  | _ => none, false⟩
theorem G_wp_le : FnLe G_wp F_winner_points := ⟨rfl, fun ds x h => by
  unfold G_wp at h
  simp only at h
  split at h
  · cases h; exact r_wp _ _ _ _
  · cases h⟩
def G_won : Fn := ⟨2, fun ds => match ds with
  | [.tup [.int t, .int l, .int c], .int x] => if 1 ≤ t ∧ t ≤ 1000 ∧ 1 ≤ l ∧ l ≤ 1000 ∧ 0 ≤ x ∧ 0 ≤ c then some (optD (wp t l c x)) else none
  | _ => none, false⟩
theorem G_won_le : FnLe G_won F_law_won := ⟨rfl, fun ds x h => by
  unfold G_won at h
  simp only at h
  split at h
  · split at h
    · rename_i hc
      cases h
      exact r_won _ _ _ _ hc.1 hc.2.1 hc.2.2.1 hc.2.2.2.1 hc.2.2.2.2.1 hc.2.2.2.2.2
    · cases h
  · cases h⟩
/-- nothing is called -/
def G_no (n : Nat) : Fn := ⟨n, fun _ => none, false⟩
theorem G_no_le {F : Fn} : FnLe (G_no F.ar) F := ⟨rfl, fun ds x h => by cases h⟩
noncomputable def G_r (F : Fn) (Φ : List Fn) (c : CSs) (n : Nat) : Fn := ⟨F.ar, runR Φ c n, F.fr⟩
theorem G_r_le {k n : Nat} {c : CSs} {fr : Bool} {Φ' Φ : List Fn} (h : FsLe Φ' Φ) : FnLe ⟨k, runR Φ' c n, fr⟩ ⟨k, runF Φ c n, fr⟩ := ⟨rfl, fun ds x e => by
  have e : runR Φ' c n ds = some x := e
  rw [runR_eq] at e
  exact run_le h c n ds x e⟩
end Pv

/-! Pm4: slices, comprehensions, random rows. -/
namespace Pv
open PySem L2
def c_law_random_row : CSs := (CSs.cons (CS.asg 4 (CE.tup .nil)) (CSs.cons (CS.for_ (Tg.many [5, 6]) (CIt.zip (CE.var 2) (CE.var 0)) (CSs.cons (CS.asg 7 (CE.bin (BOp.mod) (CE.var 6) (CE.bin (BOp.add) (CE.cint 1) (CE.var 3)))) (CSs.cons (CS.ife (CE.cmp (COp.gt) (CE.idx (CE.var 1) (CE.cint 2)) (CE.cint 0)) (CSs.cons (CS.asg 7 (CE.blt (BF.min2) (CEs.cons (CE.var 7) (CEs.cons (CE.bin (BOp.sub) (CE.idx (CE.var 1) (CE.cint 2)) (CE.cint 1)) .nil)))) .nil) .nil) (CSs.cons (CS.ife (CE.cmp (COp.eq) (CE.idx (CE.var 1) (CE.cint 1)) (CE.cint 1)) (CSs.cons (CS.asg 7 (CE.blt (BF.min2) (CEs.cons (CE.var 7) (CEs.cons (CE.bin (BOp.sub) (CE.idx (CE.var 1) (CE.cint 0)) (CE.cint 1)) .nil)))) .nil) .nil) (CSs.cons (CS.asg 8 (CE.call 0 (CEs.cons (CE.var 1) (CEs.cons (CE.var 7) .nil)))) (CSs.cons (CS.asg 4 (CE.bin (BOp.add) (CE.var 4) (CE.tup (CEs.cons (CE.ite (CE.cmp (COp.eq) (CE.var 5) (CE.cstr "first")) (CE.tup (CEs.cons (CE.var 8) (CEs.cons (CE.var 7) .nil))) (CE.tup (CEs.cons (CE.var 7) (CEs.cons (CE.var 8) .nil)))) .nil)))) .nil)))))) (CSs.cons (CS.ret (CE.var 4)) .nil)))
def F_law_random_row : Fn := ⟨4, runF [F_law_won] c_law_random_row 9, true⟩
theorem lcL_map {f : D → Option (Option D)} {g : D → D} : ∀ {xs : List D}, (∀ x ∈ xs, f x = some (some (g x))) → lcL f xs = some (xs.map g)
  | [], _ => rfl
  | x :: r, h => by
    unfold lcL
    rw [h x List.mem_cons_self, lcL_map fun y hy => h y (List.mem_cons_of_mem _ hy)]
    rfl
theorem lcL_filter {f : D → Option (Option D)} {p : D → Bool} {g : D → D} : ∀ {xs : List D}, (∀ x ∈ xs, f x = some (if p x = true then some (g x) else none)) → lcL f xs = some ((xs.filter p).map g)
  | [], _ => rfl
  | x :: r, h => by
    unfold lcL
    rw [h x List.mem_cons_self, lcL_filter fun y hy => h y (List.mem_cons_of_mem _ hy)]
    cases e : p x with
    | true => rw [List.filter_cons_of_pos e]; rfl
    | false => rw [List.filter_cons_of_neg (by rw [e]; decide)]; rfl
theorem cutD_map {α β : Type} (f : α → β) (xs : List α) (lo hi : Option Int) : cutD (xs.map f) lo hi = (cutD xs lo hi).map f := by
  unfold cutD
  rw [List.length_map, List.map_take, List.map_drop]
theorem cutD_mem {α : Type} {xs : List α} {lo hi : Option Int} {x : α} (h : x ∈ cutD xs lo hi) : x ∈ xs := List.mem_of_mem_drop (List.mem_of_mem_take h)
theorem cutD_len {α : Type} (xs : List α) (lo hi : Option Int) : (cutD xs lo hi).length ≤ xs.length := by
  unfold cutD
  rw [List.length_take, List.length_drop]
  omega
theorem sl_lst (xs : List D) (lo hi : Option Int) : dslice (.lst xs) lo hi = some (.lst (cutD xs lo hi)) := rfl
theorem sl_tup (xs : List D) (lo hi : Option Int) : dslice (.tup xs) lo hi = some (.tup (cutD xs lo hi)) := rfl
/-! ### pairs -/
def prD (p : Int × Int) : D := pr p.1 p.2
/-- a result that the rule gives -/
def okP (t l c : Int) (p : Int × Int) : Prop := ∃ x w, 0 ≤ x ∧ x ≤ 1000 ∧ x < w ∧ w ≤ 1000 ∧ wp t l c x = some w ∧ (p = (w, x) ∨ p = (x, w))
theorem wp_lt {t l c x w : Int} (h : wp t l c x = some w) (hl : 1 ≤ l) : x < w ∧ (w ≤ t ∨ w ≤ x + l) := by
  unfold wp at h
  split at h
  · cases h
  · rename_i hn
    cases h
    split <;> omega
def first : D := .str "first"
def second : D := .str "second"
theorem eq_ff : dcmp .eq first (.str "first") = some true := by decide +kernel
theorem eq_sf : dcmp .eq second (.str "first") = some false := by decide +kernel
def rowB : CSs := match c_law_random_row with
  | .cons _ (.cons (.for_ _ _ b) _) => b
  | _ => .nil
theorem rowC : c_law_random_row = .cons (.asg 4 (.tup .nil)) (.cons (.for_ (.many [5, 6]) (.zip (.var 2) (.var 0)) rowB) (.cons (.ret (.var 4)) .nil)) := rfl
theorem row_step (t l c most g : Int) (A B : D) (s1 m7 m8 : Option D) (s : D) (ps : List (Int × Int)) (hs : s = first ∨ s = second) (ht : 1 ≤ t) (ht2 : t ≤ 100) (hl : 1 ≤ l) (hl2 : l ≤ 100) (hc : 0 ≤ c) (hm : 0 ≤ most) (hm2 : most ≤ 800) (hz : ps.length + 1 ≤ 1000) :
    ∃ p m7' m8', okP t l c p ∧ exs [F_law_won] rowB [some A, some (rl t l c), some B, some (.int most), some (.tup (ps.map prD)), some s, some (.int g), m7, m8] = some (.nx [some A, some (rl t l c), some B, some (.int most), some (.tup ((ps ++ [p]).map prD)), some s, some (.int g), m7', m8']) := by
  have g1 := Int.emod_nonneg g (show 1 + most ≠ 0 by omega)
  have g2 := Int.emod_lt_of_pos g (show 0 < 1 + most by omega)
  have hp : 0 < 1 + most := by omega
  generalize hx0 : g % (1 + most) = x0 at g1 g2
  generalize hx1 : (if 0 < c then min x0 (c - 1) else x0) = x1
  generalize hx2 : (if l = 1 then min x1 (t - 1) else x1) = x2
  have b1 : 0 ≤ x1 ∧ x1 ≤ x0 ∧ (0 < c → x1 < c) := by rw [← hx1]; split <;> omega
  have b2 : 0 ≤ x2 ∧ x2 ≤ x1 ∧ (l = 1 → x2 < t) := by rw [← hx2]; split <;> omega
  have hw : ∃ w, wp t l c x2 = some w := by
    unfold wp
    rw [if_neg (by omega)]
    exact ⟨_, rfl⟩
  obtain ⟨w, hw⟩ := hw
  obtain ⟨w1, w2⟩ := wp_lt hw hl
  have rw_ := r_won t l c x2 ht (by omega) hl (by omega) b2.1 hc
  rw [hw] at rw_
  have hz' : ps.length + 1 ≤ sizeLine := Nat.le_trans hz (by decide)
  have i1 : didx (rl t l c) (.int 1) = some (.int l) := rfl
  have i2 : didx (rl t l c) (.int 2) = some (.int c) := rfl
  have i0 : didx (rl t l c) (.int 0) = some (.int t) := rfl
  have ok : ∀ p, (p = (w, x2) ∨ p = (x2, w)) → okP t l c p := fun p h => ⟨x2, w, b2.1, by omega, w1, by omega, hw, h⟩
  have add : ∀ d : D, dbin .add (.tup (ps.map prD)) (.tup [d]) = some (.tup (ps.map prD ++ [d])) := fun d => by
    show (if (ps.map prD).length + [d].length ≤ sizeLine then _ else _) = _
    rw [if_pos (by rw [List.length_map]; exact hz')]
  have fin : ∀ q1 q2 : D, ∀ s0 : D, ∀ dd, dcmp .eq s (.str "first") = some dd → (if dd = true then (D.tup [.int w, .int x2]) else .tup [.int x2, .int w]) = s0 → exs [F_law_won] rowB [some A, some (rl t l c), some B, some (.int most), some (.tup (ps.map prD)), some s, some (.int g), m7, m8] = some (.nx [some A, some (rl t l c), some B, some (.int most), some (.tup (ps.map prD ++ [s0])), some s, some (.int g), some (.int x2), some (.int w)]) := fun q1 q2 s0 dd hd h0 => by
    by_cases h1 : 0 < c <;> by_cases h2 : l = 1
    · simp only [h1, h2, if_true] at hx1 hx2
      subst h2
      simp [rowB, c_law_random_row, hp, hx0, i0, i1, i2, h1, hx1, hx2, y_call, rw_, optD, hd, add]
      cases dd <;> simp [← h0, add]
    · simp only [h1, h2, if_true, if_false] at hx1 hx2
      simp [rowB, c_law_random_row, hp, hx0, i0, i1, i2, h1, h2, hx1, hx2, y_call, rw_, optD, hd, add]
      cases dd <;> simp [← h0, add]
    · simp only [h1, h2, if_true, if_false] at hx1 hx2
      subst h2
      simp [rowB, c_law_random_row, hp, hx0, i0, i1, i2, h1, hx1, hx2, y_call, rw_, optD, hd, add]
      cases dd <;> simp [← h0, add]
    · simp only [h1, h2, if_true, if_false] at hx1 hx2
      simp [rowB, c_law_random_row, hp, hx0, i0, i1, i2, h1, h2, hx1, hx2, y_call, rw_, optD, hd, add]
      cases dd <;> simp [← h0, add]
  rcases hs with rfl | rfl
  · refine ⟨(w, x2), some (.int x2), some (.int w), ok _ (.inl rfl), ?_⟩
    rw [fin .non .non _ true eq_ff rfl, List.map_append]
    rfl
  · refine ⟨(x2, w), some (.int x2), some (.int w), ok _ (.inr rfl), ?_⟩
    rw [fin .non .non _ false eq_sf rfl, List.map_append]
    rfl
theorem y_zip {Φ : List Fn} {env : En} (a b : CE) {xs ys : List D} (h1 : ev Φ a env = some (.lst xs)) (h2 : ev Φ b env = some (.lst ys)) : evI Φ (.zip a b) env = some (zipD xs ys) := by
  rw [evI, h1, h2]
theorem y_zipT {Φ : List Fn} {env : En} (a b : CE) {xs ys : List D} (h1 : ev Φ a env = some (.tup xs)) (h2 : ev Φ b env = some (.lst ys)) : evI Φ (.zip a b) env = some (zipD xs ys) := by
  rw [evI, h1, h2]
theorem r_row (t l c most : Int) (ds : List Int) (ws : List D) (hs : ∀ s ∈ ws, s = first ∨ s = second) (ht : 1 ≤ t) (ht2 : t ≤ 100) (hl : 1 ≤ l) (hl2 : l ≤ 100) (hc : 0 ≤ c) (hm : 0 ≤ most) (hm2 : most ≤ 800) (hz : ws.length ≤ 900) :
    ∃ ps : List (Int × Int), (∀ p ∈ ps, okP t l c p) ∧ ps.length = min ws.length ds.length ∧ F_law_random_row.run [.lst (ds.map .int), rl t l c, .lst ws, .int most] = some (.tup (ps.map prD)) := by
  obtain ⟨e', q1, ps, m5, m6, m7, m8, p1, p2, rfl⟩ : ∃ e', forL (forF [F_law_won] (.many [5, 6]) rowB) (zipD ws (ds.map .int)) [some (.lst (ds.map .int)), some (rl t l c), some (.lst ws), some (.int most), some (.tup []), none, none, none, none] = some (.nx e') ∧
      ∃ (ps : List (Int × Int)) (m5 m6 m7 m8 : Option D), ps.length = min ws.length ds.length ∧ (∀ p ∈ ps, okP t l c p) ∧ e' = [some (.lst (ds.map .int)), some (rl t l c), some (.lst ws), some (.int most), some (.tup (ps.map prD)), m5, m6, m7, m8] := by
    have hzl : (zipD ws (ds.map .int)).length = min ws.length ds.length := by rw [zipD_len, List.length_map]
    obtain ⟨e', q1, q2⟩ := forL_nx (f := forF [F_law_won] (.many [5, 6]) rowB) (fun i e => ∃ (ps : List (Int × Int)) (m5 m6 m7 m8 : Option D), ps.length = i ∧ (∀ p ∈ ps, okP t l c p) ∧ e = [some (.lst (ds.map .int)), some (rl t l c), some (.lst ws), some (.int most), some (.tup (ps.map prD)), m5, m6, m7, m8]) (zipD ws (ds.map .int)) _ 0
      ⟨[], none, none, none, none, rfl, fun p hp => (by cases hp), rfl⟩ (fun i e x hx hI => by
        obtain ⟨ps, m5, m6, m7, m8, h1, h2, rfl⟩ := hI
        obtain ⟨s, g, e1, e2, rfl⟩ := zipD_get _ _ _ _ hx
        rw [List.getElem?_map] at e2
        cases e3 : ds[i]? with
        | none => rw [e3] at e2; cases e2
        | some g' =>
          rw [e3] at e2
          cases e2
          have hi : i < ws.length := (List.getElem?_eq_some_iff.mp e1).1
          obtain ⟨p, m7', m8', z1, z2⟩ := row_step t l c most g' (.lst (ds.map .int)) (.lst ws) none m7 m8 s ps (hs s (List.mem_of_getElem? e1)) ht ht2 hl hl2 hc hm hm2 (by omega)
          refine ⟨_, z2, ps ++ [p], _, _, _, _, by simp [h1], fun q hq => ?_, rfl⟩
          rcases List.mem_append.mp hq with h | h
          · exact h2 q h
          · rw [List.mem_singleton.mp h]; exact z1)
    rw [Nat.zero_add, hzl] at q2
    exact ⟨e', q1, q2⟩
  refine ⟨ps, p2, p1, ?_⟩
  show runF _ c_law_random_row 9 _ = _
  rw [y_run, rowC]
  have hzp : evI [F_law_won] (.zip (.var 2) (.var 0)) [some (.lst (ds.map .int)), some (rl t l c), some (.lst ws), some (.int most), some (.tup []), none, none, none, none] = some (zipD ws (ds.map .int)) := y_zip _ _ rfl rfl
  simp [y_for, hzp, q1]
/-! ### == on rows -/
def plainR : D → Bool
  | .tup xs => (ints? xs).isSome
  | _ => false
theorem lay_rows : ∀ {ds : List D}, (∀ d ∈ ds, plainR d = true) → PyData.canLayAll0 (pyL ds) = true ∧ PyData.depthAll (pyL ds) ≤ 1
  | [], _ => ⟨rfl, by decide⟩
  | x :: r, h => by
    obtain ⟨q1, q2⟩ := lay_rows (ds := r) fun y hy => h y (List.mem_cons_of_mem _ hy)
    have hx := h x List.mem_cons_self
    cases x with
    | tup xs =>
      have hx : (ints? xs).isSome = true := hx
      cases e : ints? xs with
      | none => rw [e] at hx; cases hx
      | some is =>
        rw [ints_of e]
        refine ⟨?_, ?_⟩
        · show (PyData.canLayAll0 (pyL (is.map .int)) && PyData.canLayAll0 (pyL r)) = true
          rw [lay_ints, q1]; rfl
        · show max (PyData.depthAll (pyL (is.map .int)) + 1) (PyData.depthAll (pyL r)) ≤ 1
          rw [dep_ints]; omega
    | _ => cases hx
theorem eqI_refl : ∀ is : List Int, eqI is is = true
  | [] => rfl
  | x :: r => by unfold eqI; rw [decide_eq_true rfl]; exact eqI_refl r
theorem eqI_eq : ∀ {is js : List Int}, eqI is js = true → is = js
  | [], [], _ => rfl
  | [], _ :: _, h => by cases h
  | _ :: _, [], h => by cases h
  | x :: r, y :: s, h => by
    unfold eqI at h
    by_cases e : x = y
    · rw [decide_eq_true e] at h
      rw [e, eqI_eq h]
    · rw [decide_eq_false e] at h; cases h
theorem map_int_inj : ∀ {is js : List Int}, is.map D.int = js.map D.int → is = js
  | [], [], _ => rfl
  | [], _ :: _, h => by cases h
  | _ :: _, [], h => by cases h
  | x :: r, y :: s, h => by
    have h1 := (List.cons.inj h).1
    have h2 := map_int_inj (List.cons.inj h).2
    rw [D.int.inj h1, h2]
theorem eqv_rows : ∀ {ds es : List D}, (∀ d ∈ ds, plainR d = true) → (∀ d ∈ es, plainR d = true) → (PyData.eqvAll (pyL ds) (pyL es) = true ↔ ds = es)
  | [], [], _, _ => ⟨fun _ => rfl, fun _ => rfl⟩
  | [], _ :: _, _, _ => ⟨fun h => (by cases h), fun h => (by cases h)⟩
  | _ :: _, [], _, _ => ⟨fun h => (by cases h), fun h => (by cases h)⟩
  | x :: r, y :: s, h1, h2 => by
    have ih := eqv_rows (ds := r) (es := s) (fun z hz => h1 z (List.mem_cons_of_mem _ hz)) fun z hz => h2 z (List.mem_cons_of_mem _ hz)
    have hx := h1 x List.mem_cons_self
    have hy := h2 y List.mem_cons_self
    cases x with
    | tup xs =>
      cases y with
      | tup ys =>
        have hx : (ints? xs).isSome = true := hx
        have hy : (ints? ys).isSome = true := hy
        cases e : ints? xs with
        | none => rw [e] at hx; cases hx
        | some is =>
          cases e' : ints? ys with
          | none => rw [e'] at hy; cases hy
          | some js =>
            rw [ints_of e, ints_of e']
            show (PyData.eqvAll (pyL (is.map .int)) (pyL (js.map .int)) && PyData.eqvAll (pyL r) (pyL s)) = true ↔ _
            rw [eqv_ints, Bool.and_eq_true, ih]
            constructor
            · rintro ⟨z1, z2⟩; rw [eqI_eq z1, z2]
            · intro z
              have z1 : is.map D.int = js.map D.int := D.tup.inj (List.cons.inj z).1
              have z2 := (List.cons.inj z).2
              have z3 : is = js := map_int_inj z1
              exact ⟨by rw [z3]; exact eqI_refl _, z2⟩
      | _ => cases hy
    | _ => cases hx
theorem shaped_rowsT {ds : List D} (h : ∀ d ∈ ds, plainR d = true) : SeqAt.shaped (py (.tup ds)) = true := by
  obtain ⟨q1, q2⟩ := lay_rows h
  show (PyData.canLayAll0 (pyL ds) && decide (PyData.depthAll (pyL ds) + 1 ≤ 64)) = true
  rw [q1, decide_eq_true (show PyData.depthAll (pyL ds) + 1 ≤ 64 by omega)]; rfl
theorem shaped_rowsL {ds : List D} (h : ∀ d ∈ ds, plainR d = true) : SeqAt.shaped (py (.lst ds)) = true := shaped_rowsT h
theorem deq_rowsT {ds es : List D} (h1 : ∀ d ∈ ds, plainR d = true) (h2 : ∀ d ∈ es, plainR d = true) : ∃ k : Bool, deq (.tup ds) (.tup es) = some k ∧ (k = true ↔ ds = es) := by
  refine ⟨PyData.eqvAll (pyL ds) (pyL es), ?_, eqv_rows h1 h2⟩
  unfold deq
  rw [shaped_rowsT h1, shaped_rowsT h2]
  rfl
theorem deq_rowsL {ds es : List D} (h1 : ∀ d ∈ ds, plainR d = true) (h2 : ∀ d ∈ es, plainR d = true) : ∃ k : Bool, deq (.lst ds) (.lst es) = some k ∧ (k = true ↔ ds = es) := by
  refine ⟨PyData.eqvAll (pyL ds) (pyL es), ?_, eqv_rows h1 h2⟩
  unfold deq
  rw [shaped_rowsL h1, shaped_rowsL h2]
  rfl
theorem plain_pr (p : Int × Int) : plainR (prD p) = true := rfl
/-- x in a list of rows -/
theorem dmem_rows {is : List Int} {ds : List D} (h : ∀ d ∈ ds, plainR d = true) : ∃ k : Bool, dmem (.tup (is.map .int)) (.lst ds) = some k ∧ (k = true ↔ D.tup (is.map .int) ∈ ds) := by
  refine ⟨ds.any fun z => PyData.eqv (py z) (py (.tup (is.map .int))), ?_, ?_⟩
  · unfold dmem
    simp only [shaped_tup, shaped_rowsL h, Bool.and_self, if_true]
  · rw [List.any_eq_true]
    constructor
    · rintro ⟨z, hz, e⟩
      have hp := h z hz
      cases z with
      | tup xs =>
        have hp : (ints? xs).isSome = true := hp
        cases e' : ints? xs with
        | none => rw [e'] at hp; cases hp
        | some js =>
          rw [ints_of e'] at e hz
          have : PyData.eqvAll (pyL (js.map .int)) (pyL (is.map .int)) = true := e
          rw [eqv_ints] at this
          rw [← eqI_eq this]
          exact hz
      | _ => cases hp
    · intro hz
      refine ⟨_, hz, ?_⟩
      show PyData.eqvAll (pyL (is.map .int)) (pyL (is.map .int)) = true
      rw [eqv_ints]
      exact eqI_refl is
/-! ### loops that gather -/
theorem forL_acc {f : En → D → Option Out} {S : List D → En → Prop} (g : D → List D) (m : Nat) : ∀ (xs : List D) (acc : List D) (env : En), S acc env → acc.length + m * xs.length ≤ 100000 → (∀ x ∈ xs, ∀ acc env, acc.length + m ≤ 100000 → S acc env → ∃ env', f env x = some (.nx env') ∧ S (acc ++ g x) env') → (∀ x ∈ xs, (g x).length ≤ m) →
    ∃ env', forL f xs env = some (.nx env') ∧ S (acc ++ xs.flatMap g) env'
  | [], acc, env, h0, _, _, _ => ⟨env, rfl, by simpa using h0⟩
  | x :: r, acc, env, h0, hl, hs, hg => by
    rw [List.length_cons, Nat.mul_add, Nat.mul_one] at hl
    obtain ⟨e1, q1, q2⟩ := hs x List.mem_cons_self acc env (by omega) h0
    have gx := hg x List.mem_cons_self
    obtain ⟨e2, p1, p2⟩ := forL_acc g m r (acc ++ g x) e1 q2 (by rw [List.length_append]; omega) (fun y hy => hs y (List.mem_cons_of_mem _ hy)) fun y hy => hg y (List.mem_cons_of_mem _ hy)
    refine ⟨e2, ?_, by rw [List.flatMap_cons, ← List.append_assoc]; exact p2⟩
    unfold forL
    rw [q1]
    exact p1
theorem lcL_mapA {α : Type} {f : D → Option (Option D)} (e h : α → D) : ∀ {xs : List α}, (∀ x ∈ xs, f (e x) = some (some (h x))) → lcL f (xs.map e) = some (xs.map h)
  | [], _ => rfl
  | x :: r, hh => by
    rw [List.map_cons]
    unfold lcL
    rw [hh x List.mem_cons_self, lcL_mapA e h fun y hy => hh y (List.mem_cons_of_mem _ hy)]
    rfl
theorem lcL_filterA {α : Type} {f : D → Option (Option D)} (e h : α → D) (p : α → Bool) : ∀ {xs : List α}, (∀ x ∈ xs, f (e x) = some (if p x = true then some (h x) else none)) → lcL f (xs.map e) = some ((xs.filter p).map h)
  | [], _ => rfl
  | x :: r, hh => by
    rw [List.map_cons]
    unfold lcL
    rw [hh x List.mem_cons_self, lcL_filterA e h p fun y hy => hh y (List.mem_cons_of_mem _ hy)]
    cases e : p x with
    | true => rw [List.filter_cons_of_pos e]; rfl
    | false => rw [List.filter_cons_of_neg (by rw [e]; decide)]; rfl
theorem all_bls {α : Type} (q : α → Bool) (xs : List α) : dblt .all [.lst (xs.map fun x => .bl (q x))] = some (.bl (xs.all q)) := by
  have : bls? (xs.map fun x => .bl (q x)) = some (xs.map q) := by
    induction xs with
    | nil => rfl
    | cons x r ih => rw [List.map_cons]; unfold bls?; rw [ih]; rfl
  show (match bls? (xs.map fun x => .bl (q x)) with
    | some bs => some (D.bl (bs.all id))
    | none => none) = _
  rw [this]
  simp [List.all_map]
end Pv

/-! Pm5: what sets give; the table of sums. -/
namespace Pv
open PySem L2
def c_tables : CSs := (CSs.cons (CS.asg 3 (CE.lst (CEs.cons (CE.dsp false (CE.cint 0) (CE.tup (CEs.cons (CE.cint 0) (CEs.cons (CE.cint 0) .nil)))) .nil))) (CSs.cons (CS.for_ (Tg.one 4) (CIt.rng1 (CE.var 1)) (CSs.cons (CS.asg 5 (CE.dnil false)) (CSs.cons (CS.for_ (Tg.many [6, 7]) (CIt.items (CE.idx (CE.var 3) (CE.neg (CE.cint 1)))) (CSs.cons (CS.for_ (Tg.one 8) (CIt.rng1 (CE.bin (BOp.add) (CE.bin (BOp.sub) (CE.var 2) (CE.var 6)) (CE.cint 1))) (CSs.cons (CS.asg 9 (CE.call 0 (CEs.cons (CE.var 0) (CEs.cons (CE.var 8) .nil)))) (CSs.cons (CS.ife (CE.cmp (COp.isn) (CE.var 9) (CE.cnon)) (CSs.cons (CS.asgT [10, 11] (CE.mth (MF.get2) (CE.var 5) (CEs.cons (CE.bin (BOp.add) (CE.var 6) (CE.var 8)) (CEs.cons (CE.tup (CEs.cons (CE.bin (BOp.add) (CE.idx (CE.var 7) (CE.cint 0)) (CE.var 9)) (CEs.cons (CE.bin (BOp.add) (CE.idx (CE.var 7) (CE.cint 1)) (CE.var 9)) .nil))) .nil)))) (CSs.cons (CS.setix 5 (CE.bin (BOp.add) (CE.var 6) (CE.var 8)) (CE.tup (CEs.cons (CE.blt (BF.min2) (CEs.cons (CE.var 10) (CEs.cons (CE.bin (BOp.add) (CE.idx (CE.var 7) (CE.cint 0)) (CE.var 9)) .nil))) (CEs.cons (CE.blt (BF.max2) (CEs.cons (CE.var 11) (CEs.cons (CE.bin (BOp.add) (CE.idx (CE.var 7) (CE.cint 1)) (CE.var 9)) .nil))) .nil)))) .nil)) .nil) .nil))) .nil)) (CSs.cons (CS.app 3 (CE.var 5)) .nil)))) (CSs.cons (CS.ret (CE.var 3)) .nil)))
def F_tables : Fn := ⟨3, runF [F_winner_points] c_tables 12, true⟩
def c_winner_range : CSs := (CSs.cons (CS.ret (CE.mth (MF.get1) (CE.idx (CE.call 0 (CEs.cons (CE.var 0) (CEs.cons (CE.var 1) (CEs.cons (CE.var 2) .nil)))) (CE.neg (CE.cint 1))) (CEs.cons (CE.var 2) .nil))) .nil)
def F_winner_range : Fn := ⟨3, runF [F_tables] c_winner_range 3, false⟩
def c_split : CSs := (CSs.cons (CS.asg 4 (CE.call 0 (CEs.cons (CE.var 0) (CEs.cons (CE.var 1) (CEs.cons (CE.var 2) .nil))))) (CSs.cons (CS.asg 5 (CE.tup .nil)) (CSs.cons (CS.for_ (Tg.one 6) (CIt.rngd (CE.var 1) (CE.cint 0)) (CSs.cons (CS.asg 7 (CE.cnon)) (CSs.cons (CS.for_ (Tg.one 8) (CIt.rng1 (CE.bin (BOp.add) (CE.var 2) (CE.cint 1))) (CSs.cons (CS.asg 9 (CE.call 1 (CEs.cons (CE.var 0) (CEs.cons (CE.var 8) .nil)))) (CSs.cons (CS.asg 10 (CE.mth (MF.get1) (CE.idx (CE.var 4) (CE.bin (BOp.sub) (CE.var 6) (CE.cint 1))) (CEs.cons (CE.bin (BOp.sub) (CE.var 2) (CE.var 8)) .nil))) (CSs.cons (CS.ife (CE.andd (CE.cmp (COp.isn) (CE.var 9) (CE.cnon)) (CE.andd (CE.cmp (COp.isn) (CE.var 10) (CE.cnon)) (CE.chain (COp.le) (COp.le) (CE.idx (CE.var 10) (CE.cint 0)) (CE.bin (BOp.sub) (CE.var 3) (CE.var 9)) (CE.idx (CE.var 10) (CE.cint 1))))) (CSs.cons (CS.asg 7 (CE.var 8)) .nil) .nil) .nil)))) (CSs.cons (CS.ife (CE.cmp (COp.is) (CE.var 7) (CE.cnon)) (CSs.cons (CS.ret (CE.cnon)) .nil) .nil) (CSs.cons (CS.asg 5 (CE.bin (BOp.add) (CE.var 5) (CE.tup (CEs.cons (CE.var 7) .nil)))) (CSs.cons (CS.aug 2 (BOp.sub) (CE.var 7)) (CSs.cons (CS.aug 3 (BOp.sub) (CE.call 1 (CEs.cons (CE.var 0) (CEs.cons (CE.var 7) .nil)))) .nil))))))) (CSs.cons (CS.ret (CE.ite (CE.andd (CE.cmp (COp.eq) (CE.var 2) (CE.cint 0)) (CE.cmp (COp.eq) (CE.var 3) (CE.cint 0))) (CE.var 5) (CE.cnon))) .nil))))
def F_split : Fn := ⟨4, runF [F_tables, F_winner_points] c_split 11, false⟩
/-! ### what sets give: S t l c k s w: k sets, the losers' points s, the winners' points w -/
theorem wp_iff {t l c x p : Int} : wp t l c x = some p ↔ ¬ ((0 < c ∧ c ≤ x) ∨ (l = 1 ∧ t ≤ x)) ∧ p = if 0 < c then min (max t (x + l)) c else max t (x + l) := by
  unfold wp
  split
  · rename_i h
    constructor
    · intro q; cases q
    · intro q; exact absurd h q.1
  · rename_i h
    constructor
    · intro q; cases q; exact ⟨h, rfl⟩
    · intro q; rw [q.2]
theorem wp_dec {t l c x p : Int} (h : wp t l c x = some p) : ∃ q, wp t l c (x - 1) = some q ∧ (q = p ∨ q = p - 1) := by
  obtain ⟨h1, h2⟩ := wp_iff.mp h
  refine ⟨_, wp_iff.mpr ⟨by omega, rfl⟩, ?_⟩
  split at h2 <;> rename_i hc
  · rw [if_pos hc]; omega
  · rw [if_neg hc]; omega
theorem wp_inc {t l c x y p q : Int} (h : wp t l c x = some p) (h' : wp t l c y = some q) (hlt : x < y) : ∃ r, wp t l c (x + 1) = some r ∧ (r = p ∨ r = p + 1) := by
  obtain ⟨h1, h2⟩ := wp_iff.mp h
  obtain ⟨h3, h4⟩ := wp_iff.mp h'
  refine ⟨_, wp_iff.mpr ⟨by omega, rfl⟩, ?_⟩
  split at h2 <;> rename_i hc
  · rw [if_pos hc]; omega
  · rw [if_neg hc]; omega
def S (t l c : Int) : Nat → Int → Int → Prop
  | 0, s, w => s = 0 ∧ w = 0
  | k + 1, s, w => ∃ x p, 0 ≤ x ∧ wp t l c x = some p ∧ S t l c k (s - x) (w - p)
section
variable {t l c : Int}
theorem S_nn : ∀ {k : Nat} {s w : Int}, S t l c k s w → 0 ≤ s
  | 0, s, w, h => by rw [h.1]; exact Int.le_refl _
  | k + 1, s, w, ⟨x, p, h1, _, h3⟩ => by have := S_nn h3; omega
theorem S_add {k : Nat} {s w x p : Int} (h : S t l c k s w) (hx : 0 ≤ x) (hp : wp t l c x = some p) : S t l c (k + 1) (s + x) (w + p) :=
  ⟨x, p, hx, hp, by rw [Int.add_sub_cancel, Int.add_sub_cancel]; exact h⟩
theorem S_dec : ∀ {k : Nat} {s w : Int}, S t l c k s w → 1 ≤ s → ∃ w', (w' = w ∨ w' = w - 1) ∧ S t l c k (s - 1) w'
  | 0, s, w, h, h1 => by have := h.1; omega
  | k + 1, s, w, ⟨x, p, h1, h2, h3⟩, hs => by
    by_cases hx : 1 ≤ x
    · obtain ⟨q, q1, q2⟩ := wp_dec h2
      refine ⟨w - p + q, by omega, x - 1, q, by omega, q1, ?_⟩
      rw [show s - 1 - (x - 1) = s - x by omega, show w - p + q - q = w - p by omega]
      exact h3
    · obtain ⟨w', e1, e2⟩ := S_dec h3 (by omega)
      refine ⟨w' + p, by omega, x, p, h1, h2, ?_⟩
      rw [show s - 1 - x = s - x - 1 by omega, show w' + p - p = w' by omega]
      exact e2
theorem S_gap : ∀ {k : Nat} {s w w' : Int}, S t l c k s w → S t l c k s w' → ∀ v, w ≤ v → v ≤ w' → S t l c k s v
  | 0, s, w, w', h, h', v, h1, h2 => by have := h.2; have := h'.2; exact ⟨h.1, by omega⟩
  | k + 1, s, w, w', ⟨x, p, a1, a2, a3⟩, ⟨y, q, b1, b2, b3⟩, v, h1, h2 => by
    have key : ∀ (n : Nat) (x p y q w w' : Int), (x - y).natAbs = n → 0 ≤ x → wp t l c x = some p → S t l c k (s - x) (w - p) → 0 ≤ y → wp t l c y = some q → S t l c k (s - y) (w' - q) → w ≤ v → v ≤ w' → S t l c (k + 1) s v := by
      intro n
      induction n with
      | zero =>
        intro x p y q w w' hn x0 hx hs y0 hy hs' g1 g2
        have e : x = y := by omega
        subst e
        rw [hx] at hy
        cases hy
        exact ⟨x, p, x0, hx, S_gap hs hs' (v - p) (by omega) (by omega)⟩
      | succ n ih =>
        intro x p y q w w' hn x0 hx hs y0 hy hs' g1 g2
        have nn := S_nn hs
        have nn' := S_nn hs'
        rcases Int.lt_or_gt_of_ne (show x ≠ y by omega) with hlt | hlt
        · by_cases e : v = w
          · subst e; exact ⟨x, p, x0, hx, hs⟩
          · obtain ⟨r, r1, r2⟩ := wp_inc hx hy hlt
            obtain ⟨u, u1, u2⟩ := S_dec hs (by omega)
            refine ih (x + 1) r y q (u + r) w' (by omega) (by omega) r1 ?_ y0 hy hs' (by omega) g2
            rw [show s - (x + 1) = s - x - 1 by omega, show u + r - r = u by omega]
            exact u2
        · by_cases e : v = w'
          · subst e; exact ⟨y, q, y0, hy, hs'⟩
          · obtain ⟨r, r1, r2⟩ := wp_inc hy hx hlt
            obtain ⟨u, u1, u2⟩ := S_dec hs' (by omega)
            refine ih x p (y + 1) r w (u + r) (by omega) x0 hx hs (by omega) r1 ?_ g1 (by omega)
            rw [show s - (y + 1) = s - y - 1 by omega, show u + r - r = u by omega]
            exact u2
    exact key _ x p y q w w' rfl a1 a2 a3 b1 b2 b3 h1 h2
end
/-! ### dicts of ints -/
abbrev Tb := List (Int × Int × Int)
def tget : Tb → Int → Option (Int × Int)
  | [], _ => none
  | (k, v) :: r, x => if k = x then some v else tget r x
def tput : Tb → Int → Int × Int → Tb
  | [], x, v => [(x, v)]
  | (k, u) :: r, x, v => if k = x then (k, v) :: r else (k, u) :: tput r x v
theorem tget_put : ∀ (d : Tb) (x y : Int) (v : Int × Int), tget (tput d x v) y = if x = y then some v else tget d y
  | [], x, y, v => rfl
  | (k, u) :: r, x, y, v => by
    unfold tput
    by_cases h : k = x
    · rw [if_pos h]
      unfold tget
      subst h
      by_cases h2 : k = y
      · rw [if_pos h2, if_pos h2]
      · rw [if_neg h2, if_neg h2, if_neg h2]
    · rw [if_neg h]
      unfold tget
      by_cases h2 : k = y
      · subst h2
        rw [if_pos rfl, if_pos rfl, if_neg (fun z => h z.symm)]
      · rw [if_neg h2, if_neg h2, tget_put r x y v]
theorem tput_len : ∀ (d : Tb) (x : Int) (v : Int × Int), (tput d x v).length ≤ d.length + 1
  | [], x, v => Nat.le_refl _
  | (k, u) :: r, x, v => by
    unfold tput
    split
    · simp
    · have := tput_len r x v
      simp only [List.length_cons]; omega
theorem tput_mem : ∀ {d : Tb} {x y : Int} {v : Int × Int}, y ∈ (tput d x v).map (·.1) ↔ y = x ∨ y ∈ d.map (·.1)
  | [], x, y, v => by simp [tput]
  | (k, u) :: r, x, y, v => by
    unfold tput
    split
    · rename_i h; subst h; simp
    · simp only [List.map_cons, List.mem_cons, tput_mem]
      constructor
      · rintro (h | h | h)
        · exact .inr (.inl h)
        · exact .inl h
        · exact .inr (.inr h)
      · rintro (h | h | h)
        · exact .inr (.inl h)
        · exact .inl h
        · exact .inr (.inr h)
theorem tput_nd : ∀ {d : Tb} {x : Int} {v : Int × Int}, (d.map (·.1)).Nodup → ((tput d x v).map (·.1)).Nodup
  | [], x, v, _ => by simp [tput]
  | (k, u) :: r, x, v, h => by
    rw [List.map_cons, List.nodup_cons] at h
    unfold tput
    split
    · rw [List.map_cons, List.nodup_cons]; exact h
    · rename_i hk
      rw [List.map_cons, List.nodup_cons]
      refine ⟨fun z => ?_, tput_nd h.2⟩
      rcases tput_mem.mp z with z | z
      · exact hk z
      · exact h.1 z
theorem tget_mem : ∀ {d : Tb} {x : Int} {v : Int × Int}, tget d x = some v → (x, v) ∈ d
  | (k, u) :: r, x, v, h => by
    unfold tget at h
    split at h
    · rename_i e; cases h; subst e; exact List.mem_cons_self
    · exact List.mem_cons_of_mem _ (tget_mem h)
theorem mem_tget : ∀ {d : Tb} {x : Int} {v : Int × Int}, (d.map (·.1)).Nodup → (x, v) ∈ d → tget d x = some v
  | (k, u) :: r, x, v, nd, h => by
    rw [List.map_cons, List.nodup_cons] at nd
    unfold tget
    rcases List.mem_cons.mp h with h | h
    · cases h; rw [if_pos rfl]
    · rw [if_neg fun z => nd.1 (by subst z; exact List.mem_map.mpr ⟨_, h, rfl⟩)]
      exact mem_tget nd.2 h
/-- d holds at s the least first and the greatest second of what A tells -/
structure Mm (d : Tb) (A : Int → Int → Int → Prop) : Prop where
  nd : (d.map (·.1)).Nodup
  at_ : ∀ s lo hi, tget d s = some (lo, hi) → (∃ b, A s lo b) ∧ (∃ a, A s a hi) ∧ ∀ a b, A s a b → lo ≤ a ∧ b ≤ hi
  has : ∀ s a b, A s a b → tget d s ≠ none
theorem Mm.nil : Mm [] fun _ _ _ => False := ⟨by simp, fun s lo hi h => (by cases h), fun s a b h => h.elim⟩
theorem Mm.congr {d : Tb} {A B : Int → Int → Int → Prop} (h : Mm d A) (e : ∀ s a b, A s a b ↔ B s a b) : Mm d B :=
  ⟨h.nd, fun s lo hi q => by
    obtain ⟨⟨b, h1⟩, ⟨a, h2⟩, h3⟩ := h.at_ s lo hi q
    exact ⟨⟨b, (e _ _ _).mp h1⟩, ⟨a, (e _ _ _).mp h2⟩, fun a b z => h3 a b ((e _ _ _).mpr z)⟩, fun s a b z => h.has s a b ((e _ _ _).mpr z)⟩
/-- one more -/
def tmore (d : Tb) (s a b : Int) : Tb := tput d s (min ((tget d s).getD (a, b)).1 a, max ((tget d s).getD (a, b)).2 b)
theorem Mm.more {d : Tb} {A : Int → Int → Int → Prop} (h : Mm d A) (s a b : Int) : Mm (tmore d s a b) fun s' a' b' => A s' a' b' ∨ (s' = s ∧ a' = a ∧ b' = b) := by
  refine ⟨tput_nd h.nd, fun s' lo hi q => ?_, fun s' a' b' q => ?_⟩
  · unfold tmore at q
    rw [tget_put] at q
    by_cases e : s = s'
    · subst e
      rw [if_pos rfl] at q
      cases e2 : tget d s with
      | none =>
        rw [e2] at q
        simp only [Option.getD_none, Option.some.injEq, Prod.mk.injEq] at q
        obtain ⟨q1, q2⟩ := q
        have : lo = a := by omega
        have : hi = b := by omega
        subst_vars
        refine ⟨⟨_, .inr ⟨rfl, rfl, rfl⟩⟩, ⟨_, .inr ⟨rfl, rfl, rfl⟩⟩, fun a' b' z => ?_⟩
        rcases z with z | ⟨_, rfl, rfl⟩
        · exact absurd e2 (h.has _ _ _ z)
        · omega
      | some v =>
        obtain ⟨lo0, hi0⟩ := v
        rw [e2] at q
        simp only [Option.getD_some, Option.some.injEq, Prod.mk.injEq] at q
        obtain ⟨q1, q2⟩ := q
        obtain ⟨⟨b1, h1⟩, ⟨a1, h2⟩, h3⟩ := h.at_ s lo0 hi0 e2
        refine ⟨?_, ?_, fun a' b' z => ?_⟩
        · by_cases hh : lo0 ≤ a
          · exact ⟨b1, .inl (by rw [show lo = lo0 by omega]; exact h1)⟩
          · exact ⟨b, .inr ⟨rfl, by omega, rfl⟩⟩
        · by_cases hh : b ≤ hi0
          · exact ⟨a1, .inl (by rw [show hi = hi0 by omega]; exact h2)⟩
          · exact ⟨a, .inr ⟨rfl, rfl, by omega⟩⟩
        · rcases z with z | ⟨_, rfl, rfl⟩
          · have := h3 a' b' z
            omega
          · omega
    · rw [if_neg e] at q
      obtain ⟨⟨b1, h1⟩, ⟨a1, h2⟩, h3⟩ := h.at_ s' lo hi q
      refine ⟨⟨b1, .inl h1⟩, ⟨a1, .inl h2⟩, fun a' b' z => ?_⟩
      rcases z with z | ⟨rfl, _⟩
      · exact h3 a' b' z
      · exact absurd rfl e
  · unfold tmore
    rw [tget_put]
    by_cases e : s = s'
    · rw [if_pos e]; exact fun z => nomatch z
    · rw [if_neg e]
      rcases q with q | ⟨rfl, _⟩
      · exact h.has _ _ _ q
      · exact absurd rfl e
/-- the table of k sets -/
structure Tab (t l c : Int) (k : Nat) (tot : Int) (d : Tb) : Prop where
  nd : (d.map (·.1)).Nodup
  at_ : ∀ s lo hi, tget d s = some (lo, hi) → 0 ≤ s ∧ s ≤ tot ∧ S t l c k s lo ∧ S t l c k s hi ∧ ∀ w, S t l c k s w → lo ≤ w ∧ w ≤ hi
  has : ∀ s w, S t l c k s w → s ≤ tot → tget d s ≠ none
theorem Tab.zero {t l c tot : Int} (h : 0 ≤ tot) : Tab t l c 0 tot [(0, 0, 0)] := by
  refine ⟨by simp, fun s lo hi q => ?_, fun s w q _ => ?_⟩
  · unfold tget at q
    split at q
    · rename_i e; cases q; subst e
      exact ⟨Int.le_refl _, h, ⟨rfl, rfl⟩, ⟨rfl, rfl⟩, fun w z => by have := z.2; omega⟩
    · cases q
  · rw [q.1]; exact fun z => nomatch z
theorem Tab.succ {t l c tot : Int} {k : Nat} {d d' : Tb} (T : Tab t l c k tot d) (m : Mm d' fun s a b => ∃ bf lo hi x p, (bf, lo, hi) ∈ d ∧ 0 ≤ x ∧ x ≤ tot - bf ∧ wp t l c x = some p ∧ s = bf + x ∧ a = lo + p ∧ b = hi + p) : Tab t l c (k + 1) tot d' := by
  refine ⟨m.nd, fun s lo hi q => ?_, fun s w q hs => ?_⟩
  · obtain ⟨⟨b, bf, lo1, hi1, x, p, a1, a2, a3, a4, a5, a6, a7⟩, ⟨a, bf', lo2, hi2, x', p', b1, b2, b3, b4, b5, b6, b7⟩, h3⟩ := m.at_ s lo hi q
    obtain ⟨c1, c2, c3, c4, c5⟩ := T.at_ _ _ _ (mem_tget T.nd a1)
    obtain ⟨d1, d2, d3, d4, d5⟩ := T.at_ _ _ _ (mem_tget T.nd b1)
    refine ⟨by omega, by omega, ?_, ?_, fun w hw => ?_⟩
    · rw [a5, a6]; exact S_add c3 a2 a4
    · rw [b5, b7]; exact S_add d4 b2 b4
    · obtain ⟨y, r, y0, yr, ys⟩ := hw
      have yn := S_nn ys
      cases e : tget d (s - y) with
      | none => exact absurd e (T.has _ _ ys (by omega))
      | some v =>
        obtain ⟨lo3, hi3⟩ := v
        obtain ⟨e1, e2, e3, e4, e5⟩ := T.at_ _ _ _ e
        have := e5 _ ys
        have := h3 (lo3 + r) (hi3 + r) ⟨s - y, lo3, hi3, y, r, tget_mem e, y0, by omega, yr, by omega, rfl, rfl⟩
        omega
  · obtain ⟨y, r, y0, yr, ys⟩ := q
    have yn := S_nn ys
    cases e : tget d (s - y) with
    | none => exact absurd e (T.has _ _ ys (by omega))
    | some v =>
      obtain ⟨lo3, hi3⟩ := v
      exact m.has s _ _ ⟨s - y, lo3, hi3, y, r, tget_mem e, y0, by omega, yr, by omega, rfl, rfl⟩
/-! ### equations that lacked -/
theorem y_setix {Φ : List Fn} {env : En} (i : Nat) (ix e : CE) : ex Φ (.setix i ix e) env = (ev Φ e env).bind fun v => (env.getD i none).bind fun d => (ev Φ ix env).bind fun y => sO env i (dset d y v) := by
  rw [ex]
  cases ev Φ e env with
  | none => rfl
  | some v =>
    cases env.getD i none with
    | none => rfl
    | some d =>
      cases ev Φ ix env with
      | none => rfl
      | some y => simp only [Option.bind_some]; cases dset d y v <;> rfl
theorem y_par3 {Φ : List Fn} {env : En} (i j k : Nat) (a b c : CE) : ex Φ (.par3 i j k a b c) env = (ev Φ a env).bind fun x => (ev Φ b env).bind fun y => (ev Φ c env).bind fun z => some (.nx (((env.set i (some x)).set j (some y)).set k (some z))) := by
  rw [ex]
  cases ev Φ a env with
  | none => rfl
  | some x =>
    cases ev Φ b env with
    | none => rfl
    | some y => simp only [Option.bind_some]; cases ev Φ c env <;> rfl
def augO (op : BOp) : D → D → Option D
  | .int x, .int y => (augF op x y).map .int
  | _, _ => none
@[simp] theorem augO_sub (x y : Int) : augO .sub (.int x) (.int y) = some (.int (x - y)) := id rfl
@[simp] theorem augO_add (x y : Int) : augO .add (.int x) (.int y) = some (.int (x + y)) := id rfl
theorem y_aug {Φ : List Fn} {env : En} (i : Nat) (op : BOp) (e : CE) : ex Φ (.aug i op e) env = (env.getD i none).bind fun d => (ev Φ e env).bind fun v => sO env i (augO op d v) := by
  rw [ex]
  cases env.getD i none with
  | none => rfl
  | some d =>
    cases ev Φ e env with
    | none => cases d <;> rfl
    | some v =>
      cases d with
      | int x =>
        cases v with
        | int y =>
          simp only [Option.bind_some, augO]
          cases augF op x y <;> rfl
        | _ => rfl
      | _ => rfl
theorem y_items {Φ : List Fn} {env : En} (a : CE) : evI Φ (.items a) env = (ev Φ a env).bind itemsD := by
  rw [evI]
  cases ev Φ a env <;> rfl
theorem y_keys {Φ : List Fn} {env : En} (a : CE) : evI Φ (.keys a) env = (ev Φ a env).bind keysD := by
  rw [evI]
  cases ev Φ a env <;> rfl
def rgd : D → D → Option (List D)
  | .int i, .int j => if smallR i && smallR j then some (rngD i (-1) (i - j).toNat) else none
  | _, _ => none
theorem y_rngd {Φ : List Fn} {env : En} (a b : CE) : evI Φ (.rngd a b) env = (ev Φ a env).bind fun x => (ev Φ b env).bind (rgd x) := by
  rw [evI]
  cases ev Φ a env with
  | none => rfl
  | some x =>
    cases x with
    | int i =>
      cases ev Φ b env with
      | none => rfl
      | some y => cases y <;> rfl
    | _ => cases ev Φ b env <;> rfl
theorem y_dsp {Φ : List Fn} {env : En} (t : Bool) (k v : CE) : ev Φ (.dsp t k v) env = (ev Φ k env).bind fun x => (ev Φ v env).bind fun y => dput (if t then .dt [] else .dk []) x y := by
  rw [ev]
  cases ev Φ k env <;> first | rfl | (cases ev Φ v env <;> rfl)
theorem rgd_mk {i j : Int} (h1 : -(2 ^ 62) ≤ i) (h2 : i < 2 ^ 62) (h3 : -(2 ^ 62) ≤ j) (h4 : j < 2 ^ 62) : rgd (.int i) (.int j) = some (rngD i (-1) (i - j).toNat) := by
  show (if (smallR i && smallR j) = true then _ else _) = _
  rw [smallR_mk h1 h2, smallR_mk h3 h4]
  rfl
@[simp] theorem isn_i (a : Int) : dcmp .isn (.int a) .non = some true := id rfl
@[simp] theorem isn_n : dcmp .isn .non .non = some false := id rfl
@[simp] theorem is_i (a : Int) : dcmp .is (.int a) .non = some false := id rfl
@[simp] theorem is_n : dcmp .is .non .non = some true := id rfl
@[simp] theorem isn_t (a : List D) : dcmp .isn (.tup a) .non = some true := id rfl
@[simp] theorem is_t (a : List D) : dcmp .is (.tup a) .non = some false := id rfl
@[simp] theorem nInt_i (i : Int) : nInt (.int i) = some (.int (-i)) := id rfl
/-! ### tables as data -/
def tbE (e : Int × Int × Int) : Key × D := (Sum.inl e.1, pr e.2.1 e.2.2)
def tbD (d : Tb) : D := .dk (d.map tbE)
theorem getA_tb : ∀ (d : Tb) (x : Int), getA (d.map tbE) (Sum.inl x : Key) = (tget d x).map fun v => pr v.1 v.2
  | [], x => rfl
  | (k, v) :: r, x => by
    show (if (Sum.inl k : Key) = Sum.inl x then _ else _) = _
    unfold tget
    by_cases h : k = x
    · subst h; rw [if_pos rfl, if_pos rfl]; rfl
    · rw [if_neg (fun z => h (Sum.inl.inj z)), if_neg h]
      exact getA_tb r x
theorem putA_same : ∀ (r : Tb) (x : Int) (v : Int × Int), x ∉ r.map (·.1) → (r.map tbE).map (fun kv => if kv.1 = (Sum.inl x : Key) then (kv.1, pr v.1 v.2) else kv) = r.map tbE
  | [], _, _, _ => rfl
  | (k, u) :: r, x, v, h => by
    rw [List.map_cons, List.mem_cons, not_or] at h
    rw [List.map_cons, List.map_cons, putA_same r x v h.2]
    congr 1
    exact if_neg fun z => h.1 (Sum.inl.inj z).symm
theorem putA_no : ∀ (r : Tb) (x : Int) (v : Int × Int), x ∉ r.map (·.1) → tput r x v = r ++ [(x, v)]
  | [], _, _, _ => rfl
  | (k, u) :: r, x, v, h => by
    rw [List.map_cons, List.mem_cons, not_or] at h
    unfold tput
    rw [if_neg (fun z => h.1 z.symm), putA_no r x v h.2]
    rfl
theorem any_tb {r : Tb} {x : Int} : ((r.map tbE).any fun kv => decide (kv.1 = (Sum.inl x : Key))) = true ↔ x ∈ r.map (·.1) := by
  rw [List.any_eq_true]
  constructor
  · rintro ⟨y, hy, e⟩
    obtain ⟨z, hz, rfl⟩ := List.mem_map.mp hy
    have := Sum.inl.inj (of_decide_eq_true e)
    exact List.mem_map.mpr ⟨z, hz, this⟩
  · intro h
    obtain ⟨z, hz, rfl⟩ := List.mem_map.mp h
    exact ⟨_, List.mem_map.mpr ⟨z, hz, rfl⟩, decide_eq_true rfl⟩
theorem tput_map : ∀ (d : Tb) (x : Int) (v : Int × Int), (d.map (·.1)).Nodup → x ∈ d.map (·.1) → (d.map tbE).map (fun kv => if kv.1 = (Sum.inl x : Key) then (kv.1, pr v.1 v.2) else kv) = (tput d x v).map tbE
  | (k, u) :: r, x, v, nd, hm => by
    rw [List.map_cons, List.nodup_cons] at nd
    unfold tput
    by_cases h : k = x
    · subst h
      rw [if_pos rfl, List.map_cons, List.map_cons, List.map_cons, putA_same r k v nd.1]
      congr 1
      exact if_pos rfl
    · rw [if_neg h, List.map_cons, List.map_cons, List.map_cons, tput_map r x v nd.2 (by
        rcases List.mem_cons.mp (by simpa using hm : x ∈ k :: r.map (·.1)) with z | z
        · exact absurd z.symm h
        · exact z)]
      congr 1
      exact if_neg fun z => h (Sum.inl.inj z)
theorem putA_tb {d : Tb} {x : Int} {v : Int × Int} (nd : (d.map (·.1)).Nodup) : putA (d.map tbE) (Sum.inl x : Key) (pr v.1 v.2) = (tput d x v).map tbE := by
  unfold putA
  by_cases h : x ∈ d.map (·.1)
  · rw [if_pos (any_tb.mpr h), tput_map d x v nd h]
  · rw [if_neg (fun z => h (any_tb.mp z)), putA_no d x v h, List.map_append]
    rfl
theorem get2_tb (d : Tb) (x : Int) (z : D) : dmth .get2 (tbD d) [.int x, z] = some (match tget d x with | some v => pr v.1 v.2 | none => z) := by
  show (match some (getA (d.map tbE) (Sum.inl x : Key)) with
    | some (some v) => some v
    | some none => some z
    | none => none) = _
  rw [getA_tb]
  cases tget d x <;> rfl
theorem get1_tb (d : Tb) (x : Int) : dmth .get1 (tbD d) [.int x] = some (match tget d x with | some v => pr v.1 v.2 | none => .non) := by
  show (match some (getA (d.map tbE) (Sum.inl x : Key)) with
    | some (some v) => some v
    | some none => some .non
    | none => none) = _
  rw [getA_tb]
  cases tget d x <;> rfl
theorem set_tb {d : Tb} {x a b : Int} (nd : (d.map (·.1)).Nodup) (hl : d.length < 100000) : dset (tbD d) (.int x) (pr a b) = some (tbD (tput d x (a, b))) := by
  show (if (d.map tbE).length < sizeLine then some (D.dk (putA (d.map tbE) (Sum.inl x : Key) (pr a b))) else none) = _
  rw [if_pos (by rw [List.length_map]; exact Nat.lt_of_lt_of_le hl (by decide)), putA_tb (v := (a, b)) nd]
  rfl
theorem nodup_len : ∀ (n : Nat) (l : List Int), l.Nodup → (∀ x ∈ l, 0 ≤ x ∧ x < n) → l.length ≤ n
  | 0, [], _, _ => Nat.le_refl _
  | 0, x :: r, _, h => by have := h x List.mem_cons_self; omega
  | n + 1, l, nd, h => by
    by_cases hm : (n : Int) ∈ l
    · have := nodup_len n (l.erase (n : Int)) (nd.erase _) fun x hx => by
        obtain ⟨h1, h2⟩ := (nd.mem_erase_iff).mp hx
        have := h x h2
        omega
      rw [List.length_erase_of_mem hm] at this
      omega
    · have := nodup_len n l nd fun x hx => by
        have := h x hx
        have : x ≠ n := fun z => hm (z ▸ hx)
        omega
      omega
theorem Mm.len {d : Tb} {A : Int → Int → Int → Prop} (h : Mm d A) {n : Nat} (r : ∀ s a b, A s a b → 0 ≤ s ∧ s < n) : d.length ≤ n := by
  have := nodup_len n (d.map (·.1)) h.nd fun x hx => by
    obtain ⟨⟨k, lo, hi⟩, hm, rfl⟩ := List.mem_map.mp hx
    obtain ⟨⟨b, q⟩, _⟩ := h.at_ _ _ _ (mem_tget h.nd hm)
    exact r _ _ _ q
  rwa [List.length_map] at this
/-! ### tables -/
def tbB3 : CSs := match c_tables with
  | .cons _ (.cons (.for_ _ _ (.cons _ (.cons (.for_ _ _ (.cons (.for_ _ _ b) _)) _))) _) => b
  | _ => .nil
def tbI3 : CIt := .rng1 (.bin .add (.bin .sub (.var 2) (.var 6)) (.cint 1))
def tbB2 : CSs := .cons (.for_ (.one 8) tbI3 tbB3) .nil
def tbB1 : CSs := .cons (.asg 5 (.dnil false)) (.cons (.for_ (.many [6, 7]) (.items (.idx (.var 3) (.neg (.cint 1)))) tbB2) (.cons (.app 3 (.var 5)) .nil))
theorem tbC : c_tables = .cons (.asg 3 (.lst (.cons (.dsp false (.cint 0) (.tup (.cons (.cint 0) (.cons (.cint 0) .nil)))) .nil))) (.cons (.for_ (.one 4) (.rng1 (.var 1)) tbB1) (.cons (.ret (.var 3)) .nil)) := rfl
theorem tb_in (t l c bf lo hi x : Int) (d : Tb) (n T rows turn m9 m10 m11 : Option D) (nd : (d.map (·.1)).Nodup) (hl : d.length < 100000) :
    ∃ m9' m10' m11', exs [F_winner_points] tbB3 [some (rl t l c), n, T, rows, turn, some (tbD d), some (.int bf), some (pr lo hi), some (.int x), m9, m10, m11] =
      some (.nx [some (rl t l c), n, T, rows, turn, some (tbD (match wp t l c x with | none => d | some p => tmore d (bf + x) (lo + p) (hi + p))), some (.int bf), some (pr lo hi), some (.int x), m9', m10', m11']) := by
  have hr := r_wp t l c x
  cases e : wp t l c x with
  | none =>
    rw [e] at hr
    exact ⟨some .non, m10, m11, by simp [tbB3, c_tables, y_call, hr, optD]⟩
  | some p =>
    rw [e] at hr
    have i0 : didx (pr lo hi) (.int 0) = some (.int lo) := rfl
    have i1 : didx (pr lo hi) (.int 1) = some (.int hi) := rfl
    have hs := fun a b => set_tb (x := bf + x) (a := a) (b := b) nd hl
    unfold pr at hs
    cases e2 : tget d (bf + x) with
    | none =>
      have hg := get2_tb d (bf + x) (.tup [.int (lo + p), .int (hi + p)])
      rw [e2] at hg
      refine ⟨some (.int p), some (.int (lo + p)), some (.int (hi + p)), ?_⟩
      simp [tbB3, c_tables, y_call, hr, optD, hg, i0, i1, setM, y_setix, hs, tmore, e2]
    | some v =>
      obtain ⟨a, b⟩ := v
      have hg := get2_tb d (bf + x) (.tup [.int (lo + p), .int (hi + p)])
      rw [e2] at hg
      refine ⟨some (.int p), some (.int a), some (.int b), ?_⟩
      simp [tbB3, c_tables, y_call, hr, optD, hg, i0, i1, setM, y_setix, hs, tmore, e2, pr]
theorem tb_row (t l c bf lo hi tot : Int) (d : Tb) (n rows turn m8 m9 m10 m11 : Option D) {A : Int → Int → Int → Prop} (h : Mm d A) (hA : ∀ s a b, A s a b → 0 ≤ s ∧ s ≤ tot) (ht : 0 ≤ tot) (ht2 : tot ≤ 5000) (hb : 0 ≤ bf) (hb2 : bf ≤ tot) :
    ∃ d' m8' m9' m10' m11', Mm d' (fun s a b => A s a b ∨ ∃ x p, 0 ≤ x ∧ x ≤ tot - bf ∧ wp t l c x = some p ∧ s = bf + x ∧ a = lo + p ∧ b = hi + p) ∧
      exs [F_winner_points] tbB2 [some (rl t l c), n, some (.int tot), rows, turn, some (tbD d), some (.int bf), some (pr lo hi), m8, m9, m10, m11] =
      some (.nx [some (rl t l c), n, some (.int tot), rows, turn, some (tbD d'), some (.int bf), some (pr lo hi), m8', m9', m10', m11']) := by
  obtain ⟨e', q1, d', m8', m9', m10', m11', q2, rfl⟩ : ∃ e', forL (forF [F_winner_points] (.one 8) tbB3) (rngD 0 1 (tot - bf + 1).toNat) [some (rl t l c), n, some (.int tot), rows, turn, some (tbD d), some (.int bf), some (pr lo hi), m8, m9, m10, m11] = some (.nx e') ∧
      ∃ d' m8' m9' m10' m11', Mm d' (fun s a b => A s a b ∨ ∃ x p, 0 ≤ x ∧ x ≤ tot - bf ∧ wp t l c x = some p ∧ s = bf + x ∧ a = lo + p ∧ b = hi + p) ∧
        e' = [some (rl t l c), n, some (.int tot), rows, turn, some (tbD d'), some (.int bf), some (pr lo hi), m8', m9', m10', m11'] := by
    obtain ⟨e', q1, d', m8', m9', m10', m11', q2, q3⟩ := forL_nx (f := forF [F_winner_points] (.one 8) tbB3) (fun i e => ∃ d' m8' m9' m10' m11', Mm d' (fun s a b => A s a b ∨ ∃ x p, 0 ≤ x ∧ x < (i : Int) ∧ wp t l c x = some p ∧ s = bf + x ∧ a = lo + p ∧ b = hi + p) ∧
        e = [some (rl t l c), n, some (.int tot), rows, turn, some (tbD d'), some (.int bf), some (pr lo hi), m8', m9', m10', m11']) (rngD 0 1 (tot - bf + 1).toNat) _ 0
      ⟨d, m8, m9, m10, m11, h.congr fun s a b => ⟨.inl, fun z => by
        rcases z with z | ⟨x, p, z1, z2, _⟩
        · exact z
        · omega⟩, rfl⟩ (fun i e x hx hI => by
        obtain ⟨hi', rfl⟩ := rng_get hx
        obtain ⟨d', m8', m9', m10', m11', q2, rfl⟩ := hI
        rw [Nat.zero_add] at q2
        have hlen : d'.length ≤ (tot + 1).toNat := q2.len fun s a b z => by
          rcases z with z | ⟨x, p, z1, z2, z3, z4, _⟩
          · have := hA s a b z; omega
          · omega
        generalize hk : (i : Int) = k at *
        obtain ⟨n9, n10, n11, z⟩ := tb_in t l c bf lo hi k d' n (some (.int tot)) rows turn m9' m10' m11' q2.nd (by omega)
        refine ⟨_, z, _, _, n9, n10, n11, ?_, rfl⟩
        cases ew : wp t l c k with
        | none =>
          refine q2.congr fun s a b => ⟨fun z => ?_, fun z => ?_⟩
          · rcases z with z | ⟨x, p, z1, z2, z3⟩
            · exact .inl z
            · exact .inr ⟨x, p, z1, by omega, z3⟩
          · rcases z with z | ⟨x, p, z1, z2, z3⟩
            · exact .inl z
            · refine .inr ⟨x, p, z1, ?_, z3⟩
              have : x ≠ k := fun y => by rw [y, ew] at z3; cases z3.1
              omega
        | some p0 =>
          refine (q2.more _ _ _).congr fun s a b => ⟨fun z => ?_, fun z => ?_⟩
          · rcases z with (z | ⟨x, p, z1, z2, z3⟩) | ⟨z1, z2, z3⟩
            · exact .inl z
            · exact .inr ⟨x, p, z1, by omega, z3⟩
            · exact .inr ⟨k, p0, by omega, by omega, ew, z1, z2, z3⟩
          · rcases z with z | ⟨x, p, z1, z2, z3, z4, z5, z6⟩
            · exact .inl (.inl z)
            · by_cases hxk : x = k
              · subst hxk
                rw [ew] at z3
                cases z3
                exact .inr ⟨z4, z5, z6⟩
              · exact .inl (.inr ⟨x, p, z1, by omega, z3, z4, z5, z6⟩))
    refine ⟨e', q1, d', m8', m9', m10', m11', q2.congr fun s a b => ?_, q3⟩
    rw [rngD_len, Nat.zero_add]
    constructor
    · rintro (z | ⟨x, p, z1, z2, z3⟩)
      · exact .inl z
      · exact .inr ⟨x, p, z1, by omega, z3⟩
    · rintro (z | ⟨x, p, z1, z2, z3⟩)
      · exact .inl z
      · exact .inr ⟨x, p, z1, by omega, z3⟩
  refine ⟨d', m8', m9', m10', m11', q2, ?_⟩
  have hr : rg1 (.int (tot - bf + 1)) = some (rngD 0 1 (tot - bf + 1).toNat) := rg1_mk (by omega) (by omega)
  simp [tbB2, y_for, tbI3, hr, q1]
/-- one more set -/
theorem tb_lev (t l c tot : Int) (k : Nat) (d0 : Tb) (rows : List D) (n turn m5 m6 m7 m8 m9 m10 m11 : Option D) (T0 : Tab t l c k tot d0) (ht : 0 ≤ tot) (ht2 : tot ≤ 5000) (hlast : didx (.lst rows) (.int (-1)) = some (tbD d0)) (hz : rows.length < 1000) :
    ∃ d' m5' m6' m7' m8' m9' m10' m11', Tab t l c (k + 1) tot d' ∧
      exs [F_winner_points] tbB1 [some (rl t l c), n, some (.int tot), some (.lst rows), turn, m5, m6, m7, m8, m9, m10, m11] =
      some (.nx [some (rl t l c), n, some (.int tot), some (.lst (rows ++ [tbD d'])), turn, m5', m6', m7', m8', m9', m10', m11']) := by
  have key : ∃ e', forL (forF [F_winner_points] (.many [6, 7]) tbB2) (d0.map fun e => .tup [.int e.1, pr e.2.1 e.2.2]) [some (rl t l c), n, some (.int tot), some (.lst rows), turn, some (tbD []), m6, m7, m8, m9, m10, m11] = some (.nx e') ∧
      ∃ d' m6' m7' m8' m9' m10' m11', Mm d' (fun s a b => ∃ bf lo hi x p, (bf, lo, hi) ∈ d0 ∧ 0 ≤ x ∧ x ≤ tot - bf ∧ wp t l c x = some p ∧ s = bf + x ∧ a = lo + p ∧ b = hi + p) ∧
        e' = [some (rl t l c), n, some (.int tot), some (.lst rows), turn, some (tbD d'), m6', m7', m8', m9', m10', m11'] := by
    obtain ⟨e', q1, d', m6', m7', m8', m9', m10', m11', q2, q3⟩ := forL_nx (f := forF [F_winner_points] (.many [6, 7]) tbB2) (fun i e => ∃ d' m6' m7' m8' m9' m10' m11', Mm d' (fun s a b => ∃ bf lo hi x p, (bf, lo, hi) ∈ d0.take i ∧ 0 ≤ x ∧ x ≤ tot - bf ∧ wp t l c x = some p ∧ s = bf + x ∧ a = lo + p ∧ b = hi + p) ∧
        e = [some (rl t l c), n, some (.int tot), some (.lst rows), turn, some (tbD d'), m6', m7', m8', m9', m10', m11']) (d0.map fun e => .tup [.int e.1, pr e.2.1 e.2.2]) _ 0
      ⟨[], m6, m7, m8, m9, m10, m11, Mm.nil.congr fun s a b => ⟨fun z => z.elim, fun ⟨_, _, _, _, _, z, _⟩ => by simp at z⟩, rfl⟩ (fun i e x hx hI => by
        obtain ⟨d', m6', m7', m8', m9', m10', m11', q2, rfl⟩ := hI
        rw [Nat.zero_add] at q2
        rw [List.getElem?_map] at hx
        cases e0 : d0[i]? with
        | none => rw [e0] at hx; cases hx
        | some y =>
          rw [e0] at hx
          cases hx
          obtain ⟨bf, lo, hi⟩ := y
          have hm : (bf, lo, hi) ∈ d0 := List.mem_of_getElem? e0
          obtain ⟨b1, b2, _⟩ := T0.at_ _ _ _ (mem_tget T0.nd hm)
          have hA : ∀ s a b, (∃ bf lo hi x p, (bf, lo, hi) ∈ d0.take i ∧ 0 ≤ x ∧ x ≤ tot - bf ∧ wp t l c x = some p ∧ s = bf + x ∧ a = lo + p ∧ b = hi + p) → 0 ≤ s ∧ s ≤ tot := by
            rintro s a b ⟨bf', lo', hi', x, p, z1, z2, z3, _, z5, _⟩
            obtain ⟨c1, c2, _⟩ := T0.at_ _ _ _ (mem_tget T0.nd (List.mem_of_mem_take z1))
            omega
          obtain ⟨d2, n8, n9, n10, n11, p1, p2⟩ := tb_row t l c bf lo hi tot d' n (some (.lst rows)) turn m8' m9' m10' m11' q2 hA ht ht2 b1 b2
          refine ⟨_, p2, d2, _, _, n8, n9, n10, n11, p1.congr fun s a b => ?_, rfl⟩
          have et : d0.take (0 + i + 1) = d0.take i ++ [(bf, lo, hi)] := by
            rw [Nat.zero_add, List.take_add_one, e0]; rfl
          rw [et]
          constructor
          · rintro (⟨bf', lo', hi', x, p, z1, z2⟩ | ⟨x, p, z⟩)
            · exact ⟨bf', lo', hi', x, p, List.mem_append_left _ z1, z2⟩
            · exact ⟨bf, lo, hi, x, p, List.mem_append_right _ List.mem_cons_self, z⟩
          · rintro ⟨bf', lo', hi', x, p, z1, z2⟩
            rcases List.mem_append.mp z1 with z1 | z1
            · exact .inl ⟨bf', lo', hi', x, p, z1, z2⟩
            · cases List.mem_singleton.mp z1
              exact .inr ⟨x, p, z2⟩)
    refine ⟨e', q1, d', m6', m7', m8', m9', m10', m11', q2.congr fun s a b => ?_, q3⟩
    rw [Nat.zero_add, List.length_map, List.take_length]
  obtain ⟨e', q1, d', m6', m7', m8', m9', m10', m11', q2, rfl⟩ := key
  refine ⟨d', some (tbD d'), m6', m7', m8', m9', m10', m11', T0.succ q2, ?_⟩
  have hit : itemsD (tbD d0) = some (d0.map fun e => .tup [.int e.1, pr e.2.1 e.2.2]) := by
    show some ((d0.map tbE).map fun kv => D.tup [kD kv.1, kv.2]) = _
    rw [List.map_map] <;> rfl
  have hz' : rows.length < sizeLine := Nat.lt_of_lt_of_le hz (by decide)
  have hd : D.dk [] = tbD [] := rfl
  simp [tbB1, y_for, y_items, hlast, hit, hd, q1, dapp, hz']
def lastT : Nat → List Tb → Prop := fun n ts => ts.length = n + 1
theorem last_ix (xs : List D) (x : D) : didx (.lst (xs ++ [x])) (.int (-1)) = some x := by
  show atI (xs ++ [x]) (-1) = some x
  have e : ixN (xs ++ [x]).length (-1) = some xs.length := by
    unfold ixN
    rw [if_neg (by decide), List.length_append, List.length_singleton, if_pos (by omega)]
    congr 1
    omega
  unfold atI
  rw [e]
  simp
theorem run_tables (ds : List D) : F_tables.run ds = runF [F_winner_points] c_tables 12 ds := id rfl
/-- the tables of 0, 1, .. sets -/
structure Tabs (t l c tot : Int) (n : Nat) (ts : List Tb) : Prop where
  len : ts.length = n + 1
  at_ : ∀ k d, ts[k]? = some d → Tab t l c k tot d
theorem put_00 : dput (.dk []) (.int 0) (.tup [.int 0, .int 0]) = some (tbD [(0, 0, 0)]) := by
  show (if ([] : List (Key × D)).length < sizeLine then some (D.dk (putA [] (Sum.inl 0 : Key) (.tup [.int 0, .int 0]))) else none) = _
  rw [if_pos (Nat.lt_of_lt_of_le (show ([] : List (Key × D)).length < 1 by decide) (by decide))]
  rfl
theorem tables_end (t l c tot z : Int) (xs : List D) (n : Nat) (m4 m5 m6 m7 m8 m9 m10 m11 : Option D) (hr : rg1 (.int z) = some xs) (ts : List D)
    (q1 : forL (forF [F_winner_points] (.one 4) tbB1) xs [some (rl t l c), some (.int z), some (.int tot), some (.lst [tbD [(0, 0, 0)]]), none, none, none, none, none, none, none, none] = some (.nx [some (rl t l c), some (.int z), some (.int tot), some (.lst ts), m4, m5, m6, m7, m8, m9, m10, m11])) :
    F_tables.run [rl t l c, .int z, .int tot] = some (.lst ts) := by
  have hd := put_00
  rw [run_tables, y_run, tbC]
  simp [y_for, y_dsp, hd, hr, q1]
theorem r_tables (t l c tot : Int) (n : Nat) (hn : n ≤ 900) (ht : 0 ≤ tot) (ht2 : tot ≤ 5000) : ∃ ts, Tabs t l c tot n ts ∧ F_tables.run [rl t l c, .int (n : Int), .int tot] = some (.lst (ts.map tbD)) := by
  obtain ⟨e', q1, ts, m4, m5, m6, m7, m8, m9, m10, m11, q2, rfl⟩ : ∃ e', forL (forF [F_winner_points] (.one 4) tbB1) (rngD 0 1 n) [some (rl t l c), some (.int (n : Int)), some (.int tot), some (.lst [tbD [(0, 0, 0)]]), none, none, none, none, none, none, none, none] = some (.nx e') ∧
      ∃ ts m4 m5 m6 m7 m8 m9 m10 m11, Tabs t l c tot n ts ∧ e' = [some (rl t l c), some (.int (n : Int)), some (.int tot), some (.lst (ts.map tbD)), m4, m5, m6, m7, m8, m9, m10, m11] := by
    obtain ⟨e', q1, ts, m4, m5, m6, m7, m8, m9, m10, m11, q2, q3⟩ := forL_nx (f := forF [F_winner_points] (.one 4) tbB1) (fun i e => ∃ ts m4 m5 m6 m7 m8 m9 m10 m11, Tabs t l c tot i ts ∧ e = [some (rl t l c), some (.int (n : Int)), some (.int tot), some (.lst (ts.map tbD)), m4, m5, m6, m7, m8, m9, m10, m11]) (rngD 0 1 n) [some (rl t l c), some (.int (n : Int)), some (.int tot), some (.lst [tbD [(0, 0, 0)]]), none, none, none, none, none, none, none, none] 0
      ⟨[[(0, 0, 0)]], none, none, none, none, none, none, none, none, ⟨rfl, fun k d h => by
        cases k with
        | zero => cases h; exact Tab.zero ht
        | succ k => cases h⟩, rfl⟩ (fun i e x hx hI => by
        obtain ⟨hi', rfl⟩ := rng_get hx
        obtain ⟨ts, m4, m5, m6, m7, m8, m9, m10, m11, q2, rfl⟩ := hI
        rw [Nat.zero_add] at q2
        have hne : ts ≠ [] := fun z => by have := q2.len; rw [z] at this; cases this
        obtain ⟨ts', d0, rfl⟩ : ∃ ts' d0, ts = ts' ++ [d0] := ⟨ts.dropLast, ts.getLast hne, (List.dropLast_concat_getLast hne).symm⟩
        have hl' : ts'.length = i := by have := q2.len; rw [List.length_append, List.length_singleton] at this; omega
        have T0 : Tab t l c i tot d0 := q2.at_ i d0 (by rw [List.getElem?_append_right (by omega), hl', Nat.sub_self]; rfl)
        obtain ⟨d', n5, n6, n7, n8, n9, n10, n11, p1, p2⟩ := tb_lev t l c tot i d0 ((ts' ++ [d0]).map tbD) (some (.int (n : Int))) (some (.int (i : Int))) m5 m6 m7 m8 m9 m10 m11 T0 ht ht2 (by rw [List.map_append]; exact last_ix _ _) (by rw [List.length_map, List.length_append, List.length_singleton]; omega)
        refine ⟨_, p2, ts' ++ [d0] ++ [d'], _, n5, n6, n7, n8, n9, n10, n11, ⟨by simp [hl'], fun k d h => ?_⟩, by rw [List.map_append (l₁ := ts' ++ [d0])]; rfl⟩
        by_cases hk : k < (ts' ++ [d0]).length
        · rw [List.getElem?_append_left hk] at h
          exact q2.at_ k d h
        · rw [List.getElem?_append_right (by omega)] at h
          have hk2 : k - (ts' ++ [d0]).length = 0 := by
            have := (List.getElem?_eq_some_iff.mp h).1
            rw [List.length_singleton] at this
            omega
          rw [hk2] at h
          cases h
          have : k = i + 1 := by rw [List.length_append, List.length_singleton] at hk hk2; omega
          rw [this]; exact p1)
    rw [rngD_len, Nat.zero_add] at q2
    exact ⟨e', q1, ts, m4, m5, m6, m7, m8, m9, m10, m11, q2, q3⟩
  refine ⟨ts, q2, ?_⟩
  have hr : rg1 (.int (n : Int)) = some (rngD 0 1 n) := by
    rw [rg1_mk (by omega) (by omega)]; rfl
  exact tables_end t l c tot n _ n m4 m5 m6 m7 m8 m9 m10 m11 hr _ q1
/-! ### the range -/
def optP : Option (Int × Int) → D
  | none => .non
  | some v => pr v.1 v.2
structure Rng (t l c : Int) (n : Nat) (tot : Int) (o : Option (Int × Int)) : Prop where
  no : o = none → ∀ w, ¬ S t l c n tot w
  yes : ∀ lo hi, o = some (lo, hi) → S t l c n tot lo ∧ S t l c n tot hi ∧ ∀ w, S t l c n tot w → lo ≤ w ∧ w ≤ hi
theorem Rng.of {t l c : Int} {n : Nat} {tot s : Int} {d : Tb} (T : Tab t l c n tot d) (hs : s ≤ tot) : Rng t l c n s (tget d s) :=
  ⟨fun h w z => T.has s w z hs h, fun lo hi h => (T.at_ s lo hi h).2.2⟩
theorem Rng.iff {t l c : Int} {n : Nat} {tot lo hi : Int} {o : Option (Int × Int)} (R : Rng t l c n tot o) (h : o = some (lo, hi)) (w : Int) : S t l c n tot w ↔ lo ≤ w ∧ w ≤ hi :=
  ⟨(R.yes lo hi h).2.2 w, fun z => S_gap (R.yes lo hi h).1 (R.yes lo hi h).2.1 w z.1 z.2⟩
theorem run_range (ds : List D) : F_winner_range.run ds = runF [F_tables] c_winner_range 3 ds := id rfl
@[simp] theorem ar_tables : F_tables.ar = 3 := id rfl
@[simp] theorem ar_range : F_winner_range.ar = 3 := id rfl
@[simp] theorem ar_split : F_split.ar = 4 := id rfl
theorem Tabs.last {t l c tot : Int} {n : Nat} {ts : List Tb} (T : Tabs t l c tot n ts) : ∃ d, Tab t l c n tot d ∧ didx (.lst (ts.map tbD)) (.int (-1)) = some (tbD d) := by
  have hne : ts ≠ [] := fun z => by have := T.len; rw [z] at this; cases this
  obtain ⟨ts', d0, rfl⟩ : ∃ ts' d0, ts = ts' ++ [d0] := ⟨ts.dropLast, ts.getLast hne, (List.dropLast_concat_getLast hne).symm⟩
  have hl' : ts'.length = n := by have := T.len; rw [List.length_append, List.length_singleton] at this; omega
  exact ⟨d0, T.at_ n d0 (by rw [List.getElem?_append_right (by omega), hl', Nat.sub_self]; rfl), by rw [List.map_append]; exact last_ix _ _⟩
theorem range_end (z tot : Int) (R ts td v : D) (h1 : F_tables.run [R, .int z, .int tot] = some ts) (h2 : didx ts (.int (-1)) = some td) (h3 : dmth .get1 td [.int tot] = some v) : F_winner_range.run [R, .int z, .int tot] = some v := by
  rw [run_range, y_run]
  simp [c_winner_range, y_call, h1, h2, h3]
theorem r_range (t l c tot : Int) (n : Nat) (hn : n ≤ 900) (ht : 0 ≤ tot) (ht2 : tot ≤ 5000) : ∃ o, Rng t l c n tot o ∧ F_winner_range.run [rl t l c, .int (n : Int), .int tot] = some (optP o) := by
  obtain ⟨ts, T, h1⟩ := r_tables t l c tot n hn ht ht2
  obtain ⟨d, T1, h2⟩ := T.last
  refine ⟨tget d tot, Rng.of T1 (Int.le_refl _), range_end _ _ _ _ _ _ h1 h2 ?_⟩
  rw [get1_tb]
  cases tget d tot <;> rfl
/-! ### split -/
def spB2 : CSs := match c_split with
  | .cons _ (.cons _ (.cons (.for_ _ _ (.cons _ (.cons (.for_ _ _ b) _))) _)) => b
  | _ => .nil
def spB1 : CSs := match c_split with
  | .cons _ (.cons _ (.cons (.for_ _ _ b) _)) => b
  | _ => .nil
def spE : CSs := match c_split with
  | .cons _ (.cons _ (.cons (.for_ _ _ (.cons _ (.cons _ b))) _)) => b
  | _ => .nil
theorem spC1 : spB1 = .cons (.asg 7 .cnon) (.cons (.for_ (.one 8) (.rng1 (.bin .add (.var 2) (.cint 1))) spB2) spE) := rfl
theorem spC : c_split = .cons (.asg 4 (.call 0 (.cons (.var 0) (.cons (.var 1) (.cons (.var 2) .nil))))) (.cons (.asg 5 (.tup .nil)) (.cons (.for_ (.one 6) (.rngd (.var 1) (.cint 0)) spB1)
    (.cons (.ret (.ite (.andd (.cmp .eq (.var 2) (.cint 0)) (.cmp .eq (.var 3) (.cint 0))) (.var 5) .cnon)) .nil))) := rfl
/-- the winner's points of a loser -/
def okS (t l c : Int) (k : Nat) (ls ws x : Int) : Prop := ∃ p, wp t l c x = some p ∧ S t l c k (ls - x) (ws - p)
theorem sp_in (t l c ls ws x k1 : Int) (k : Nat) (tot : Int) (d : Tb) (ts : D) (n fnd ch : Option D) (m9 m10 : Option D) (T : Tab t l c k tot d) (hx : 0 ≤ x) (hx2 : x ≤ ls) (hls : ls ≤ tot) (hix : didx ts (.int (k1 - 1)) = some (tbD d)) :
    ∃ b : Bool, (b = true ↔ okS t l c k ls ws x) ∧ ∃ m9' m10', exs [F_tables, F_winner_points] spB2 [some (rl t l c), n, some (.int ls), some (.int ws), some ts, fnd, some (.int k1), ch, some (.int x), m9, m10] =
      some (.nx [some (rl t l c), n, some (.int ls), some (.int ws), some ts, fnd, some (.int k1), if b then some (.int x) else ch, some (.int x), m9', m10']) := by
  have hr := r_wp t l c x
  have hg := get1_tb d (ls - x)
  have R := Rng.of (s := ls - x) T (by omega)
  cases e : wp t l c x with
  | none =>
    rw [e] at hr
    refine ⟨false, ⟨fun z => (by cases z), fun ⟨p, z, _⟩ => by rw [e] at z; cases z⟩, ?_⟩
    cases e2 : tget d (ls - x) with
    | none =>
      rw [e2] at hg
      exact ⟨some .non, some .non, by simp [spB2, c_split, y_call, hr, optD, hix, hg]⟩
    | some v =>
      rw [e2] at hg
      exact ⟨some .non, some (pr v.1 v.2), by simp [spB2, c_split, y_call, hr, optD, hix, hg]⟩
  | some p =>
    rw [e] at hr
    cases e2 : tget d (ls - x) with
    | none =>
      rw [e2] at hg
      refine ⟨false, ⟨fun z => (by cases z), fun ⟨q, z, z2⟩ => absurd z2 (R.no e2 _)⟩, some (.int p), some .non, ?_⟩
      simp [spB2, c_split, y_call, hr, optD, hix, hg]
    | some v =>
      obtain ⟨lo, hi⟩ := v
      rw [e2] at hg
      have R2 := R.iff e2 (ws - p)
      refine ⟨decide (lo ≤ ws - p ∧ ws - p ≤ hi), ?_, some (.int p), some (pr lo hi), ?_⟩
      · rw [decide_eq_true_iff, ← R2]
        constructor
        · intro z; exact ⟨p, e, z⟩
        · rintro ⟨q, z, z2⟩; rw [e] at z; cases z; exact z2
      · have i0 : didx (pr lo hi) (.int 0) = some (.int lo) := rfl
        have i1 : didx (pr lo hi) (.int 1) = some (.int hi) := rfl
        have in_ : dcmp .isn (pr lo hi) .non = some true := rfl
        by_cases h1 : lo ≤ ws - p <;> by_cases h2 : ws - p ≤ hi <;> simp [spB2, c_split, y_call, hr, optD, hix, hg, i0, i1, in_, h1, h2]
theorem sp_ch (t l c ls ws k1 : Int) (k : Nat) (tot : Int) (d : Tb) (ts : D) (n fnd : Option D) (m8 m9 m10 : Option D) (T : Tab t l c k tot d) (h0 : 0 ≤ ls) (hls : ls ≤ tot) (ht : tot ≤ 5000) (hix : didx ts (.int (k1 - 1)) = some (tbD d)) :
    ∃ (o : Option Int) (m8' m9' m10' : Option D), (o = none → ∀ x, 0 ≤ x → x ≤ ls → ¬ okS t l c k ls ws x) ∧ (∀ x, o = some x → 0 ≤ x ∧ x ≤ ls ∧ okS t l c k ls ws x) ∧
      ex [F_tables, F_winner_points] (.for_ (.one 8) (.rng1 (.bin .add (.var 2) (.cint 1))) spB2) [some (rl t l c), n, some (.int ls), some (.int ws), some ts, fnd, some (.int k1), some .non, m8, m9, m10] =
      some (.nx [some (rl t l c), n, some (.int ls), some (.int ws), some ts, fnd, some (.int k1), some (optD o), m8', m9', m10']) := by
  obtain ⟨e', q1, o, m8', m9', m10', q2, q3, rfl⟩ := forL_nx (f := forF [F_tables, F_winner_points] (.one 8) spB2) (fun i e => ∃ (o : Option Int) (m8' m9' m10' : Option D), (o = none → ∀ x, 0 ≤ x → x < (i : Int) → ¬ okS t l c k ls ws x) ∧ (∀ x, o = some x → 0 ≤ x ∧ x < (i : Int) ∧ okS t l c k ls ws x) ∧
      e = [some (rl t l c), n, some (.int ls), some (.int ws), some ts, fnd, some (.int k1), some (optD o), m8', m9', m10']) (rngD 0 1 (ls + 1).toNat) [some (rl t l c), n, some (.int ls), some (.int ws), some ts, fnd, some (.int k1), some .non, m8, m9, m10] 0
    ⟨none, m8, m9, m10, fun _ x h1 h2 => by omega, fun x h => (by cases h), rfl⟩ (fun i e x hx hI => by
      obtain ⟨hi', rfl⟩ := rng_get hx
      obtain ⟨o, m8', m9', m10', q2, q3, rfl⟩ := hI
      rw [Nat.zero_add] at q2 q3
      have hk0 : (0 : Int) ≤ (i : Int) := by omega
      have hk1 : (i : Int) ≤ ls := by omega
      have hk2 : ((0 + i + 1 : Nat) : Int) = (i : Int) + 1 := by omega
      rw [hk2]
      generalize (i : Int) = z at *
      obtain ⟨b, b1, n9, n10, b2⟩ := sp_in t l c ls ws z k1 k tot d ts n fnd (some (optD o)) m9' m10' T hk0 hk1 hls hix
      refine ⟨_, b2, if b then some z else o, some (.int z), n9, n10, ?_, ?_, ?_⟩
      · intro ho x x1 x2 hok
        cases b with
        | true => cases ho
        | false =>
          by_cases hxz : x = z
          · subst hxz; cases b1.mpr hok
          · exact q2 ho x x1 (by omega) hok
      · intro x hx
        cases b with
        | true => cases hx; exact ⟨hk0, by omega, b1.mp rfl⟩
        | false =>
          obtain ⟨z1, z2, z3⟩ := q3 x hx
          exact ⟨z1, by omega, z3⟩
      · cases b <;> rfl)
  rw [rngD_len, Nat.zero_add] at q2 q3
  refine ⟨o, m8', m9', m10', fun h x x1 x2 => q2 h x x1 (by omega), fun x h => ?_, ?_⟩
  · obtain ⟨z1, z2, z3⟩ := q3 x h
    exact ⟨z1, by omega, z3⟩
  · have hr : rg1 (.int (ls + 1)) = some (rngD 0 1 (ls + 1).toNat) := rg1_mk (by omega) (by omega)
    simp [y_for, hr, q1]
/-- a row of losers' points -/
def RowS (t l c : Int) : List Int → Int → Int → Prop
  | [], s, w => s = 0 ∧ w = 0
  | x :: r, s, w => ∃ p, 0 ≤ x ∧ wp t l c x = some p ∧ RowS t l c r (s - x) (w - p)
theorem RowS.snoc {t l c : Int} : ∀ {r : List Int} {s w x p : Int}, RowS t l c r s w → 0 ≤ x → wp t l c x = some p → RowS t l c (r ++ [x]) (s + x) (w + p)
  | [], s, w, x, p, h, hx, hp => ⟨p, hx, hp, by rw [h.1]; omega, by rw [h.2]; omega⟩
  | y :: r, s, w, x, p, ⟨q, h1, h2, h3⟩, hx, hp => ⟨q, h1, h2, by
    have := RowS.snoc h3 hx hp
    rw [show s + x - y = s - y + x by omega, show w + p - q = w - q + p by omega]
    exact this⟩
theorem RowS.S {t l c : Int} : ∀ {r : List Int} {s w : Int}, RowS t l c r s w → S t l c r.length s w
  | [], s, w, h => h
  | x :: r, s, w, ⟨p, h1, h2, h3⟩ => ⟨x, p, h1, h2, RowS.S h3⟩
theorem S.row {t l c : Int} : ∀ {k : Nat} {s w : Int}, S t l c k s w → ∃ r : List Int, r.length = k ∧ RowS t l c r s w
  | 0, s, w, h => ⟨[], rfl, h⟩
  | k + 1, s, w, ⟨x, p, h1, h2, h3⟩ => by
    obtain ⟨r, e, h⟩ := S.row h3
    exact ⟨x :: r, by rw [List.length_cons, e], p, h1, h2, h⟩
theorem RowS.sum {t l c : Int} : ∀ {r : List Int} {s w : Int}, RowS t l c r s w → r.sum = s
  | [], s, w, h => h.1.symm
  | x :: r, s, w, ⟨p, h1, h2, h3⟩ => by rw [List.sum_cons, RowS.sum h3]; omega
theorem RowS.mem {t l c : Int} : ∀ {r : List Int} {s w : Int}, RowS t l c r s w → ∀ x ∈ r, 0 ≤ x ∧ x ≤ s ∧ ∃ p, wp t l c x = some p
  | [], s, w, h, x, hx => by cases hx
  | y :: r, s, w, ⟨p, h1, h2, h3⟩, x, hx => by
    have nn := S_nn h3.S
    rcases List.mem_cons.mp hx with rfl | hx
    · exact ⟨h1, by omega, p, h2⟩
    · obtain ⟨q1, q2, q3⟩ := RowS.mem h3 x hx
      exact ⟨q1, by omega, q3⟩
def wpv (t l c x : Int) : Int := (wp t l c x).getD 0
theorem RowS.wsum {t l c : Int} : ∀ {r : List Int} {s w : Int}, RowS t l c r s w → (r.map (wpv t l c)).sum = w
  | [], s, w, h => h.2.symm
  | x :: r, s, w, ⟨p, h1, h2, h3⟩ => by rw [List.map_cons, List.sum_cons, RowS.wsum h3, wpv, h2, Option.getD_some]; omega
theorem sp_end (t l c k1 ls ws : Int) (ts : D) (xs : List Int) (n m8 m9 m10 : Option D) (o : Option Int) (hz : xs.length < 1000) :
    exs [F_tables, F_winner_points] spE [some (rl t l c), n, some (.int ls), some (.int ws), some ts, some (.tup (xs.map .int)), some (.int k1), some (optD o), m8, m9, m10] =
      match o with
      | none => some (.rt .non)
      | some x => match wp t l c x with
        | none => none
        | some p => some (.nx [some (rl t l c), n, some (.int (ls - x)), some (.int (ws - p)), some ts, some (.tup ((xs ++ [x]).map .int)), some (.int k1), some (.int x), m8, m9, m10]) := by
  cases o with
  | none => simp [spE, c_split, optD]
  | some x =>
    have hr := r_wp t l c x
    have hz' : xs.length + 1 ≤ sizeLine := Nat.le_trans (show xs.length + 1 ≤ 1000 by omega) (by decide)
    have add : dbin .add (.tup (xs.map .int)) (.tup [.int x]) = some (.tup ((xs ++ [x]).map .int)) := by
      show (if (xs.map D.int).length + [D.int x].length ≤ sizeLine then _ else _) = _
      rw [if_pos (by rw [List.length_map]; exact hz'), List.map_append] <;> rfl
    simp only
    cases e : wp t l c x with
    | none =>
      rw [e] at hr
      simp [spE, c_split, optD, y_call, hr, add, y_aug]
      rfl
    | some p =>
      rw [e] at hr
      simp only [List.map_append, List.map_cons, List.map_nil] at add ⊢
      simp [spE, c_split, optD, y_call, hr, add, y_aug]
def optR : Option (List Int) → D
  | none => .non
  | some xs => .tup (xs.map .int)
theorem run_split (ds : List D) : F_split.run ds = runF [F_tables, F_winner_points] c_split 11 ds := id rfl
theorem split_end (t l c z ls ws : Int) (xs : List D) (ts v : D) (o : Out) (hr : rgd (.int z) (.int 0) = some xs) (h1 : F_tables.run [rl t l c, .int z, .int ls] = some ts)
    (q1 : forL (forF [F_tables, F_winner_points] (.one 6) spB1) xs [some (rl t l c), some (.int z), some (.int ls), some (.int ws), some ts, some (.tup []), none, none, none, none, none] = some o)
    (ho : o = .rt v ∨ ∃ m6 m7 m8 m9 m10 : Option D, o = .nx [some (rl t l c), some (.int z), some (.int 0), some (.int 0), some ts, some v, m6, m7, m8, m9, m10]) : F_split.run [rl t l c, .int z, .int ls, .int ws] = some v := by
  rw [run_split, y_run, spC]
  rcases ho with rfl | ⟨m6, m7, m8, m9, m10, rfl⟩
  · simp [y_for, y_rngd, y_call, h1, hr, q1]
  · simp [y_for, y_rngd, y_call, h1, hr, q1]
theorem split_end0 (t l c ls ws : Int) (ts v : D) (h1 : F_tables.run [rl t l c, .int 0, .int ls] = some ts) (hne : ¬ (ls = 0 ∧ ws = 0)) : F_split.run [rl t l c, .int 0, .int ls, .int ws] = some .non := by
  have hr : rgd (.int 0) (.int 0) = some [] := rfl
  rw [run_split, y_run, spC]
  by_cases h : ls = 0
  · have : ws ≠ 0 := fun z => hne ⟨h, z⟩
    subst h
    simp [y_for, y_rngd, y_call, h1, hr, forL, this]
  · simp [y_for, y_rngd, y_call, h1, hr, forL, h]
theorem rngd_get {n i : Nat} {x : D} (h : (rngD (n : Int) (-1) n)[i]? = some x) : i < n ∧ x = .int ((n : Int) - i) := by
  rw [rngD_get] at h
  split at h
  · rename_i hl
    cases h
    exact ⟨hl, by congr 1; omega⟩
  · cases h
theorem r_split (t l c ls ws : Int) (n : Nat) (hn : n ≤ 900) (h0 : 0 ≤ ls) (h5 : ls ≤ 5000) :
    ∃ o : Option (List Int), (o = none → ¬ S t l c n ls ws) ∧ (∀ xs, o = some xs → xs.length = n ∧ ∃ s' w', RowS t l c xs s' w' ∧ s' = ls ∧ w' = ws) ∧ F_split.run [rl t l c, .int (n : Int), .int ls, .int ws] = some (optR o) := by
  obtain ⟨ts, T, h1⟩ := r_tables t l c ls n hn h0 h5
  have hix : ∀ k : Nat, k < n → ∃ d, Tab t l c k ls d ∧ didx (.lst (ts.map tbD)) (.int (((k + 1 : Nat) : Int) - 1)) = some (tbD d) := fun k hk => by
    have hl := T.len
    have e : ts[k]? = some ts[k] := List.getElem?_eq_getElem (by omega)
    refine ⟨ts[k], T.at_ k _ e, ?_⟩
    rw [ixL _ _ (by omega), show (((k + 1 : Nat) : Int) - 1).toNat = k by omega, List.getElem?_map, e]
    rfl
  have hr : rgd (.int (n : Int)) (.int 0) = some (rngD (n : Int) (-1) n) := by
    rw [rgd_mk (by omega) (by omega) (by omega) (by omega), show ((n : Int) - 0).toNat = n by omega]
  by_cases hS : S t l c n ls ws
  · obtain ⟨e', q1, xs, ls', ws', m6, m7, m8, m9, m10, p1, ⟨s', w', p2, p3, p4⟩, p5, p6, rfl⟩ := forL_nx (f := forF [F_tables, F_winner_points] (.one 6) spB1) (fun i e => ∃ (xs : List Int) (ls' ws' : Int) (m6 m7 m8 m9 m10 : Option D), xs.length = i ∧ (∃ s' w', RowS t l c xs s' w' ∧ s' + ls' = ls ∧ w' + ws' = ws) ∧ S t l c (n - i) ls' ws' ∧ ls' ≤ ls ∧
        e = [some (rl t l c), some (.int (n : Int)), some (.int ls'), some (.int ws'), some (.lst (ts.map tbD)), some (.tup (xs.map .int)), m6, m7, m8, m9, m10]) (rngD (n : Int) (-1) n) [some (rl t l c), some (.int (n : Int)), some (.int ls), some (.int ws), some (.lst (ts.map tbD)), some (.tup []), none, none, none, none, none] 0
      ⟨[], ls, ws, none, none, none, none, none, rfl, ⟨0, 0, ⟨rfl, rfl⟩, by omega, by omega⟩, hS, Int.le_refl _, rfl⟩ (fun i e x hx hI => by
        obtain ⟨hi', rfl⟩ := rngd_get hx
        obtain ⟨xs, ls', ws', m6, m7, m8, m9, m10, p1, ⟨s', w', p2, p3, p4⟩, p5, p6, rfl⟩ := hI
        rw [Nat.zero_add] at p1 p5
        obtain ⟨d, T1, hix1⟩ := hix (n - i - 1) (by omega)
        rw [show n - i - 1 + 1 = n - i by omega] at hix1
        have ek : ((n : Int) - (i : Int)) = ((n - i : Nat) : Int) := by omega
        rw [ek]
        have p5' : S t l c (n - i - 1 + 1) ls' ws' := by rw [show n - i - 1 + 1 = n - i by omega]; exact p5
        obtain ⟨x, p, x0, xp, xs'⟩ := p5'
        have nn := S_nn xs'
        obtain ⟨o, n8, n9, n10, o1, o2, o3⟩ := sp_ch t l c ls' ws' ((n - i : Nat) : Int) (n - i - 1) ls d (.lst (ts.map tbD)) (some (.int (n : Int))) (some (.tup (xs.map .int))) m8 m9 m10 T1 (by omega) p6 h5 hix1
        cases o with
        | none => exact absurd ⟨p, xp, xs'⟩ (o1 rfl x x0 (by omega))
        | some y =>
          obtain ⟨y0, y1, q, yq, ys⟩ := o2 y rfl
          have hE := sp_end t l c ((n - i : Nat) : Int) ls' ws' (.lst (ts.map tbD)) xs (some (.int (n : Int))) n8 n9 n10 (some y) (by omega)
          simp only [yq] at hE
          refine ⟨_, ?_, xs ++ [y], ls' - y, ws' - q, some (.int ((n - i : Nat) : Int)), some (.int y), n8, n9, n10, by simp [p1], ⟨s' + y, w' + q, p2.snoc y0 yq, by omega, by omega⟩, ?_, by omega, rfl⟩
          · generalize (n : Int) = nz at *
            generalize ((n - i : Nat) : Int) = kz at *
            show exs _ spB1 [some (rl t l c), some (.int nz), some (.int ls'), some (.int ws'), some (.lst (ts.map tbD)), some (.tup (xs.map .int)), some (.int kz), m7, m8, m9, m10] = _
            rw [spC1, y_scons, y_asg, y_cnon, sO_some, bO_nx, y_scons]
            show bO (ex _ _ [some (rl t l c), some (.int nz), some (.int ls'), some (.int ws'), some (.lst (ts.map tbD)), some (.tup (xs.map .int)), some (.int kz), some .non, m8, m9, m10]) _ = _
            rw [o3, bO_nx]
            exact hE
          · rw [show n - (0 + i + 1) = n - i - 1 by omega]; exact ys)
    rw [rngD_len, Nat.zero_add] at p1 p5
    rw [Nat.sub_self] at p5
    obtain ⟨z1, z2⟩ := p5
    subst z1
    subst z2
    refine ⟨some xs, fun z => (by cases z), fun xs' z => by cases z; exact ⟨p1, s', w', p2, by omega, by omega⟩, ?_⟩
    generalize (n : Int) = nz at *
    exact split_end t l c nz ls ws _ _ _ _ hr h1 q1 (.inr ⟨m6, m7, m8, m9, m10, rfl⟩)
  · refine ⟨none, fun _ => hS, fun xs z => (by cases z), ?_⟩
    cases n with
    | zero => exact split_end0 t l c ls ws _ .non h1 hS
    | succ k =>
      obtain ⟨d, T1, hix1⟩ := hix k (by omega)
      obtain ⟨o, n8, n9, n10, o1, o2, o3⟩ := sp_ch t l c ls ws ((k + 1 : Nat) : Int) k ls d (.lst (ts.map tbD)) (some (.int ((k + 1 : Nat) : Int))) (some (.tup [])) none none none T1 h0 (Int.le_refl _) h5 hix1
      cases o with
      | some y =>
        obtain ⟨y0, y1, q, yq, ys⟩ := o2 y rfl
        exact absurd ⟨y, q, y0, yq, ys⟩ hS
      | none =>
        have hE := sp_end t l c ((k + 1 : Nat) : Int) ls ws (.lst (ts.map tbD)) [] (some (.int ((k + 1 : Nat) : Int))) n8 n9 n10 none (by decide)
        have hcons : rngD ((k + 1 : Nat) : Int) (-1) (k + 1) = .int ((k + 1 : Nat) : Int) :: (rngD ((k + 1 : Nat) : Int) (-1) (k + 1)).tail := by
          unfold rngD
          rw [List.range_succ_eq_map, List.map_cons]
          simp
        rw [hcons] at hr
        generalize (rngD ((k + 1 : Nat) : Int) (-1) (k + 1)).tail = tl at hr
        generalize ((k + 1 : Nat) : Int) = nz at *
        refine split_end t l c nz ls ws _ _ _ (.rt .non) hr h1 ?_ (.inl rfl)
        have hf : forF [F_tables, F_winner_points] (.one 6) spB1 [some (rl t l c), some (.int nz), some (.int ls), some (.int ws), some (.lst (ts.map tbD)), some (.tup []), none, none, none, none, none] (.int nz) = some (.rt .non) := by
          show exs _ spB1 [some (rl t l c), some (.int nz), some (.int ls), some (.int ws), some (.lst (ts.map tbD)), some (.tup []), some (.int nz), none, none, none, none] = _
          rw [spC1, y_scons, y_asg, y_cnon, sO_some, bO_nx, y_scons]
          show bO (ex _ _ [some (rl t l c), some (.int nz), some (.int ls), some (.int ws), some (.lst (ts.map tbD)), some (.tup []), some (.int nz), some .non, none, none, none]) _ = _
          rw [o3, bO_nx]
          exact hE
        unfold forL
        rw [hf]
end Pv

/-! Pm6: all rows with a sum. -/
namespace Pv
open PySem L2
def c_law_splits : CSs := (CSs.cons (CS.asg 3 (CE.lst (CEs.cons (CE.tup .nil) .nil))) (CSs.cons (CS.for_ (Tg.one 4) (CIt.rng1 (CE.var 1)) (CSs.cons (CS.asg 5 (CE.lst .nil)) (CSs.cons (CS.for_ (Tg.one 6) (CIt.seq (CE.var 3)) (CSs.cons (CS.for_ (Tg.one 7) (CIt.rng1 (CE.bin (BOp.add) (CE.bin (BOp.sub) (CE.var 2) (CE.blt (BF.sum) (CEs.cons (CE.var 6) .nil))) (CE.cint 1))) (CSs.cons (CS.ife (CE.cmp (COp.isn) (CE.call 0 (CEs.cons (CE.var 0) (CEs.cons (CE.var 7) .nil))) (CE.cnon)) (CSs.cons (CS.app 5 (CE.bin (BOp.add) (CE.var 6) (CE.tup (CEs.cons (CE.var 7) .nil)))) .nil) .nil) .nil)) .nil)) (CSs.cons (CS.asg 3 (CE.var 5)) .nil)))) (CSs.cons (CS.ret (CE.lc (CE.var 6) (Tg.one 6) (CIt.seq (CE.var 3)) (CEs.cons (CE.cmp (COp.eq) (CE.blt (BF.sum) (CEs.cons (CE.var 6) .nil)) (CE.var 2)) .nil) [6])) .nil)))
def F_law_splits : Fn := ⟨3, runF [F_law_won] c_law_splits 8, true⟩
/-! ### ints: == and sums -/
theorem eqI_dec (xs ys : List Int) : eqI xs ys = decide (xs = ys) := by
  by_cases h : xs = ys
  · subst h; rw [eqI_refl, decide_eq_true rfl]
  · rw [decide_eq_false h]
    cases e : eqI xs ys with
    | false => rfl
    | true => exact absurd (eqI_eq e) h
theorem deq_il (xs ys : List Int) : dcmp .eq (.lst (xs.map .int)) (.lst (ys.map .int)) = some (decide (xs = ys)) := by
  show deq _ _ = _
  unfold deq
  rw [shaped_lst, shaped_lst]
  show some (PyData.eqvAll (pyL (xs.map .int)) (pyL (ys.map .int))) = _
  rw [eqv_ints, eqI_dec]
theorem deq_it (xs ys : List Int) : dcmp .eq (.tup (xs.map .int)) (.tup (ys.map .int)) = some (decide (xs = ys)) := by
  show deq _ _ = _
  unfold deq
  rw [shaped_tup, shaped_tup]
  show some (PyData.eqvAll (pyL (xs.map .int)) (pyL (ys.map .int))) = _
  rw [eqv_ints, eqI_dec]
theorem ne_of_eq {a b : D} {k : Bool} (h : dcmp .eq a b = some k) : dcmp .ne a b = some (!k) := by
  have h : deq a b = some k := h
  rw [d_ne, h]
  rfl
theorem deq_pr (a b x y : Int) : dcmp .eq (pr a b) (pr x y) = some (decide (a = x ∧ b = y)) := by
  have := deq_it [a, b] [x, y]
  show dcmp .eq (.tup ([a, b].map .int)) (.tup ([x, y].map .int)) = _
  rw [this]
  congr 1
  rw [decide_eq_decide]
  simp
theorem ints_map : ∀ xs : List Int, ints? (xs.map D.int) = some xs
  | [] => rfl
  | x :: r => by
    rw [List.map_cons]
    unfold ints?
    rw [ints_map r]
theorem d_suml (xs : List Int) : dblt .sum [.lst (xs.map .int)] = some (.int xs.sum) := by
  show (match ints? (xs.map D.int) with
    | some ys => some (D.int ys.sum)
    | none => none) = _
  rw [ints_map]
theorem d_sumt (xs : List Int) : dblt .sum [.tup (xs.map .int)] = some (.int xs.sum) := by
  show (match ints? (xs.map D.int) with
    | some ys => some (D.int ys.sum)
    | none => none) = _
  rw [ints_map]
theorem ded_len {α : Type} (eq : α → α → Bool) : ∀ l : List α, (dedB eq l).length ≤ l.length
  | [] => Nat.le_refl _
  | [x] => Nat.le_refl _
  | x :: y :: r => by
    have := ded_len eq (y :: r)
    unfold dedB
    split
    · exact Nat.le_trans this (Nat.le_succ _)
    · exact Nat.succ_le_succ this
theorem sInts_len (xs : List Int) : (sInts xs).length ≤ xs.length := Nat.le_trans (ded_len _ _) (Nat.le_of_eq (isB_perm xs).length_eq)
theorem sPrs_len (xs : List (Int × Int)) : (sPrs xs).length ≤ xs.length := Nat.le_trans (ded_len _ _) (Nat.le_of_eq (isB_perm xs).length_eq)
theorem d_ssort (xs : List Int) (h : xs.length < 4000) (h2 : (sInts xs).length < 64) : dblt .ssort [.lst (xs.map .int)] = some (.lst ((sInts xs).map .int)) := by
  show (match ssortD (xs.map D.int) with
    | some ys => some (D.lst ys)
    | none => none) = _
  unfold ssortD
  rw [ints_map]
  simp only
  rw [if_pos ⟨h, h2⟩]
theorem d_ssort0 (xs : List Int) (h : xs.length < 64) : dblt .ssort [.lst (xs.map .int)] = some (.lst ((sInts xs).map .int)) := d_ssort xs (by omega) (Nat.lt_of_le_of_lt (sInts_len xs) h)
/-! ### loops that gather, by what is in the lists -/
theorem forL_accA {α β : Type} {f : En → D → Option Out} (e : α → D) {St : List β → En → Prop} (g : α → List β) (m : Nat) : ∀ (xs : List α) (acc : List β) (env : En), St acc env → acc.length + m * xs.length ≤ 100000 → (∀ x ∈ xs, ∀ acc env, acc.length + m ≤ 100000 → St acc env → ∃ env', f env (e x) = some (.nx env') ∧ St (acc ++ g x) env') → (∀ x ∈ xs, (g x).length ≤ m) →
    ∃ env', forL f (xs.map e) env = some (.nx env') ∧ St (acc ++ xs.flatMap g) env'
  | [], acc, env, h0, _, _, _ => ⟨env, rfl, by simpa using h0⟩
  | x :: r, acc, env, h0, hl, hs, hg => by
    rw [List.length_cons, Nat.mul_add, Nat.mul_one] at hl
    obtain ⟨e1, q1, q2⟩ := hs x List.mem_cons_self acc env (by omega) h0
    have gx := hg x List.mem_cons_self
    obtain ⟨e2, p1, p2⟩ := forL_accA e g m r (acc ++ g x) e1 q2 (by rw [List.length_append]; omega) (fun y hy => hs y (List.mem_cons_of_mem _ hy)) fun y hy => hg y (List.mem_cons_of_mem _ hy)
    refine ⟨e2, ?_, by rw [List.flatMap_cons, ← List.append_assoc]; exact p2⟩
    rw [List.map_cons]
    unfold forL
    rw [q1]
    exact p1
def iR (n : Nat) : List Int := (List.range n).map fun k : Nat => (k : Int)
theorem rngD_iR (n : Nat) : rngD 0 1 n = (iR n).map D.int := by
  unfold rngD iR
  rw [List.map_map]
  refine List.map_congr_left fun k _ => ?_
  show D.int (0 + (k : Int) * 1) = D.int k
  rw [Int.mul_one, Int.zero_add]
theorem iR_mem {n : Nat} {x : Int} : x ∈ iR n ↔ 0 ≤ x ∧ x < n := by
  unfold iR
  rw [List.mem_map]
  constructor
  · rintro ⟨k, hk, rfl⟩
    have := List.mem_range.mp hk
    omega
  · intro h
    exact ⟨x.toNat, List.mem_range.mpr (by omega), by omega⟩
theorem iR_len (n : Nat) : (iR n).length = n := by unfold iR; rw [List.length_map, List.length_range]
/-! ### _law_splits -/
def rowD (r : List Int) : D := .tup (r.map .int)
def spG (ok : Int → Bool) (tot : Int) (r : List Int) : List (List Int) := ((iR (tot - r.sum + 1).toNat).filter ok).map fun x => r ++ [x]
def splR (ok : Int → Bool) (tot : Int) : Nat → List (List Int)
  | 0 => [[]]
  | n + 1 => (splR ok tot n).flatMap (spG ok tot)
def splN (ok : Int → Bool) (tot : Int) (n : Nat) : List (List Int) := (splR ok tot n).filter fun r => decide (r.sum = tot)
theorem spG_sub (ok : Int → Bool) (tot : Int) (r : List Int) : (spG ok tot r).Sublist (spG (fun _ => true) tot r) := by
  unfold spG
  refine List.Sublist.map _ ?_
  have e : (iR (tot - r.sum + 1).toNat).filter (fun _ => true) = iR (tot - r.sum + 1).toNat := by simp
  rw [e]
  exact List.filter_sublist
theorem flat_sub {α β : Type} {g g' : α → List β} (h : ∀ x, (g x).Sublist (g' x)) : ∀ {xs ys : List α}, xs.Sublist ys → (xs.flatMap g).Sublist (ys.flatMap g')
  | _, _, .slnil => List.Sublist.slnil
  | _, _, .cons a s => by rw [List.flatMap_cons]; exact (flat_sub h s).trans (List.sublist_append_right _ _)
  | _, _, .cons_cons a s => by rw [List.flatMap_cons, List.flatMap_cons]; exact (h a).append (flat_sub h s)
theorem splR_sub (ok : Int → Bool) (tot : Int) : ∀ n, (splR ok tot n).Sublist (splR (fun _ => true) tot n)
  | 0 => List.Sublist.refl _
  | n + 1 => flat_sub (spG_sub ok tot) (splR_sub ok tot n)
theorem splR_len (ok : Int → Bool) (tot : Int) (n : Nat) : (splR ok tot n).length ≤ (splR (fun _ => true) tot n).length := (splR_sub ok tot n).length_le
theorem splN_len (ok : Int → Bool) (tot : Int) (n : Nat) : (splN ok tot n).length ≤ (splN (fun _ => true) tot n).length := ((splR_sub ok tot n).filter _).length_le
def okW (t l c : Int) (x : Int) : Bool := (wp t l c x).isSome
theorem sum_app (r : List Int) (x : Int) : (r ++ [x]).sum = r.sum + x := by simp
theorem splR_sum {ok : Int → Bool} {tot : Int} (h0 : 0 ≤ tot) : ∀ {n : Nat} {r : List Int}, r ∈ splR ok tot n → r.sum ≤ tot
  | 0, r, h => by
    cases List.mem_singleton.mp h
    exact h0
  | n + 1, r, h => by
    obtain ⟨q, hq, h⟩ := List.mem_flatMap.mp (show r ∈ (splR ok tot n).flatMap (spG ok tot) from h)
    obtain ⟨x, hx, rfl⟩ := List.mem_map.mp h
    have := iR_mem.mp (List.mem_filter.mp hx).1
    rw [sum_app]; omega
theorem splR_mem {ok : Int → Bool} {tot : Int} : ∀ {n : Nat} {r : List Int}, r ∈ splR ok tot n → r.length = n ∧ ∀ x ∈ r, 0 ≤ x ∧ ok x = true
  | 0, r, h => by
    cases List.mem_singleton.mp h
    exact ⟨rfl, fun x hx => by cases hx⟩
  | n + 1, r, h => by
    obtain ⟨q, hq, h⟩ := List.mem_flatMap.mp (show r ∈ (splR ok tot n).flatMap (spG ok tot) from h)
    obtain ⟨q1, q2⟩ := splR_mem hq
    obtain ⟨x, hx, rfl⟩ := List.mem_map.mp h
    obtain ⟨x1, x2⟩ := List.mem_filter.mp hx
    refine ⟨by simp [q1], fun y hy => ?_⟩
    rcases List.mem_append.mp hy with hy | hy
    · exact q2 y hy
    · cases List.mem_singleton.mp hy
      exact ⟨(iR_mem.mp x1).1, x2⟩
theorem RowS.of {t l c : Int} : ∀ {r : List Int}, (∀ x ∈ r, 0 ≤ x ∧ okW t l c x = true) → RowS t l c r r.sum (r.map (wpv t l c)).sum
  | [], _ => ⟨rfl, rfl⟩
  | x :: r, h => by
    obtain ⟨x0, x1⟩ := h x List.mem_cons_self
    obtain ⟨p, hp⟩ := Option.isSome_iff_exists.mp x1
    refine ⟨p, x0, hp, ?_⟩
    rw [List.map_cons, List.sum_cons, List.sum_cons, wpv, hp, Option.getD_some, show x + r.sum - x = r.sum by omega, show ∀ z : Int, p + z - p = z by intro z; omega]
    exact RowS.of fun y hy => h y (List.mem_cons_of_mem _ hy)
theorem mem_splR {t l c tot : Int} : ∀ {r : List Int}, (∀ x ∈ r, 0 ≤ x ∧ okW t l c x = true) → r.sum ≤ tot → r ∈ splR (okW t l c) tot r.length := by
  intro r
  generalize hn : r.length = n
  intro h hs
  induction n generalizing r with
  | zero => rw [List.length_eq_zero_iff.mp hn]; exact List.mem_singleton_self _
  | succ n ih =>
    have hne : r ≠ [] := fun z => by rw [z] at hn; cases hn
    obtain ⟨q, x, rfl⟩ : ∃ q x, r = q ++ [x] := ⟨r.dropLast, r.getLast hne, (List.dropLast_concat_getLast hne).symm⟩
    obtain ⟨x0, x1⟩ := h x (List.mem_append_right _ List.mem_cons_self)
    rw [sum_app] at hs
    have hq : q.length = n := by rw [List.length_append, List.length_singleton] at hn; omega
    refine List.mem_flatMap.mpr ⟨q, ih hq (fun y hy => h y (List.mem_append_left _ hy)) (by omega), ?_⟩
    exact List.mem_map.mpr ⟨x, List.mem_filter.mpr ⟨iR_mem.mpr ⟨x0, by omega⟩, x1⟩, rfl⟩
theorem splN_S {t l c tot : Int} {n : Nat} {w : Int} : S t l c n tot w ↔ ∃ r ∈ splN (okW t l c) tot n, (r.map (wpv t l c)).sum = w := by
  constructor
  · intro h
    obtain ⟨r, rl, hr⟩ := h.row
    have hm := hr.mem
    have hok : ∀ x ∈ r, 0 ≤ x ∧ okW t l c x = true := fun x hx => by
      obtain ⟨h1, _, p, h3⟩ := hm x hx
      exact ⟨h1, by unfold okW; rw [h3]; rfl⟩
    refine ⟨r, List.mem_filter.mpr ⟨?_, decide_eq_true hr.sum⟩, hr.wsum⟩
    rw [← rl]
    exact mem_splR hok (by rw [hr.sum]; exact Int.le_refl _)
  · rintro ⟨r, hr, rfl⟩
    obtain ⟨h1, h2⟩ := List.mem_filter.mp hr
    obtain ⟨h3, h4⟩ := splR_mem h1
    have h5 := (RowS.of h4).S
    rw [h3, of_decide_eq_true h2] at h5
    exact h5
def slB2 : CSs := match c_law_splits with
  | .cons _ (.cons (.for_ _ _ (.cons _ (.cons (.for_ _ _ (.cons (.for_ _ _ b) _)) _))) _) => b
  | _ => .nil
def slI2 : CIt := .rng1 (.bin .add (.bin .sub (.var 2) (.blt .sum (.cons (.var 6) .nil))) (.cint 1))
def slB1 : CSs := .cons (.for_ (.one 7) slI2 slB2) .nil
def slB0 : CSs := .cons (.asg 5 (.lst .nil)) (.cons (.for_ (.one 6) (.seq (.var 3)) slB1) (.cons (.asg 3 (.var 5)) .nil))
def slR : CE := .lc (.var 6) (.one 6) (.seq (.var 3)) (.cons (.cmp .eq (.blt .sum (.cons (.var 6) .nil)) (.var 2)) .nil) [6]
theorem slC : c_law_splits = .cons (.asg 3 (.lst (.cons (.tup .nil) .nil))) (.cons (.for_ (.one 4) (.rng1 (.var 1)) slB0) (.cons (.ret slR) .nil)) := rfl
theorem flat_if {α β : Type} (p : α → Bool) (f : α → β) : ∀ xs : List α, xs.flatMap (fun x => if p x = true then [f x] else []) = (xs.filter p).map f
  | [] => rfl
  | x :: r => by
    rw [List.flatMap_cons, flat_if p f r]
    cases e : p x with
    | true => rw [List.filter_cons_of_pos e]; simp
    | false => rw [List.filter_cons_of_neg (by rw [e]; decide)]; simp
theorem spG_len (ok : Int → Bool) (tot : Int) (r : List Int) (hs : 0 ≤ r.sum) : (spG ok tot r).length ≤ (tot + 1).toNat := by
  unfold spG
  rw [List.length_map]
  have := List.length_filter_le ok (iR (tot - r.sum + 1).toNat)
  rw [iR_len] at this
  omega
theorem sum_nn : ∀ {r : List Int}, (∀ x ∈ r, 0 ≤ x) → 0 ≤ r.sum
  | [], _ => Int.le_refl _
  | x :: r, h => by
    have := h x List.mem_cons_self
    have := sum_nn (r := r) fun y hy => h y (List.mem_cons_of_mem _ hy)
    rw [List.sum_cons]; omega
section
variable {t l c : Int} (ht : 1 ≤ t) (ht2 : t ≤ 1000) (hl : 1 ≤ l) (hl2 : l ≤ 1000) (hc : 0 ≤ c)
include ht ht2 hl hl2 hc
theorem sl_in (x : Int) (r : List Int) (acc : List (List Int)) (n T rows turn m7 : Option D) (hx : 0 ≤ x) (hr : r.length < 1000) (ha : acc.length < 100000) :
    exs [F_law_won] slB2 [some (rl t l c), n, T, rows, turn, some (.lst (acc.map rowD)), some (.tup (r.map .int)), some (.int x)] =
      some (.nx [some (rl t l c), n, T, rows, turn, some (.lst ((acc ++ (if okW t l c x = true then [r ++ [x]] else [])).map rowD)), some (.tup (r.map .int)), some (.int x)]) := by
  have hw := r_won t l c x ht ht2 hl hl2 hx hc
  have hz : acc.length < sizeLine := Nat.lt_of_lt_of_le ha (by decide)
  have add : dbin .add (.tup (r.map .int)) (.tup [.int x]) = some (rowD (r ++ [x])) := by
    show (if (r.map D.int).length + [D.int x].length ≤ sizeLine then _ else _) = _
    rw [if_pos (by rw [List.length_map]; exact Nat.le_trans (show r.length + 1 ≤ 1000 by omega) (by decide))]
    unfold rowD
    rw [List.map_append] <;> rfl
  cases e : wp t l c x with
  | none =>
    rw [e] at hw
    have ho : okW t l c x = false := by unfold okW; rw [e]; rfl
    simp [slB2, c_law_splits, y_call, hw, optD, ho]
  | some p =>
    rw [e] at hw
    have ho : okW t l c x = true := by unfold okW; rw [e]; rfl
    simp [slB2, c_law_splits, y_call, hw, optD, ho, add, dapp, hz]
theorem sl_row (tot : Int) (r : List Int) (acc : List (List Int)) (n rows turn m7 : Option D) (hr : r.length < 1000) (h0 : 0 ≤ tot) (h1 : tot ≤ 1000) (hs : 0 ≤ r.sum) (hs2 : r.sum ≤ tot) (ha : acc.length + (tot + 1).toNat ≤ 100000) :
    ∃ m7', exs [F_law_won] slB1 [some (rl t l c), n, some (.int tot), rows, turn, some (.lst (acc.map rowD)), some (.tup (r.map .int)), m7] =
      some (.nx [some (rl t l c), n, some (.int tot), rows, turn, some (.lst ((acc ++ spG (okW t l c) tot r).map rowD)), some (.tup (r.map .int)), m7']) := by
  obtain ⟨e', q1, m7', rfl⟩ := forL_accA (f := forF [F_law_won] (.one 7) slB2) D.int (St := fun acc e => ∃ m7, e = [some (rl t l c), n, some (.int tot), rows, turn, some (.lst (acc.map rowD)), some (.tup (r.map .int)), m7])
    (fun x => if okW t l c x = true then [r ++ [x]] else []) 1 (iR (tot - r.sum + 1).toNat) acc _ ⟨m7, rfl⟩ (by rw [iR_len]; omega) (fun x hx acc env ha ⟨m7, he⟩ => by
      subst he
      exact ⟨_, sl_in ht ht2 hl hl2 hc x r acc n (some (.int tot)) rows turn m7 (iR_mem.mp hx).1 hr (by omega), some (.int x), rfl⟩) (fun x _ => by split <;> simp)
  refine ⟨m7', ?_⟩
  have hg : rg1 (.int (tot - r.sum + 1)) = some ((iR (tot - r.sum + 1).toNat).map D.int) := by rw [rg1_mk (by omega) (by omega), rngD_iR]
  have hsum := d_sumt r
  rw [flat_if] at q1
  have e : ((iR (tot - r.sum + 1).toNat).filter (okW t l c)).map (fun x => r ++ [x]) = spG (okW t l c) tot r := rfl
  rw [e] at q1
  generalize spG (okW t l c) tot r = Z at q1 ⊢
  simp [slB1, y_for, slI2, hsum, hg, q1]
theorem sl_lev (tot : Int) (k : Nat) (n turn m5 m6 m7 : Option D) (hk : k < 900) (h0 : 0 ≤ tot) (h1 : tot ≤ 20) (hb : (splR (okW t l c) tot k).length ≤ 1000) :
    ∃ m5' m6' m7', exs [F_law_won] slB0 [some (rl t l c), n, some (.int tot), some (.lst ((splR (okW t l c) tot k).map rowD)), turn, m5, m6, m7] =
      some (.nx [some (rl t l c), n, some (.int tot), some (.lst ((splR (okW t l c) tot (k + 1)).map rowD)), turn, m5', m6', m7']) := by
  have hrow : ∀ r ∈ splR (okW t l c) tot k, 0 ≤ r.sum ∧ r.length < 1000 ∧ r.sum ≤ tot := fun r hr => by
    obtain ⟨q1, q2⟩ := splR_mem hr
    exact ⟨sum_nn fun x hx => (q2 x hx).1, by omega, splR_sum h0 hr⟩
  obtain ⟨e', q1, m6', m7', rfl⟩ := forL_accA (f := forF [F_law_won] (.one 6) slB1) rowD (St := fun acc e => ∃ m6 m7, e = [some (rl t l c), n, some (.int tot), some (.lst ((splR (okW t l c) tot k).map rowD)), turn, some (.lst (acc.map rowD)), m6, m7])
    (spG (okW t l c) tot) (tot + 1).toNat (splR (okW t l c) tot k) [] [some (rl t l c), n, some (.int tot), some (.lst ((splR (okW t l c) tot k).map rowD)), turn, some (.lst ([].map rowD)), m6, m7] ⟨m6, m7, rfl⟩ (by
      have : (tot + 1).toNat * (splR (okW t l c) tot k).length ≤ 21 * 1000 := Nat.mul_le_mul (by omega) hb
      simp only [List.length_nil]; omega) (fun r hr acc env ha ⟨m6, m7, he⟩ => by
      subst he
      obtain ⟨r1, r2, r3⟩ := hrow r hr
      obtain ⟨m7', z⟩ := sl_row ht ht2 hl hl2 hc tot r acc n (some (.lst ((splR (okW t l c) tot k).map rowD))) turn m7 r2 h0 (by omega) r1 r3 ha
      exact ⟨_, z, some (rowD r), m7', rfl⟩) (fun r hr => spG_len _ tot r (hrow r hr).1)
  refine ⟨some (.lst ((splR (okW t l c) tot (k + 1)).map rowD)), m6', m7', ?_⟩
  rw [List.nil_append] at q1
  have e1 : splR (okW t l c) tot (k + 1) = (splR (okW t l c) tot k).flatMap (spG (okW t l c) tot) := rfl
  rw [← e1] at q1
  generalize splR (okW t l c) tot (k + 1) = Z at q1 ⊢
  generalize splR (okW t l c) tot k = Y at q1 ⊢
  rw [List.map_nil] at q1
  simp [slB0, y_for, seq?, q1]
end
theorem run_splits (ds : List D) : F_law_splits.run ds = runF [F_law_won] c_law_splits 8 ds := id rfl
theorem sl_res (tot : Int) (R n m4 m5 m6 m7 : Option D) (Z : List (List Int)) (hz : Z.length ≤ 100000) :
    ev [F_law_won] slR [R, n, some (.int tot), some (.lst (Z.map rowD)), m4, m5, m6, m7] = some (.lst ((Z.filter fun r => decide (r.sum = tot)).map rowD)) := by
  have hlc : lcL (lcF [F_law_won] (.var 6) (.one 6) (.cons (.cmp .eq (.blt .sum (.cons (.var 6) .nil)) (.var 2)) .nil) [6] [R, n, some (.int tot), some (.lst (Z.map rowD)), m4, m5, m6, m7]) (Z.map rowD) = some ((Z.filter fun r => decide (r.sum = tot)).map rowD) := by
    refine lcL_filterA rowD rowD _ fun r hr => ?_
    unfold lcF
    simp only [setT, wipeE]
    have e1 : evC [F_law_won] (.cons (.cmp .eq (.blt .sum (.cons (.var 6) .nil)) (.var 2)) .nil) [R, n, some (.int tot), some (.lst (Z.map rowD)), m4, m5, some (rowD r), m7] = some (decide (r.sum = tot)) := by
      have hs := d_sumt r
      unfold evC
      simp [rowD, hs]
    show (match evC [F_law_won] _ [R, n, some (.int tot), some (.lst (Z.map rowD)), m4, m5, some (rowD r), m7] with
      | none => none
      | some false => some none
      | some true => match ev [F_law_won] (.var 6) [R, n, some (.int tot), some (.lst (Z.map rowD)), m4, m5, some (rowD r), m7] with
        | none => none
        | some y => some (some y)) = _
    rw [e1]
    cases decide (r.sum = tot) <;> rfl
  have hz' : Z.length ≤ sizeLine := Nat.le_trans hz (by decide)
  simp only [slR, y_lc, y_seq, y_var, List.getD_cons_succ, List.getD_cons_zero, Option.bind_some, seq?, hlc, List.length_map, hz', if_true]
theorem splits_end (z tot : Int) (R : D) (xs : List D) (Z : List (List Int)) (hz : Z.length ≤ 100000) (m4 m5 m6 m7 : Option D) (hr : rg1 (.int z) = some xs)
    (q1 : forL (forF [F_law_won] (.one 4) slB0) xs [some R, some (.int z), some (.int tot), some (.lst [.tup []]), none, none, none, none] = some (.nx [some R, some (.int z), some (.int tot), some (.lst (Z.map rowD)), m4, m5, m6, m7])) :
    F_law_splits.run [R, .int z, .int tot] = some (.lst ((Z.filter fun r => decide (r.sum = tot)).map rowD)) := by
  have h := sl_res tot (some R) (some (.int z)) m4 m5 m6 m7 Z hz
  rw [run_splits, y_run, slC]
  simp [y_for, hr, q1, h]
theorem r_splits {t l c : Int} (ht : 1 ≤ t) (ht2 : t ≤ 1000) (hl : 1 ≤ l) (hl2 : l ≤ 1000) (hc : 0 ≤ c) (tot : Int) (n : Nat) (hn : n ≤ 900) (h0 : 0 ≤ tot) (h1 : tot ≤ 20) (hb : ∀ k, k ≤ n → (splR (fun _ => true) tot k).length ≤ 1000) :
    F_law_splits.run [rl t l c, .int (n : Int), .int tot] = some (.lst ((splN (okW t l c) tot n).map rowD)) := by
  have hb' : ∀ k, k ≤ n → (splR (okW t l c) tot k).length ≤ 1000 := fun k hk => Nat.le_trans (splR_len _ _ _) (hb k hk)
  obtain ⟨e', q1, m4, m5, m6, m7, rfl⟩ : ∃ e', forL (forF [F_law_won] (.one 4) slB0) (rngD 0 1 n) [some (rl t l c), some (.int (n : Int)), some (.int tot), some (.lst [.tup []]), none, none, none, none] = some (.nx e') ∧
      ∃ m4 m5 m6 m7, e' = [some (rl t l c), some (.int (n : Int)), some (.int tot), some (.lst ((splR (okW t l c) tot n).map rowD)), m4, m5, m6, m7] := by
    obtain ⟨e', q1, q2⟩ := forL_nx (f := forF [F_law_won] (.one 4) slB0) (fun i e => ∃ m4 m5 m6 m7, e = [some (rl t l c), some (.int (n : Int)), some (.int tot), some (.lst ((splR (okW t l c) tot i).map rowD)), m4, m5, m6, m7]) (rngD 0 1 n) [some (rl t l c), some (.int (n : Int)), some (.int tot), some (.lst [.tup []]), none, none, none, none] 0
      ⟨none, none, none, none, rfl⟩ (fun i e x hx hI => by
        obtain ⟨hi', rfl⟩ := rng_get hx
        obtain ⟨m4, m5, m6, m7, he⟩ := hI
        rw [Nat.zero_add] at he
        subst he
        obtain ⟨m5', m6', m7', z⟩ := sl_lev ht ht2 hl hl2 hc tot i (some (.int (n : Int))) (some (.int (i : Int))) m5 m6 m7 (by omega) h0 h1 (hb' i (by omega))
        exact ⟨_, z, some (.int (i : Int)), m5', m6', m7', by rw [Nat.zero_add]⟩)
    rw [rngD_len, Nat.zero_add] at q2
    exact ⟨e', q1, q2⟩
  have hr : rg1 (.int (n : Int)) = some (rngD 0 1 n) := by
    rw [rg1_mk (by omega) (by omega)]; rfl
  exact splits_end n tot _ _ _ (by have := hb' n (Nat.le_refl _); omega) m4 m5 m6 m7 hr q1
/-- strictly rising, all between -/
theorem rise_range {Y : List Int} {lo hi : Int} (up : Y.Pairwise (fun a b => leI a b = true ∧ a ≠ b)) (h : ∀ x, x ∈ Y ↔ lo ≤ x ∧ x ≤ hi) : Y.length = (hi - lo + 1).toNat := by
  have e : Y = (iR (hi - lo + 1).toNat).map (fun x => lo + x) := by
    refine rise_uniq leI_as up ?_ fun x => ?_
    · rw [List.pairwise_map]
      unfold iR
      rw [List.pairwise_map]
      refine List.pairwise_lt_range.imp fun {a b} hab => ⟨?_, by omega⟩
      unfold leI
      rw [decide_eq_true_iff]
      omega
    · rw [h, List.mem_map]
      constructor
      · intro z; exact ⟨x - lo, iR_mem.mpr (by omega), by omega⟩
      · rintro ⟨y, hy, rfl⟩
        have := iR_mem.mp hy
        omega
  rw [e, List.length_map, iR_len]
theorem rise_head {Y : List Int} {lo hi : Int} (up : Y.Pairwise (fun a b => leI a b = true ∧ a ≠ b)) (h1 : lo ∈ Y) (h2 : ∀ x ∈ Y, lo ≤ x ∧ x ≤ hi) : ∃ r, Y = lo :: r := by
  cases Y with
  | nil => cases h1
  | cons y r =>
    rcases List.mem_cons.mp h1 with e | e
    · exact ⟨r, by rw [e]⟩
    · have a := ((List.pairwise_cons.mp up).1 lo e)
      have b := h2 y List.mem_cons_self
      have := of_decide_eq_true a.1
      exact absurd (show y = lo by omega) a.2
theorem rise_last {Y : List Int} {lo hi : Int} (up : Y.Pairwise (fun a b => leI a b = true ∧ a ≠ b)) (h1 : hi ∈ Y) (h2 : ∀ x ∈ Y, lo ≤ x ∧ x ≤ hi) : ∃ r, Y = r ++ [hi] := by
  have hne : Y ≠ [] := fun z => by rw [z] at h1; cases h1
  obtain ⟨r, y, rfl⟩ : ∃ q x, Y = q ++ [x] := ⟨Y.dropLast, Y.getLast hne, (List.dropLast_concat_getLast hne).symm⟩
  rcases List.mem_append.mp h1 with e | e
  · have a := (List.pairwise_append.mp up).2.2 hi e y List.mem_cons_self
    have b := h2 y (List.mem_append_right _ List.mem_cons_self)
    have := of_decide_eq_true a.1
    exact absurd (show hi = y by omega) a.2
  · exact ⟨r, by rw [List.mem_singleton.mp e]⟩
end Pv

/-! Pm7: what fits totals. -/
namespace Pv
open PySem L2
def c_law_totals : CSs := (CSs.cons (CS.ret (CE.tup (CEs.cons (CE.blt (BF.sum) (CEs.cons (CE.lc (CE.idx (CE.var 1) (CE.cint 0)) (Tg.one 1) (CIt.seq (CE.var 0)) .nil [1]) .nil)) (CEs.cons (CE.blt (BF.sum) (CEs.cons (CE.lc (CE.idx (CE.var 1) (CE.cint 1)) (Tg.one 1) (CIt.seq (CE.var 0)) .nil [1]) .nil)) .nil)))) .nil)
def F_law_totals : Fn := ⟨1, runF [] c_law_totals 2, true⟩
def c_fits : CSs := (CSs.cons (CS.asg 3 (CE.idx (CE.call 0 (CEs.cons (CE.var 0) (CEs.cons (CE.idx (CE.var 1) (CE.cint 0)) (CEs.cons (CE.idx (CE.var 2) (CE.cint 1)) .nil)))) (CE.neg (CE.cint 1)))) (CSs.cons (CS.asg 4 (CE.idx (CE.call 0 (CEs.cons (CE.var 0) (CEs.cons (CE.idx (CE.var 1) (CE.cint 1)) (CEs.cons (CE.idx (CE.var 2) (CE.cint 0)) .nil)))) (CE.neg (CE.cint 1)))) (CSs.cons (CS.asg 5 (CE.lst .nil)) (CSs.cons (CS.for_ (Tg.one 6) (CIt.keys (CE.var 4)) (CSs.cons (CS.for_ (Tg.one 7) (CIt.keys (CE.var 3)) (CSs.cons (CS.asgT [8, 9] (CE.idx (CE.var 3) (CE.var 7))) (CSs.cons (CS.asgT [10, 11] (CE.idx (CE.var 4) (CE.var 6))) (CSs.cons (CS.ife (CE.andd (CE.chain (COp.le) (COp.le) (CE.var 8) (CE.bin (BOp.sub) (CE.idx (CE.var 2) (CE.cint 0)) (CE.var 6)) (CE.var 9)) (CE.chain (COp.le) (COp.le) (CE.var 10) (CE.bin (BOp.sub) (CE.idx (CE.var 2) (CE.cint 1)) (CE.var 7)) (CE.var 11))) (CSs.cons (CS.app 5 (CE.tup (CEs.cons (CE.var 6) (CEs.cons (CE.var 7) .nil)))) .nil) .nil) .nil)))) .nil)) (CSs.cons (CS.ret (CE.blt (BF.sorted) (CEs.cons (CE.var 5) .nil))) .nil)))))
def F_fits : Fn := ⟨3, runF [F_tables] c_fits 12, true⟩
def c_loser_sums : CSs := (CSs.cons (CS.ret (CE.call 0 (CEs.cons (CE.var 0) (CEs.cons (CE.var 1) (CEs.cons (CE.var 2) .nil))))) .nil)
def F_loser_sums : Fn := ⟨3, runF [F_fits] c_loser_sums 3, true⟩
def c_results_for : CSs := (CSs.cons (CS.asg 3 (CE.call 0 (CEs.cons (CE.var 0) (CEs.cons (CE.var 1) (CEs.cons (CE.var 2) .nil))))) (CSs.cons (CS.ife (CE.cmp (COp.eq) (CE.var 3) (CE.lst .nil)) (CSs.cons (CS.ret (CE.cnon)) .nil) .nil) (CSs.cons (CS.asgT [4, 5] (CE.idx (CE.var 3) (CE.cint 0))) (CSs.cons (CS.asg 6 (CE.lc (CE.tup (CEs.cons (CE.call 1 (CEs.cons (CE.var 0) (CEs.cons (CE.var 7) .nil))) (CEs.cons (CE.var 7) .nil))) (Tg.one 7) (CIt.seq (CE.call 2 (CEs.cons (CE.var 0) (CEs.cons (CE.idx (CE.var 1) (CE.cint 0)) (CEs.cons (CE.var 5) (CEs.cons (CE.bin (BOp.sub) (CE.idx (CE.var 2) (CE.cint 0)) (CE.var 4)) .nil)))))) .nil [7])) (CSs.cons (CS.for_ (Tg.one 7) (CIt.seq (CE.call 2 (CEs.cons (CE.var 0) (CEs.cons (CE.idx (CE.var 1) (CE.cint 1)) (CEs.cons (CE.var 4) (CEs.cons (CE.bin (BOp.sub) (CE.idx (CE.var 2) (CE.cint 1)) (CE.var 5)) .nil)))))) (CSs.cons (CS.app 6 (CE.tup (CEs.cons (CE.var 7) (CEs.cons (CE.call 1 (CEs.cons (CE.var 0) (CEs.cons (CE.var 7) .nil))) .nil)))) .nil)) (CSs.cons (CS.ret (CE.blt (BF.tuple) (CEs.cons (CE.var 6) .nil))) .nil))))))
def F_results_for : Fn := ⟨3, runF [F_fits, F_winner_points, F_split] c_results_for 8, true⟩
def c_is_possible : CSs := (CSs.cons (CS.ret (CE.cmp (COp.ne) (CE.call 0 (CEs.cons (CE.var 0) (CEs.cons (CE.var 1) (CEs.cons (CE.var 2) .nil)))) (CE.lst .nil))) .nil)
def F_is_possible : Fn := ⟨3, runF [F_fits] c_is_possible 3, true⟩
def c_possible_sets : CSs := (CSs.cons (CS.asg 3 (CE.lst .nil)) (CSs.cons (CS.for_ (Tg.one 4) (CIt.rng1 (CE.var 1)) (CSs.cons (CS.asg 3 (CE.bin (BOp.add) (CE.var 3) (CE.lc (CE.var 5) (Tg.one 5) (CIt.seq (CE.lst (CEs.cons (CE.tup (CEs.cons (CE.var 1) (CEs.cons (CE.var 4) .nil))) (CEs.cons (CE.tup (CEs.cons (CE.var 4) (CEs.cons (CE.var 1) .nil))) .nil)))) (CEs.cons (CE.call 0 (CEs.cons (CE.var 0) (CEs.cons (CE.var 5) (CEs.cons (CE.var 2) .nil)))) .nil) [5]))) .nil)) (CSs.cons (CS.ret (CE.blt (BF.sorted) (CEs.cons (CE.var 3) .nil))) .nil)))
def F_possible_sets : Fn := ⟨3, runF [F_is_possible] c_possible_sets 6, true⟩
/-! ### fits -/
theorem wp_pos {t l c x p : Int} (ht : 1 ≤ t) (h0 : 0 ≤ c) (h : wp t l c x = some p) : 1 ≤ p := by
  obtain ⟨h1, h2⟩ := wp_iff.mp h
  split at h2 <;> omega
theorem S_wn {t l c : Int} (ht : 1 ≤ t) (h0 : 0 ≤ c) : ∀ {k : Nat} {s w : Int}, S t l c k s w → 0 ≤ w
  | 0, s, w, h => by rw [h.2]; exact Int.le_refl _
  | k + 1, s, w, ⟨x, p, h1, h2, h3⟩ => by
    have := S_wn ht h0 h3
    have := wp_pos ht h0 h2
    omega
/-- points in lost sets that fit the totals -/
def Fit (t l c : Int) (a b : Nat) (T1 T2 own other : Int) : Prop := S t l c a other (T1 - own) ∧ S t l c b own (T2 - other)
theorem Fit.swap {t l c : Int} {a b : Nat} {T1 T2 own other : Int} : Fit t l c a b T1 T2 own other ↔ Fit t l c b a T2 T1 other own := ⟨fun h => ⟨h.2, h.1⟩, fun h => ⟨h.2, h.1⟩⟩
theorem idx_tb {d : Tb} {x : Int} {v : Int × Int} (h : tget d x = some v) : didx (tbD d) (.int x) = some (pr v.1 v.2) := by
  show (match some (getA (d.map tbE) (Sum.inl x : Key)) with
    | some (some v) => some v
    | _ => none) = _
  rw [getA_tb, h]
  rfl
theorem keys_tb (d : Tb) : keysD (tbD d) = some ((d.map (·.1)).map D.int) := by
  show some ((d.map tbE).map fun kv => kD kv.1) = _
  rw [List.map_map, List.map_map] <;> rfl
def ftB2 : CSs := match c_fits with
  | .cons _ (.cons _ (.cons _ (.cons (.for_ _ _ (.cons (.for_ _ _ b) _)) _))) => b
  | _ => .nil
def ftB1 : CSs := .cons (.for_ (.one 7) (.keys (.var 3)) ftB2) .nil
theorem ftC : c_fits = .cons (.asg 3 (.idx (.call 0 (.cons (.var 0) (.cons (.idx (.var 1) (.cint 0)) (.cons (.idx (.var 2) (.cint 1)) .nil)))) (.neg (.cint 1)))) (.cons (.asg 4 (.idx (.call 0 (.cons (.var 0) (.cons (.idx (.var 1) (.cint 1)) (.cons (.idx (.var 2) (.cint 0)) .nil)))) (.neg (.cint 1))))
    (.cons (.asg 5 (.lst .nil)) (.cons (.for_ (.one 6) (.keys (.var 4)) ftB1) (.cons (.ret (.blt .sorted (.cons (.var 5) .nil))) .nil)))) := rfl
def ftOk (d e : Tb) (T1 T2 own other : Int) : Bool := match tget d other, tget e own with
  | some v, some u => decide (v.1 ≤ T1 - own ∧ T1 - own ≤ v.2) && decide (u.1 ≤ T2 - other ∧ T2 - other ≤ u.2)
  | _, _ => false
theorem ft_in (d e : Tb) (T1 T2 own other : Int) (m0 m1 m8 m9 m10 m11 : Option D) (acc : List (Int × Int)) (ha : acc.length < 100000) (h1 : other ∈ d.map (·.1)) (h2 : own ∈ e.map (·.1)) (nd : (d.map (·.1)).Nodup) (nd2 : (e.map (·.1)).Nodup) :
    ∃ m8' m9' m10' m11', exs [F_tables] ftB2 [m0, m1, some (pr T1 T2), some (tbD d), some (tbD e), some (.lst (acc.map prD)), some (.int own), some (.int other), m8, m9, m10, m11] =
      some (.nx [m0, m1, some (pr T1 T2), some (tbD d), some (tbD e), some (.lst ((acc ++ (if ftOk d e T1 T2 own other = true then [(own, other)] else [])).map prD)), some (.int own), some (.int other), m8', m9', m10', m11']) := by
  obtain ⟨⟨k1, v⟩, hv, rfl⟩ := List.mem_map.mp h1
  obtain ⟨⟨k2, u⟩, hu, rfl⟩ := List.mem_map.mp h2
  have g1 := mem_tget nd hv
  have g2 := mem_tget nd2 hu
  have i1 := idx_tb g1
  have i2 := idx_tb g2
  obtain ⟨v1, v2⟩ := v
  obtain ⟨u1, u2⟩ := u
  have t0 : didx (pr T1 T2) (.int 0) = some (.int T1) := rfl
  have t1 : didx (pr T1 T2) (.int 1) = some (.int T2) := rfl
  have hz : acc.length < sizeLine := Nat.lt_of_lt_of_le ha (by decide)
  have hk : ftOk d e T1 T2 k2 k1 = (decide (v1 ≤ T1 - k2 ∧ T1 - k2 ≤ v2) && decide (u1 ≤ T2 - k1 ∧ T2 - k1 ≤ u2)) := by unfold ftOk; rw [g1, g2]
  have pd : prD (k2, k1) = .tup [.int k2, .int k1] := rfl
  refine ⟨some (.int v1), some (.int v2), some (.int u1), some (.int u2), ?_⟩
  simp only [hk]
  generalize tbD d = D1 at *
  generalize tbD e = D2 at *
  by_cases c1 : v1 ≤ T1 - k2 <;> by_cases c2 : T1 - k2 ≤ v2 <;> by_cases c3 : u1 ≤ T2 - k1 <;> by_cases c4 : T2 - k1 ≤ u2 <;> simp [ftB2, c_fits, i1, i2, pr, setM, t0, t1, c1, c2, c3, c4, dapp, hz, pd]
theorem ft_row (d e : Tb) (T1 T2 own : Int) (m0 m1 m7 m8 m9 m10 m11 : Option D) (acc : List (Int × Int)) (hd : d.length ≤ 300) (ha : acc.length + 300 ≤ 100000) (h2 : own ∈ e.map (·.1)) (nd : (d.map (·.1)).Nodup) (nd2 : (e.map (·.1)).Nodup) :
    ∃ m7' m8' m9' m10' m11', exs [F_tables] ftB1 [m0, m1, some (pr T1 T2), some (tbD d), some (tbD e), some (.lst (acc.map prD)), some (.int own), m7, m8, m9, m10, m11] =
      some (.nx [m0, m1, some (pr T1 T2), some (tbD d), some (tbD e), some (.lst ((acc ++ ((d.map (·.1)).filter (ftOk d e T1 T2 own)).map fun x => (own, x)).map prD)), some (.int own), m7', m8', m9', m10', m11']) := by
  obtain ⟨e', q1, m7', m8', m9', m10', m11', rfl⟩ := forL_accA (f := forF [F_tables] (.one 7) ftB2) D.int (St := fun acc e' => ∃ m7 m8 m9 m10 m11, e' = [m0, m1, some (pr T1 T2), some (tbD d), some (tbD e), some (.lst (acc.map prD)), some (.int own), m7, m8, m9, m10, m11])
    (fun x => if ftOk d e T1 T2 own x = true then [(own, x)] else []) 1 (d.map (·.1)) acc [m0, m1, some (pr T1 T2), some (tbD d), some (tbD e), some (.lst (acc.map prD)), some (.int own), m7, m8, m9, m10, m11] ⟨m7, m8, m9, m10, m11, rfl⟩ (by rw [List.length_map]; omega) (fun x hx acc env ha ⟨m7, m8, m9, m10, m11, he⟩ => by
      subst he
      obtain ⟨m8', m9', m10', m11', z⟩ := ft_in d e T1 T2 own x m0 m1 m8 m9 m10 m11 acc (by omega) hx h2 nd nd2
      exact ⟨_, z, some (.int x), m8', m9', m10', m11', rfl⟩) (fun x _ => by split <;> simp)
  refine ⟨m7', m8', m9', m10', m11', ?_⟩
  rw [flat_if] at q1
  have hk : evI [F_tables] (.keys (.var 3)) [m0, m1, some (pr T1 T2), some (tbD d), some (tbD e), some (.lst (acc.map prD)), some (.int own), m7, m8, m9, m10, m11] = some ((d.map (·.1)).map D.int) := by
    rw [y_keys, y_var]
    exact keys_tb d
  rw [ftB1, y_scons, y_for, hk, Option.bind_some, q1]
  rfl
theorem Tab.len {t l c tot : Int} {k : Nat} {d : Tb} (T : Tab t l c k tot d) (h : 0 ≤ tot) : d.length ≤ (tot + 1).toNat := by
  have := nodup_len (tot + 1).toNat (d.map (·.1)) T.nd fun x hx => by
    obtain ⟨⟨k, lo, hi⟩, hm, rfl⟩ := List.mem_map.mp hx
    obtain ⟨h1, h2, _⟩ := T.at_ _ _ _ (mem_tget T.nd hm)
    exact ⟨h1, by show k < _; omega⟩
  rwa [List.length_map] at this
theorem isB_nd {ps : List (Int × Int)} (nd : ps.Nodup) : (isB leP ps).Pairwise (fun a b => leP a b = true ∧ a ≠ b) :=
  (isB_sorted leP_tot leP_tr ps).and ((isB_perm ps).nodup_iff.mpr nd)
theorem prs_map : ∀ ps : List (Int × Int), prs? (ps.map prD) = some ps
  | [] => rfl
  | (a, b) :: r => by
    show (match prs? (r.map prD) with
      | some ps => some ((a, b) :: ps)
      | none => none) = _
    rw [prs_map r]
theorem p2D_prD : p2D = prD := rfl
theorem d_sortP (ps : List (Int × Int)) : sortD (ps.map prD) = some ((isB leP ps).map prD) := by
  cases ps with
  | nil => rfl
  | cons p r =>
    unfold sortD
    have : ints? ((p :: r).map prD) = none := rfl
    rw [this, prs_map, p2D_prD]
theorem d_sortPl (ps : List (Int × Int)) : dblt .sorted [.lst (ps.map prD)] = some (.lst ((isB leP ps).map prD)) := by
  show (match sortD (ps.map prD) with
    | some ys => some (D.lst ys)
    | none => match rowsOk (pyL (ps.map prD)) with
      | true => some (D.lst (ps.map prD))
      | false => none) = _
  rw [d_sortP]
theorem run_fits (ds : List D) : F_fits.run ds = runF [F_tables] c_fits 12 ds := id rfl
@[simp] theorem ar_fits : F_fits.ar = 3 := id rfl
theorem fits_end (z1 z2 T1 T2 : Int) (R tl1 tl2 d e : D) (ks os : List D) (v : D) (h1 : F_tables.run [R, .int z1, .int T2] = some tl1) (h2 : F_tables.run [R, .int z2, .int T1] = some tl2) (g1 : didx tl1 (.int (-1)) = some d) (g2 : didx tl2 (.int (-1)) = some e) (hk : keysD e = some ks) (m6 m7 m8 m9 m10 m11 : Option D)
    (q1 : forL (forF [F_tables] (.one 6) ftB1) ks [some R, some (pr z1 z2), some (pr T1 T2), some d, some e, some (.lst []), none, none, none, none, none, none] = some (.nx [some R, some (pr z1 z2), some (pr T1 T2), some d, some e, some (.lst os), m6, m7, m8, m9, m10, m11]))
    (hs : dblt .sorted [.lst os] = some v) : F_fits.run [R, pr z1 z2, pr T1 T2] = some v := by
  have t0 : didx (pr T1 T2) (.int 0) = some (.int T1) := rfl
  have t1 : didx (pr T1 T2) (.int 1) = some (.int T2) := rfl
  have s0 : didx (pr z1 z2) (.int 0) = some (.int z1) := rfl
  have s1 : didx (pr z1 z2) (.int 1) = some (.int z2) := rfl
  rw [run_fits, y_run, ftC]
  simp [y_for, y_call, h1, h2, g1, g2, t0, t1, s0, s1, y_keys, hk, q1, hs]
/-- what fits tells -/
structure FitL (t l c : Int) (a b : Nat) (T1 T2 : Int) (L : List (Int × Int)) : Prop where
  up : L.Pairwise (fun x y => leP x y = true ∧ x ≠ y)
  mem : ∀ own other, (own, other) ∈ L ↔ Fit t l c a b T1 T2 own other
theorem r_fits (t l c T1 T2 : Int) (a b : Nat) (ht : 1 ≤ t) (hc : 0 ≤ c) (ha : a ≤ 900) (hb : b ≤ 900) (h1 : 0 ≤ T1) (h2 : 0 ≤ T2) (u1 : T1 ≤ 250) (u2 : T2 ≤ 250) :
    ∃ L, FitL t l c a b T1 T2 L ∧ F_fits.run [rl t l c, pr (a : Int) (b : Int), pr T1 T2] = some (.lst (L.map prD)) := by
  obtain ⟨ts1, TT1, r1⟩ := r_tables t l c T2 a ha h2 (by omega)
  obtain ⟨ts2, TT2, r2⟩ := r_tables t l c T1 b hb h1 (by omega)
  obtain ⟨d, D1, g1⟩ := TT1.last
  obtain ⟨e, D2, g2⟩ := TT2.last
  have dl := D1.len h2
  have el := D2.len h1
  let G : Int → List (Int × Int) := fun own => ((d.map (·.1)).filter (ftOk d e T1 T2 own)).map fun x => (own, x)
  have gl : ∀ own, (G own).length ≤ 300 := fun own => by
    show (((d.map (·.1)).filter (ftOk d e T1 T2 own)).map fun x => (own, x)).length ≤ 300
    rw [List.length_map]
    have := List.length_filter_le (ftOk d e T1 T2 own) (d.map (·.1))
    rw [List.length_map] at this
    omega
  obtain ⟨e', q1, m6, m7, m8, m9, m10, m11, rfl⟩ := forL_accA (f := forF [F_tables] (.one 6) ftB1) D.int (St := fun acc e' => ∃ m6 m7 m8 m9 m10 m11, e' = [some (rl t l c), some (pr (a : Int) (b : Int)), some (pr T1 T2), some (tbD d), some (tbD e), some (.lst (acc.map prD)), m6, m7, m8, m9, m10, m11])
    G 300 (e.map (·.1)) [] [some (rl t l c), some (pr (a : Int) (b : Int)), some (pr T1 T2), some (tbD d), some (tbD e), some (.lst []), none, none, none, none, none, none] ⟨none, none, none, none, none, none, rfl⟩ (by
      rw [List.length_map, List.length_nil]
      have : 300 * e.length ≤ 300 * 251 := Nat.mul_le_mul (Nat.le_refl _) (by omega)
      omega) (fun x hx acc env ha ⟨m6, m7, m8, m9, m10, m11, he⟩ => by
      subst he
      obtain ⟨m7', m8', m9', m10', m11', z⟩ := ft_row d e T1 T2 x (some (rl t l c)) (some (pr (a : Int) (b : Int))) m7 m8 m9 m10 m11 acc (by omega) ha hx D1.nd D2.nd
      exact ⟨_, z, some (.int x), m7', m8', m9', m10', m11', rfl⟩) (fun x _ => gl x)
  rw [List.nil_append] at q1
  have hnd : ((e.map (·.1)).flatMap G).Nodup := by
    refine List.pairwise_flatMap.mpr ⟨fun x hx => ?_, D2.nd.imp fun {x y} hxy p hp q hq => ?_⟩
    · refine List.pairwise_map.mpr ((D1.nd.filter _).imp fun {u v} huv z => ?_)
      exact huv (Prod.ext_iff.mp z).2
    · obtain ⟨u, _, rfl⟩ := List.mem_map.mp hp
      obtain ⟨v, _, rfl⟩ := List.mem_map.mp hq
      intro z
      exact hxy (Prod.ext_iff.mp z).1
  have hmem : ∀ own other, (own, other) ∈ (e.map (·.1)).flatMap G ↔ Fit t l c a b T1 T2 own other := fun own other => by
    rw [List.mem_flatMap]
    constructor
    · rintro ⟨x, hx, hp⟩
      obtain ⟨y, hy, z⟩ := List.mem_map.mp hp
      cases z
      obtain ⟨hy1, hy2⟩ := List.mem_filter.mp hy
      unfold ftOk at hy2
      cases e1 : tget d other with
      | none => rw [e1] at hy2; cases hy2
      | some v =>
        cases e2 : tget e own with
        | none => rw [e1, e2] at hy2; cases hy2
        | some u =>
          rw [e1, e2] at hy2
          simp only [Bool.and_eq_true, decide_eq_true_iff] at hy2
          obtain ⟨v1, v2⟩ := v
          obtain ⟨u1, u2⟩ := u
          obtain ⟨_, _, a3, a4, _⟩ := D1.at_ _ _ _ e1
          obtain ⟨_, _, b3, b4, _⟩ := D2.at_ _ _ _ e2
          exact ⟨S_gap a3 a4 _ hy2.1.1 hy2.1.2, S_gap b3 b4 _ hy2.2.1 hy2.2.2⟩
    · rintro ⟨z1, z2⟩
      have w1 := S_wn ht hc z1
      have w2 := S_wn ht hc z2
      have n1 := D1.has _ _ z1 (by omega)
      have n2 := D2.has _ _ z2 (by omega)
      cases e1 : tget d other with
      | none => exact absurd e1 n1
      | some v =>
        cases e2 : tget e own with
        | none => exact absurd e2 n2
        | some u =>
          obtain ⟨v1, v2⟩ := v
          obtain ⟨u1, u2⟩ := u
          have a5 := (D1.at_ _ _ _ e1).2.2.2.2 _ z1
          have b5 := (D2.at_ _ _ _ e2).2.2.2.2 _ z2
          refine ⟨own, List.mem_map.mpr ⟨_, tget_mem e2, rfl⟩, List.mem_map.mpr ⟨other, List.mem_filter.mpr ⟨List.mem_map.mpr ⟨_, tget_mem e1, rfl⟩, ?_⟩, rfl⟩⟩
          unfold ftOk
          rw [e1, e2]
          simp only [Bool.and_eq_true, decide_eq_true_iff]
          exact ⟨a5, b5⟩
  generalize (e.map (·.1)).flatMap G = L0 at *
  refine ⟨isB leP L0, ⟨isB_nd hnd, fun own other => by rw [(isB_perm L0).mem_iff]; exact hmem own other⟩, ?_⟩
  generalize (a : Int) = za at *
  generalize (b : Int) = zb at *
  exact fits_end za zb T1 T2 _ _ _ _ _ _ _ _ r1 r2 g1 g2 (keys_tb e) m6 m7 m8 m9 m10 m11 q1 (d_sortPl L0)
/-! ### is_possible, loser_sums -/
theorem run_possible (ds : List D) : F_is_possible.run ds = runF [F_fits] c_is_possible 3 ds := id rfl
theorem run_lsums (ds : List D) : F_loser_sums.run ds = runF [F_fits] c_loser_sums 3 ds := id rfl
@[simp] theorem ar_possible : F_is_possible.ar = 3 := id rfl
@[simp] theorem ar_lsums : F_loser_sums.ar = 3 := id rfl
theorem plain_prs (L : List (Int × Int)) : ∀ d ∈ L.map prD, plainR d = true := fun d hd => by
  obtain ⟨p, _, rfl⟩ := List.mem_map.mp hd
  rfl
theorem prD_inj : ∀ {L M : List (Int × Int)}, L.map prD = M.map prD → L = M
  | [], [], _ => rfl
  | [], _ :: _, h => by cases h
  | _ :: _, [], h => by cases h
  | (a, b) :: r, (x, y) :: s, h => by
    rw [List.map_cons, List.map_cons] at h
    have h1 := (List.cons.inj h).1
    have h2 := prD_inj (List.cons.inj h).2
    have h3 : (D.tup [.int a, .int b]) = .tup [.int x, .int y] := h1
    injection h3 with h3
    injection h3 with h4 h5
    injection h5 with h5 _
    injection h4 with h4
    injection h5 with h5
    rw [h2, h4, h5]
theorem deq_prs (L M : List (Int × Int)) : dcmp .eq (.lst (L.map prD)) (.lst (M.map prD)) = some (decide (L = M)) := by
  obtain ⟨k, q1, q2⟩ := deq_rowsL (plain_prs L) (plain_prs M)
  show deq _ _ = _
  rw [q1]
  congr 1
  by_cases h : L = M
  · rw [decide_eq_true h, q2.mpr (by rw [h])]
  · rw [decide_eq_false h]
    cases k with
    | false => rfl
    | true => exact absurd (prD_inj (q2.mp rfl)) h
theorem possible_end (A B C : D) (L : List (Int × Int)) (h : F_fits.run [A, B, C] = some (.lst (L.map prD))) : F_is_possible.run [A, B, C] = some (.bl (!decide (L = []))) := by
  have h2 := ne_of_eq (deq_prs L [])
  rw [List.map_nil] at h2
  rw [run_possible, y_run]
  generalize L.map prD = Z at h h2
  simp [c_is_possible, y_call, h, h2]
def isPos (t l c : Int) (a b : Nat) (T1 T2 : Int) : Prop := ∃ own other, Fit t l c a b T1 T2 own other
theorem isPos.swap {t l c : Int} {a b : Nat} {T1 T2 : Int} : isPos t l c a b T1 T2 ↔ isPos t l c b a T2 T1 :=
  ⟨fun ⟨x, y, h⟩ => ⟨y, x, Fit.swap.mp h⟩, fun ⟨x, y, h⟩ => ⟨y, x, Fit.swap.mp h⟩⟩
theorem FitL.pos {t l c : Int} {a b : Nat} {T1 T2 : Int} {L : List (Int × Int)} (F : FitL t l c a b T1 T2 L) : (!decide (L = [])) = true ↔ isPos t l c a b T1 T2 := by
  rw [Bool.not_eq_true', decide_eq_false_iff_not]
  constructor
  · intro h
    cases L with
    | nil => exact absurd rfl h
    | cons p r => exact ⟨p.1, p.2, (F.mem _ _).mp List.mem_cons_self⟩
  · rintro ⟨x, y, h⟩ z
    rw [z] at F
    cases (F.mem _ _).mpr h
theorem r_possible (t l c T1 T2 : Int) (a b : Nat) (ht : 1 ≤ t) (hc : 0 ≤ c) (ha : a ≤ 900) (hb : b ≤ 900) (h1 : 0 ≤ T1) (h2 : 0 ≤ T2) (u1 : T1 ≤ 250) (u2 : T2 ≤ 250) :
    ∃ k : Bool, (k = true ↔ isPos t l c a b T1 T2) ∧ F_is_possible.run [rl t l c, pr (a : Int) (b : Int), pr T1 T2] = some (.bl k) := by
  obtain ⟨L, F, h⟩ := r_fits t l c T1 T2 a b ht hc ha hb h1 h2 u1 u2
  exact ⟨_, F.pos, possible_end _ _ _ L h⟩
theorem lsums_end (A B C v : D) (h : F_fits.run [A, B, C] = some v) : F_loser_sums.run [A, B, C] = some v := by
  rw [run_lsums, y_run]
  simp [c_loser_sums, y_call, h]
/-! ### random rows, exactly -/
theorem ne_sf : ¬ second = first := by
  intro h
  have := eq_sf
  rw [h, eq_ff] at this
  cases this
theorem row_step2 (t l c most g : Int) (A B : D) (s1 m7 m8 : Option D) (s : D) (ps : List (Int × Int)) (hs : s = first ∨ s = second) (ht : 1 ≤ t) (ht2 : t ≤ 100) (hl : 1 ≤ l) (hl2 : l ≤ 100) (hc : 0 ≤ c) (hm : 0 ≤ most) (hm2 : most ≤ 800) (hz : ps.length + 1 ≤ 1000) :
    ∃ x w m7' m8', 0 ≤ x ∧ x ≤ most ∧ wp t l c x = some w ∧ (s = first → exs [F_law_won] rowB [some A, some (rl t l c), some B, some (.int most), some (.tup (ps.map prD)), some s, some (.int g), m7, m8] = some (.nx [some A, some (rl t l c), some B, some (.int most), some (.tup ((ps ++ [(w, x)]).map prD)), some s, some (.int g), m7', m8'])) ∧ (s = second → exs [F_law_won] rowB [some A, some (rl t l c), some B, some (.int most), some (.tup (ps.map prD)), some s, some (.int g), m7, m8] = some (.nx [some A, some (rl t l c), some B, some (.int most), some (.tup ((ps ++ [(x, w)]).map prD)), some s, some (.int g), m7', m8'])) := by
  have g1 := Int.emod_nonneg g (show 1 + most ≠ 0 by omega)
  have g2 := Int.emod_lt_of_pos g (show 0 < 1 + most by omega)
  have hp : 0 < 1 + most := by omega
  generalize hx0 : g % (1 + most) = x0 at g1 g2
  generalize hx1 : (if 0 < c then min x0 (c - 1) else x0) = x1
  generalize hx2 : (if l = 1 then min x1 (t - 1) else x1) = x2
  have b1 : 0 ≤ x1 ∧ x1 ≤ x0 ∧ (0 < c → x1 < c) := by rw [← hx1]; split <;> omega
  have b2 : 0 ≤ x2 ∧ x2 ≤ x1 ∧ (l = 1 → x2 < t) := by rw [← hx2]; split <;> omega
  have hw : ∃ w, wp t l c x2 = some w := by
    unfold wp
    rw [if_neg (by omega)]
    exact ⟨_, rfl⟩
  obtain ⟨w, hw⟩ := hw
  obtain ⟨w1, w2⟩ := wp_lt hw hl
  have rw_ := r_won t l c x2 ht (by omega) hl (by omega) b2.1 hc
  rw [hw] at rw_
  have hz' : ps.length + 1 ≤ sizeLine := Nat.le_trans hz (by decide)
  have i1 : didx (rl t l c) (.int 1) = some (.int l) := rfl
  have i2 : didx (rl t l c) (.int 2) = some (.int c) := rfl
  have i0 : didx (rl t l c) (.int 0) = some (.int t) := rfl
  have add : ∀ d : D, dbin .add (.tup (ps.map prD)) (.tup [d]) = some (.tup (ps.map prD ++ [d])) := fun d => by
    show (if (ps.map prD).length + [d].length ≤ sizeLine then _ else _) = _
    rw [if_pos (by rw [List.length_map]; exact hz')]
  have fin : ∀ q1 q2 : D, ∀ s0 : D, ∀ dd, dcmp .eq s (.str "first") = some dd → (if dd = true then (D.tup [.int w, .int x2]) else .tup [.int x2, .int w]) = s0 → exs [F_law_won] rowB [some A, some (rl t l c), some B, some (.int most), some (.tup (ps.map prD)), some s, some (.int g), m7, m8] = some (.nx [some A, some (rl t l c), some B, some (.int most), some (.tup (ps.map prD ++ [s0])), some s, some (.int g), some (.int x2), some (.int w)]) := fun q1 q2 s0 dd hd h0 => by
    by_cases h1 : 0 < c <;> by_cases h2 : l = 1
    · simp only [h1, h2, if_true] at hx1 hx2
      subst h2
      simp [rowB, c_law_random_row, hp, hx0, i0, i1, i2, h1, hx1, hx2, y_call, rw_, optD, hd, add]
      cases dd <;> simp [← h0, add]
    · simp only [h1, h2, if_true, if_false] at hx1 hx2
      simp [rowB, c_law_random_row, hp, hx0, i0, i1, i2, h1, h2, hx1, hx2, y_call, rw_, optD, hd, add]
      cases dd <;> simp [← h0, add]
    · simp only [h1, h2, if_true, if_false] at hx1 hx2
      subst h2
      simp [rowB, c_law_random_row, hp, hx0, i0, i1, i2, h1, hx1, hx2, y_call, rw_, optD, hd, add]
      cases dd <;> simp [← h0, add]
    · simp only [h1, h2, if_true, if_false] at hx1 hx2
      simp [rowB, c_law_random_row, hp, hx0, i0, i1, i2, h1, h2, hx1, hx2, y_call, rw_, optD, hd, add]
      cases dd <;> simp [← h0, add]
  refine ⟨x2, w, some (.int x2), some (.int w), b2.1, by omega, hw, fun z => ?_, fun z => ?_⟩
  · subst z
    rw [fin .non .non _ true eq_ff rfl, List.map_append]
    rfl
  · subst z
    rw [fin .non .non _ false eq_sf rfl, List.map_append]
    rfl
def sideD (b : Bool) : D := if b = true then first else second
/-- the result of a loser's points -/
def resP (t l c : Int) (b : Bool) (x : Int) : Int × Int := if b = true then (wpv t l c x, x) else (x, wpv t l c x)
def rowP (t l c : Int) : List Bool → List Int → List (Int × Int)
  | b :: bs, x :: xs => resP t l c b x :: rowP t l c bs xs
  | _, _ => []
theorem rowP_snoc {t l c : Int} : ∀ {bs : List Bool} {xs : List Int} {b : Bool} {x : Int}, bs.length = xs.length → rowP t l c (bs ++ [b]) (xs ++ [x]) = rowP t l c bs xs ++ [resP t l c b x]
  | [], [], b, x, _ => rfl
  | [], _ :: _, _, _, h => by cases h
  | _ :: _, [], _, _, h => by cases h
  | b' :: bs, x' :: xs, b, x, h => by
    show resP t l c b' x' :: rowP t l c (bs ++ [b]) (xs ++ [x]) = resP t l c b' x' :: (rowP t l c bs xs ++ [resP t l c b x])
    rw [rowP_snoc (by simpa using h)]
theorem rowP_len {t l c : Int} : ∀ {bs : List Bool} {xs : List Int}, bs.length = xs.length → (rowP t l c bs xs).length = bs.length
  | [], [], _ => rfl
  | [], _ :: _, h => by cases h
  | _ :: _, [], h => by cases h
  | b' :: bs, x' :: xs, h => by
    show (rowP t l c bs xs).length + 1 = bs.length + 1
    rw [rowP_len (by simpa using h)]
theorem r_row2 (t l c most : Int) (ds : List Int) (bs : List Bool) (ht : 1 ≤ t) (ht2 : t ≤ 100) (hl : 1 ≤ l) (hl2 : l ≤ 100) (hc : 0 ≤ c) (hm : 0 ≤ most) (hm2 : most ≤ 800) (hz : bs.length ≤ 900) (hd : bs.length ≤ ds.length) :
    ∃ xs : List Int, xs.length = bs.length ∧ (∀ x ∈ xs, (0 ≤ x ∧ okW t l c x = true) ∧ x ≤ most) ∧ F_law_random_row.run [.lst (ds.map .int), rl t l c, .lst (bs.map sideD), .int most] = some (.tup ((rowP t l c bs xs).map prD)) := by
  have hws : ∀ b : Bool, sideD b = first ∨ sideD b = second := fun b => by cases b; exact .inr rfl; exact .inl rfl
  obtain ⟨e', q1, xs, m5, m6, m7, m8, p1, p2, rfl⟩ : ∃ e', forL (forF [F_law_won] (.many [5, 6]) rowB) (zipD (bs.map sideD) (ds.map .int)) [some (.lst (ds.map .int)), some (rl t l c), some (.lst (bs.map sideD)), some (.int most), some (.tup []), none, none, none, none] = some (.nx e') ∧
      ∃ (xs : List Int) (m5 m6 m7 m8 : Option D), xs.length = bs.length ∧ (∀ x ∈ xs, (0 ≤ x ∧ okW t l c x = true) ∧ x ≤ most) ∧ e' = [some (.lst (ds.map .int)), some (rl t l c), some (.lst (bs.map sideD)), some (.int most), some (.tup ((rowP t l c bs xs).map prD)), m5, m6, m7, m8] := by
    have hzl : (zipD (bs.map sideD) (ds.map .int)).length = bs.length := by rw [zipD_len, List.length_map, List.length_map]; omega
    obtain ⟨e', q1, xs, m5, m6, m7, m8, q2, q3, q4⟩ := forL_nx (f := forF [F_law_won] (.many [5, 6]) rowB) (fun i e => ∃ (xs : List Int) (m5 m6 m7 m8 : Option D), xs.length = i ∧ (∀ x ∈ xs, (0 ≤ x ∧ okW t l c x = true) ∧ x ≤ most) ∧ e = [some (.lst (ds.map .int)), some (rl t l c), some (.lst (bs.map sideD)), some (.int most), some (.tup ((rowP t l c (bs.take i) xs).map prD)), m5, m6, m7, m8]) (zipD (bs.map sideD) (ds.map .int)) _ 0
      ⟨[], none, none, none, none, rfl, fun p hp => (by cases hp), rfl⟩ (fun i e x hx hI => by
        obtain ⟨xs, m5, m6, m7, m8, h1, h2, he⟩ := hI
        rw [Nat.zero_add] at h1 he
        subst he
        obtain ⟨s, g, e1, e2, rfl⟩ := zipD_get _ _ _ _ hx
        rw [List.getElem?_map] at e1 e2
        cases e0 : bs[i]? with
        | none => rw [e0] at e1; cases e1
        | some b =>
          rw [e0] at e1
          cases e1
          cases e3 : ds[i]? with
          | none => rw [e3] at e2; cases e2
          | some g' =>
            rw [e3] at e2
            cases e2
            have hi : i < bs.length := (List.getElem?_eq_some_iff.mp e0).1
            have hti : (bs.take i).length = i := by rw [List.length_take]; omega
            have hrl := rowP_len (t := t) (l := l) (c := c) (bs := bs.take i) (xs := xs) (by rw [hti, h1])
            rw [hti] at hrl
            obtain ⟨x, w, m7', m8', z0, z1, z2, z3⟩ := row_step2 t l c most g' (.lst (ds.map .int)) (.lst (bs.map sideD)) none m7 m8 (sideD b) (rowP t l c (bs.take i) xs) (hws b) ht ht2 hl hl2 hc hm hm2 (by rw [hrl]; omega)
            obtain ⟨z3, z4⟩ := z3
            have z5 : exs [F_law_won] rowB [some (.lst (ds.map .int)), some (rl t l c), some (.lst (bs.map sideD)), some (.int most), some (.tup ((rowP t l c (bs.take i) xs).map prD)), some (sideD b), some (.int g'), m7, m8] = some (.nx [some (.lst (ds.map .int)), some (rl t l c), some (.lst (bs.map sideD)), some (.int most), some (.tup ((rowP t l c (bs.take i) xs ++ [resP t l c b x]).map prD)), some (sideD b), some (.int g'), m7', m8']) := by
              have hv : wpv t l c x = w := by unfold wpv; rw [z2]; rfl
              unfold resP
              rw [hv]
              cases b with
              | true => exact z3 rfl
              | false => exact z4 rfl
            refine ⟨_, z5, xs ++ [x], some (sideD b), some (.int g'), m7', m8', by simp [h1], fun y hy => ?_, ?_⟩
            · rcases List.mem_append.mp hy with h | h
              · exact h2 y h
              · rw [List.mem_singleton.mp h]
                exact ⟨⟨z0, by unfold okW; rw [z2]; rfl⟩, z1⟩
            · have et : bs.take (0 + i + 1) = bs.take i ++ [b] := by
                rw [Nat.zero_add, List.take_add_one, e0]; rfl
              rw [et, rowP_snoc (by rw [hti, h1])])
    rw [Nat.zero_add, hzl] at q2 q4
    rw [List.take_length] at q4
    exact ⟨e', q1, xs, m5, m6, m7, m8, q2, q3, q4⟩
  refine ⟨xs, p1, p2, ?_⟩
  show runF _ c_law_random_row 9 _ = _
  rw [y_run, rowC]
  have hzp : evI [F_law_won] (.zip (.var 2) (.var 0)) [some (.lst (ds.map .int)), some (rl t l c), some (.lst (bs.map sideD)), some (.int most), some (.tup []), none, none, none, none] = some (zipD (bs.map sideD) (ds.map .int)) := y_zip _ _ rfl rfl
  generalize (rowP t l c bs xs).map prD = Z at q1 ⊢
  generalize zipD (bs.map sideD) (ds.map .int) = W at q1 hzp
  generalize bs.map sideD = Y at *
  generalize ds.map D.int = X at *
  simp [y_for, hzp, q1]
theorem r_row2T (t l c most : Int) (ds : List Int) (bs : List Bool) (ht : 1 ≤ t) (ht2 : t ≤ 100) (hl : 1 ≤ l) (hl2 : l ≤ 100) (hc : 0 ≤ c) (hm : 0 ≤ most) (hm2 : most ≤ 800) (hz : bs.length ≤ 900) (hd : bs.length ≤ ds.length) :
    ∃ xs : List Int, xs.length = bs.length ∧ (∀ x ∈ xs, (0 ≤ x ∧ okW t l c x = true) ∧ x ≤ most) ∧ F_law_random_row.run [.lst (ds.map .int), rl t l c, .tup (bs.map sideD), .int most] = some (.tup ((rowP t l c bs xs).map prD)) := by
  have hws : ∀ b : Bool, sideD b = first ∨ sideD b = second := fun b => by cases b; exact .inr rfl; exact .inl rfl
  obtain ⟨e', q1, xs, m5, m6, m7, m8, p1, p2, rfl⟩ : ∃ e', forL (forF [F_law_won] (.many [5, 6]) rowB) (zipD (bs.map sideD) (ds.map .int)) [some (.lst (ds.map .int)), some (rl t l c), some (.tup (bs.map sideD)), some (.int most), some (.tup []), none, none, none, none] = some (.nx e') ∧
      ∃ (xs : List Int) (m5 m6 m7 m8 : Option D), xs.length = bs.length ∧ (∀ x ∈ xs, (0 ≤ x ∧ okW t l c x = true) ∧ x ≤ most) ∧ e' = [some (.lst (ds.map .int)), some (rl t l c), some (.tup (bs.map sideD)), some (.int most), some (.tup ((rowP t l c bs xs).map prD)), m5, m6, m7, m8] := by
    have hzl : (zipD (bs.map sideD) (ds.map .int)).length = bs.length := by rw [zipD_len, List.length_map, List.length_map]; omega
    obtain ⟨e', q1, xs, m5, m6, m7, m8, q2, q3, q4⟩ := forL_nx (f := forF [F_law_won] (.many [5, 6]) rowB) (fun i e => ∃ (xs : List Int) (m5 m6 m7 m8 : Option D), xs.length = i ∧ (∀ x ∈ xs, (0 ≤ x ∧ okW t l c x = true) ∧ x ≤ most) ∧ e = [some (.lst (ds.map .int)), some (rl t l c), some (.tup (bs.map sideD)), some (.int most), some (.tup ((rowP t l c (bs.take i) xs).map prD)), m5, m6, m7, m8]) (zipD (bs.map sideD) (ds.map .int)) _ 0
      ⟨[], none, none, none, none, rfl, fun p hp => (by cases hp), rfl⟩ (fun i e x hx hI => by
        obtain ⟨xs, m5, m6, m7, m8, h1, h2, he⟩ := hI
        rw [Nat.zero_add] at h1 he
        subst he
        obtain ⟨s, g, e1, e2, rfl⟩ := zipD_get _ _ _ _ hx
        rw [List.getElem?_map] at e1 e2
        cases e0 : bs[i]? with
        | none => rw [e0] at e1; cases e1
        | some b =>
          rw [e0] at e1
          cases e1
          cases e3 : ds[i]? with
          | none => rw [e3] at e2; cases e2
          | some g' =>
            rw [e3] at e2
            cases e2
            have hi : i < bs.length := (List.getElem?_eq_some_iff.mp e0).1
            have hti : (bs.take i).length = i := by rw [List.length_take]; omega
            have hrl := rowP_len (t := t) (l := l) (c := c) (bs := bs.take i) (xs := xs) (by rw [hti, h1])
            rw [hti] at hrl
            obtain ⟨x, w, m7', m8', z0, z1, z2, z3⟩ := row_step2 t l c most g' (.lst (ds.map .int)) (.tup (bs.map sideD)) none m7 m8 (sideD b) (rowP t l c (bs.take i) xs) (hws b) ht ht2 hl hl2 hc hm hm2 (by rw [hrl]; omega)
            obtain ⟨z3, z4⟩ := z3
            have z5 : exs [F_law_won] rowB [some (.lst (ds.map .int)), some (rl t l c), some (.tup (bs.map sideD)), some (.int most), some (.tup ((rowP t l c (bs.take i) xs).map prD)), some (sideD b), some (.int g'), m7, m8] = some (.nx [some (.lst (ds.map .int)), some (rl t l c), some (.tup (bs.map sideD)), some (.int most), some (.tup ((rowP t l c (bs.take i) xs ++ [resP t l c b x]).map prD)), some (sideD b), some (.int g'), m7', m8']) := by
              have hv : wpv t l c x = w := by unfold wpv; rw [z2]; rfl
              unfold resP
              rw [hv]
              cases b with
              | true => exact z3 rfl
              | false => exact z4 rfl
            refine ⟨_, z5, xs ++ [x], some (sideD b), some (.int g'), m7', m8', by simp [h1], fun y hy => ?_, ?_⟩
            · rcases List.mem_append.mp hy with h | h
              · exact h2 y h
              · rw [List.mem_singleton.mp h]
                exact ⟨⟨z0, by unfold okW; rw [z2]; rfl⟩, z1⟩
            · have et : bs.take (0 + i + 1) = bs.take i ++ [b] := by
                rw [Nat.zero_add, List.take_add_one, e0]; rfl
              rw [et, rowP_snoc (by rw [hti, h1])])
    rw [Nat.zero_add, hzl] at q2 q4
    rw [List.take_length] at q4
    exact ⟨e', q1, xs, m5, m6, m7, m8, q2, q3, q4⟩
  refine ⟨xs, p1, p2, ?_⟩
  show runF _ c_law_random_row 9 _ = _
  rw [y_run, rowC]
  have hzp : evI [F_law_won] (.zip (.var 2) (.var 0)) [some (.lst (ds.map .int)), some (rl t l c), some (.tup (bs.map sideD)), some (.int most), some (.tup []), none, none, none, none] = some (zipD (bs.map sideD) (ds.map .int)) := y_zipT _ _ rfl rfl
  generalize (rowP t l c bs xs).map prD = Z at q1 ⊢
  generalize zipD (bs.map sideD) (ds.map .int) = W at q1 hzp
  generalize bs.map sideD = Y at *
  generalize ds.map D.int = X at *
  simp [y_for, hzp, q1]
/-! ### _law_totals -/
theorem run_totals (ds : List D) : F_law_totals.run ds = runF [] c_law_totals 2 ds := id rfl
@[simp] theorem ar_totals : F_law_totals.ar = 1 := id rfl
theorem ix0_prD (p : Int × Int) : didx (prD p) (.int 0) = some (.int p.1) := rfl
theorem ix1_prD (p : Int × Int) : didx (prD p) (.int 1) = some (.int p.2) := rfl
def tot1 (ps : List (Int × Int)) : Int := (ps.map (·.1)).sum
def tot2 (ps : List (Int × Int)) : Int := (ps.map (·.2)).sum
theorem r_totals (ps : List (Int × Int)) (hz : ps.length ≤ 900) : F_law_totals.run [.tup (ps.map prD)] = some (pr (tot1 ps) (tot2 ps)) := by
  have h0 : ∀ m1, lcL (lcF [] (.idx (.var 1) (.cint 0)) (.one 1) .nil [1] [some (.tup (ps.map prD)), m1]) (ps.map prD) = some ((ps.map (·.1)).map .int) := fun m1 => by
    rw [List.map_map]
    refine lcL_mapA prD (D.int ∘ fun p : Int × Int => p.1) fun p hp => ?_
    have := ix0_prD p
    simp [lcF, setT, wipeE, evC, this]
  have h1 : ∀ m1, lcL (lcF [] (.idx (.var 1) (.cint 1)) (.one 1) .nil [1] [some (.tup (ps.map prD)), m1]) (ps.map prD) = some ((ps.map (·.2)).map .int) := fun m1 => by
    rw [List.map_map]
    refine lcL_mapA prD (D.int ∘ fun p : Int × Int => p.2) fun p hp => ?_
    have := ix1_prD p
    simp [lcF, setT, wipeE, evC, this]
  have s0 := d_suml (ps.map (·.1))
  have s1 := d_suml (ps.map (·.2))
  have hz' : (ps.map prD).length ≤ sizeLine := by rw [List.length_map]; exact Nat.le_trans hz (by decide)
  have hsq : seq? (.tup (ps.map prD)) = some (ps.map prD) := rfl
  have h0' := h0 none
  have h1' := h1 none
  unfold tot1 tot2
  generalize ps.map prD = X at *
  generalize (ps.map (·.1)).map D.int = A at *
  generalize (ps.map (·.2)).map D.int = B at *
  rw [run_totals, y_run]
  simp [c_law_totals, hsq, h0', h1', s0, s1, hz', pr]
/-! ### sides in order: a first, b second -/
def bsOf (a b : Nat) : List Bool := List.replicate a true ++ List.replicate b false
theorem flat_rep {α : Type} (x : α) : ∀ n : Nat, (List.replicate n [x]).flatten = List.replicate n x
  | 0 => rfl
  | n + 1 => by rw [List.replicate_succ, List.flatten_cons, flat_rep x n, List.replicate_succ]; rfl
theorem mul_side (x : D) (k : Int) (h0 : 0 ≤ k) (h1 : k ≤ 900) : dbin .mul (.lst [x]) (.int k) = some (.lst (List.replicate k.toNat x)) := by
  show (if (decide (-(2 ^ 63) ≤ k) && decide (k < 2 ^ 63) && decide ([x].length * k.toNat ≤ sizeLine)) = true then some (D.lst (List.replicate k.toNat [x]).flatten) else none) = _
  rw [decide_eq_true (show -(2 ^ 63) ≤ k by omega), decide_eq_true (show k < 2 ^ 63 by omega), decide_eq_true (show [x].length * k.toNat ≤ sizeLine by
    refine Nat.le_trans (show [x].length * k.toNat ≤ 1000 from ?_) (by decide)
    rw [List.length_singleton]; omega)]
  rw [Bool.and_self, Bool.and_self, if_pos rfl, flat_rep]
theorem rowP_first {t l c : Int} : ∀ (a : Nat) (bs : List Bool) (A B : List Int), A.length = a → rowP t l c (List.replicate a true ++ bs) (A ++ B) = A.map (fun x => (wpv t l c x, x)) ++ rowP t l c bs B
  | 0, bs, [], B, _ => rfl
  | 0, bs, _ :: _, B, h => by cases h
  | n + 1, bs, [], B, h => by cases h
  | n + 1, bs, x :: A, B, h => by
    rw [List.replicate_succ]
    show resP t l c true x :: rowP t l c (List.replicate n true ++ bs) (A ++ B) = _
    rw [rowP_first n bs A B (by simpa using h)]
    rfl
theorem rowP_second {t l c : Int} : ∀ (b : Nat) (B : List Int), B.length = b → rowP t l c (List.replicate b false) B = B.map fun x => (x, wpv t l c x)
  | 0, [], _ => rfl
  | 0, _ :: _, h => by cases h
  | n + 1, [], h => by cases h
  | n + 1, x :: B, h => by
    rw [List.replicate_succ]
    show resP t l c false x :: rowP t l c (List.replicate n false) B = _
    rw [rowP_second n B (by simpa using h)]
    rfl
theorem tot_app (P Q : List (Int × Int)) : tot1 (P ++ Q) = tot1 P + tot1 Q ∧ tot2 (P ++ Q) = tot2 P + tot2 Q := by
  unfold tot1 tot2
  simp
theorem tot_first {t l c : Int} (A : List Int) : tot1 (A.map fun x => (wpv t l c x, x)) = (A.map (wpv t l c)).sum ∧ tot2 (A.map fun x => (wpv t l c x, x)) = A.sum := by
  unfold tot1 tot2
  rw [List.map_map, List.map_map]
  exact ⟨rfl, by conv => lhs; arg 1; rw [show ((fun x : Int × Int => x.2) ∘ fun x => (wpv t l c x, x)) = id from rfl, List.map_id]⟩
theorem tot_second {t l c : Int} (B : List Int) : tot1 (B.map fun x => (x, wpv t l c x)) = B.sum ∧ tot2 (B.map fun x => (x, wpv t l c x)) = (B.map (wpv t l c)).sum := by
  unfold tot1 tot2
  rw [List.map_map, List.map_map]
  exact ⟨by conv => lhs; arg 1; rw [show ((fun x : Int × Int => x.1) ∘ fun x => (x, wpv t l c x)) = id from rfl, List.map_id], rfl⟩
/-- a row of results fits its totals -/
theorem row_fit {t l c : Int} {a b : Nat} {A B : List Int} (hA : A.length = a) (hB : B.length = b) (h : ∀ x ∈ A ++ B, 0 ≤ x ∧ okW t l c x = true) (P : List (Int × Int)) (hP : P = rowP t l c (bsOf a b) (A ++ B)) : Fit t l c a b (tot1 P) (tot2 P) B.sum A.sum := by
  have h1 := (RowS.of (t := t) (l := l) (c := c) (r := A) fun x hx => h x (List.mem_append_left _ hx)).S
  have h2 := (RowS.of (t := t) (l := l) (c := c) (r := B) fun x hx => h x (List.mem_append_right _ hx)).S
  rw [hP]
  unfold bsOf
  rw [rowP_first a _ A B hA, rowP_second b B hB, (tot_app _ _).1, (tot_app _ _).2, (tot_first A).1, (tot_first A).2, (tot_second B).1, (tot_second B).2]
  rw [hA] at h1
  rw [hB] at h2
  refine ⟨?_, ?_⟩
  · rw [Int.add_sub_cancel]; exact h1
  · rw [show A.sum + (B.map (wpv t l c)).sum - A.sum = (B.map (wpv t l c)).sum by omega]; exact h2
/-! ### possible_sets -/
open Classical in
noncomputable def posB (t l c T1 T2 : Int) (p : Int × Int) : Bool := decide (isPos t l c p.1.toNat p.2.toNat T1 T2)
open Classical in
theorem r_possible' (t l c T1 T2 : Int) (p : Int × Int) (ht : 1 ≤ t) (hc : 0 ≤ c) (h1 : 0 ≤ T1) (h2 : 0 ≤ T2) (u1 : T1 ≤ 250) (u2 : T2 ≤ 250) (ha : 0 ≤ p.1 ∧ p.1 ≤ 900) (hb : 0 ≤ p.2 ∧ p.2 ≤ 900) :
    F_is_possible.run [rl t l c, prD p, pr T1 T2] = some (.bl (posB t l c T1 T2 p)) := by
  obtain ⟨k, q1, q2⟩ := r_possible t l c T1 T2 p.1.toNat p.2.toNat ht hc (by omega) (by omega) h1 h2 u1 u2
  rw [Int.toNat_of_nonneg ha.1, Int.toNat_of_nonneg hb.1] at q2
  have : k = posB t l c T1 T2 p := by
    unfold posB
    cases k with
    | true => exact (decide_eq_true (q1.mp rfl)).symm
    | false => exact (decide_eq_false fun z => by cases q1.mpr z).symm
  rw [← this]
  exact q2
def psB : CSs := match c_possible_sets with
  | .cons _ (.cons (.for_ _ _ b) _) => b
  | _ => .nil
theorem psC : c_possible_sets = .cons (.asg 3 (.lst .nil)) (.cons (.for_ (.one 4) (.rng1 (.var 1)) psB) (.cons (.ret (.blt .sorted (.cons (.var 3) .nil))) .nil)) := rfl
theorem run_psets (ds : List D) : F_possible_sets.run ds = runF [F_is_possible] c_possible_sets 6 ds := id rfl
@[simp] theorem ar_psets : F_possible_sets.ar = 3 := id rfl
/-- what stands for each number of the other side's sets -/
noncomputable def psG (t l c T1 T2 n : Int) (o : Int) : List (Int × Int) := [(n, o), (o, n)].filter (posB t l c T1 T2)
theorem ps_in (t l c T1 T2 n o : Int) (ht : 1 ≤ t) (hc : 0 ≤ c) (h1 : 0 ≤ T1) (h2 : 0 ≤ T2) (u1 : T1 ≤ 250) (u2 : T2 ≤ 250) (hn : 0 ≤ n) (hn2 : n ≤ 900) (ho : 0 ≤ o) (ho2 : o ≤ 900) (acc : List (Int × Int)) (ha : acc.length + 2 ≤ 100000) (m5 : Option D) :
    exs [F_is_possible] psB [some (rl t l c), some (.int n), some (pr T1 T2), some (.lst (acc.map prD)), some (.int o), m5] = some (.nx [some (rl t l c), some (.int n), some (pr T1 T2), some (.lst ((acc ++ psG t l c T1 T2 n o).map prD)), some (.int o), m5]) := by
  have hlc : lcL (lcF [F_is_possible] (.var 5) (.one 5) (.cons (.call 0 (.cons (.var 0) (.cons (.var 5) (.cons (.var 2) .nil)))) .nil) [5] [some (rl t l c), some (.int n), some (pr T1 T2), some (.lst (acc.map prD)), some (.int o), m5]) ([(n, o), (o, n)].map prD) = some ((psG t l c T1 T2 n o).map prD) := by
    refine lcL_filterA prD prD (posB t l c T1 T2) fun p hp => ?_
    have hp' : (0 ≤ p.1 ∧ p.1 ≤ 900) ∧ (0 ≤ p.2 ∧ p.2 ≤ 900) := by
      simp only [List.mem_cons, List.not_mem_nil, or_false] at hp
      rcases hp with rfl | rfl
      · exact ⟨⟨hn, hn2⟩, ⟨ho, ho2⟩⟩
      · exact ⟨⟨ho, ho2⟩, ⟨hn, hn2⟩⟩
    have hr := r_possible' t l c T1 T2 p ht hc h1 h2 u1 u2 hp'.1 hp'.2
    generalize posB t l c T1 T2 p = k at *
    generalize prD p = P at *
    cases k <;> simp [lcF, setT, wipeE, evC, y_call, hr]
  have hg : (psG t l c T1 T2 n o).length ≤ 2 := List.length_filter_le _ _
  have add : dbin .add (.lst (acc.map prD)) (.lst ((psG t l c T1 T2 n o).map prD)) = some (.lst ((acc ++ psG t l c T1 T2 n o).map prD)) := by
    show (if (acc.map prD).length + ((psG t l c T1 T2 n o).map prD).length ≤ sizeLine then _ else _) = _
    rw [List.length_map, List.length_map, if_pos (Nat.le_trans (show _ ≤ 100000 by omega) (by decide)), List.map_append]
  have e2 : [(n, o), (o, n)].map prD = [.tup [.int n, .int o], .tup [.int o, .int n]] := rfl
  rw [e2] at hlc
  generalize (psG t l c T1 T2 n o).map prD = G at *
  generalize (acc ++ psG t l c T1 T2 n o).map prD = H at *
  generalize acc.map prD = A at *
  simp [psB, c_possible_sets, seq?, hlc, add]
/-- the list that possible_sets tells -/
structure PsL (t l c T1 T2 n : Int) (L : List (Int × Int)) : Prop where
  up : L.Pairwise (fun x y => leP x y = true ∧ x ≠ y)
  mem : ∀ p, p ∈ L ↔ ((p.1 = n ∧ 0 ≤ p.2 ∧ p.2 < n) ∨ (p.2 = n ∧ 0 ≤ p.1 ∧ p.1 < n)) ∧ posB t l c T1 T2 p = true
theorem psets_end (A T v : D) (z : Int) (xs L : List D) (m4 m5 : Option D) (hr : rg1 (.int z) = some xs) (q1 : forL (forF [F_is_possible] (.one 4) psB) xs [some A, some (.int z), some T, some (.lst []), none, none] = some (.nx [some A, some (.int z), some T, some (.lst L), m4, m5])) (hs : dblt .sorted [.lst L] = some v) :
    F_possible_sets.run [A, .int z, T] = some v := by
  rw [run_psets, y_run, psC]
  simp [y_for, hr, q1, hs]
theorem r_psets (t l c T1 T2 n : Int) (ht : 1 ≤ t) (hc : 0 ≤ c) (h1 : 0 ≤ T1) (h2 : 0 ≤ T2) (u1 : T1 ≤ 250) (u2 : T2 ≤ 250) (hn : 0 ≤ n) (hn2 : n ≤ 900) :
    ∃ L, PsL t l c T1 T2 n L ∧ F_possible_sets.run [rl t l c, .int n, pr T1 T2] = some (.lst (L.map prD)) := by
  obtain ⟨e', q1, m4, m5, rfl⟩ := forL_accA (f := forF [F_is_possible] (.one 4) psB) D.int (St := fun acc e' => ∃ m4 m5, e' = [some (rl t l c), some (.int n), some (pr T1 T2), some (.lst (acc.map prD)), m4, m5])
    (psG t l c T1 T2 n) 2 (iR n.toNat) [] [some (rl t l c), some (.int n), some (pr T1 T2), some (.lst []), none, none] ⟨none, none, rfl⟩ (by rw [iR_len, List.length_nil]; omega) (fun x hx acc env ha ⟨m4, m5, he⟩ => by
      subst he
      have := iR_mem.mp hx
      exact ⟨_, ps_in t l c T1 T2 n x ht hc h1 h2 u1 u2 hn hn2 (by omega) (by omega) acc ha m5, some (.int x), m5, rfl⟩) (fun x _ => List.length_filter_le _ _)
  rw [List.nil_append] at q1
  have hmem : ∀ p, p ∈ (iR n.toNat).flatMap (psG t l c T1 T2 n) ↔ ((p.1 = n ∧ 0 ≤ p.2 ∧ p.2 < n) ∨ (p.2 = n ∧ 0 ≤ p.1 ∧ p.1 < n)) ∧ posB t l c T1 T2 p = true := fun p => by
    rw [List.mem_flatMap]
    constructor
    · rintro ⟨o, ho, hp⟩
      obtain ⟨hp1, hp2⟩ := List.mem_filter.mp hp
      have := iR_mem.mp ho
      refine ⟨?_, hp2⟩
      simp only [List.mem_cons, List.not_mem_nil, or_false] at hp1
      rcases hp1 with rfl | rfl
      · exact .inl ⟨rfl, by show 0 ≤ o; omega, by show o < n; omega⟩
      · exact .inr ⟨rfl, by show 0 ≤ o; omega, by show o < n; omega⟩
    · obtain ⟨x, y⟩ := p
      rintro ⟨h | h, hp⟩
      · obtain ⟨rfl, h3, h4⟩ := h
        exact ⟨y, iR_mem.mpr (by simp only at h3 h4 ⊢; omega), List.mem_filter.mpr ⟨by simp, hp⟩⟩
      · obtain ⟨rfl, h3, h4⟩ := h
        exact ⟨x, iR_mem.mpr (by simp only at h3 h4 ⊢; omega), List.mem_filter.mpr ⟨by simp, hp⟩⟩
  have hnd : ((iR n.toNat).flatMap (psG t l c T1 T2 n)).Nodup := by
    refine List.pairwise_flatMap.mpr ⟨fun o ho => ?_, ?_⟩
    · have := iR_mem.mp ho
      refine List.Pairwise.filter _ ?_
      simp only [List.pairwise_cons, List.mem_cons, List.not_mem_nil, or_false, forall_eq, List.Pairwise.nil, and_true]
      exact ⟨fun z => by have := (Prod.ext_iff.mp z).1; simp only at this; omega, fun _ h => by cases h⟩
    · have hi : (iR n.toNat).Pairwise (fun x y => x ≠ y ∧ (0 ≤ x ∧ x < n) ∧ 0 ≤ y ∧ y < n) := by
        have h3 : (iR n.toNat).Pairwise (fun x y => x ≠ y) := by
          unfold iR
          rw [List.pairwise_map]
          exact List.pairwise_lt_range.imp fun {a b} h => by omega
        refine List.Pairwise.imp_of_mem (fun {x y} hx hy h => ⟨h, ?_, ?_⟩) h3
        · have := iR_mem.mp hx; omega
        · have := iR_mem.mp hy; omega
      refine hi.imp fun {x y} h p hp q hq => ?_
      have hp1 := (List.mem_filter.mp hp).1
      have hq1 := (List.mem_filter.mp hq).1
      simp only [List.mem_cons, List.not_mem_nil, or_false] at hp1 hq1
      rcases hp1 with rfl | rfl <;> rcases hq1 with rfl | rfl <;> intro z <;> have z1 := (Prod.ext_iff.mp z).1 <;> have z2 := (Prod.ext_iff.mp z).2 <;> simp only at z1 z2 <;> omega
  generalize (iR n.toNat).flatMap (psG t l c T1 T2 n) = L0 at *
  refine ⟨isB leP L0, ⟨isB_nd hnd, fun p => by rw [(isB_perm L0).mem_iff]; exact hmem p⟩, ?_⟩
  have hr : rg1 (.int n) = some ((iR n.toNat).map D.int) := by rw [rg1_mk (by omega) (by omega), rngD_iR]
  exact psets_end _ _ _ n _ _ m4 m5 hr q1 (d_sortPl L0)
theorem d_ssortP (ps : List (Int × Int)) (h : ps.length < 100000) (h2 : (sPrs ps).length < 62) (hb : ∀ p ∈ ps, 0 ≤ p.1 ∧ p.1 < 64 ∧ 0 ≤ p.2 ∧ p.2 < 64) : dblt .ssort [.lst (ps.map prD)] = some (.lst ((sPrs ps).map prD)) := by
  show (match ssortD (ps.map prD) with
    | some ys => some (D.lst ys)
    | none => none) = _
  unfold ssortD
  cases ps with
  | nil => rfl
  | cons p r =>
    have : ints? ((p :: r).map prD) = none := rfl
    rw [this, prs_map]
    simp only
    rw [if_pos ⟨h, h2, hb⟩, p2D_prD]
end Pv

namespace Pv.K10
open PySem PySem.Spec PyProof.Rows L2
def top (i : Nat) : Stmt := PySem.Challenge.pw_pointsback_k10_whole_results_of_single_s.main.body.getD i (.Pass ⟨0, 0, 0, 0⟩)
abbrev s_law_cell : Stmt := top 9
abbrev N_law_cell : List Str := ["script", "index"]
def C_law_cell : Cc := ⟨N_law_cell, [], false, 100000, []⟩
theorem sc_law_cell : FnScope N_law_cell ["script", "index"] (defScope s_law_cell) := ⟨rfl, rfl, rfl, by decide +kernel, rfl, by decide +kernel, by decide +kernel⟩
theorem h_law_cell : bodyE (compS C_law_cell (defScope s_law_cell) 40) (defBody s_law_cell) = some c_law_cell := by decide +kernel
theorem o_law_cell : okC (frs []) false N_law_cell c_law_cell = true := by decide +kernel
theorem kd_law_cell {P : Program} {w : World} {K : PySem.W.Frag} {mg : Str → Option Value} {base : Heap} {f : Addr} {fd : FuncData} (F : Fun K "_law_cell" "_law_cell" s_law_cell f fd) (bi : ∀ y ∈ bNames, mg y = none)  (hm : mg "_law_cell" = some (.ref f)) : Kd P w K mg base 1 "_law_cell" F_law_cell :=
  kd_ok (kk := 0) (F.binds (ps := ["script", "index"]) fun _ _ _ _ _ _ us hl => match us, hl with | [_, _], _ => rfl) hm F sc_law_cell (by decide) h_law_cell o_law_cell bi rfl (fun k G nm h1 h2 => match k, h1, h2 with  | _ + 0, h1, _ => nomatch h1)
abbrev s_law_digits : Stmt := top 10
abbrev N_law_digits : List Str := ["script", "index", "count", "base", "primes", "cell", "rest", "digits", "k", "mixed"]
def C_law_digits : Cc := ⟨N_law_digits, ["_law_cell"], false, 100000, []⟩
theorem sc_law_digits : FnScope N_law_digits ["script", "index", "count", "base"] (defScope s_law_digits) := ⟨rfl, rfl, rfl, by decide +kernel, rfl, by decide +kernel, by decide +kernel⟩
theorem h_law_digits : bodyE (compS C_law_digits (defScope s_law_digits) 40) (defBody s_law_digits) = some c_law_digits := by decide +kernel
theorem o_law_digits : okC (frs [F_law_cell]) true N_law_digits c_law_digits = true := by decide +kernel
theorem kd_law_digits {P : Program} {w : World} {K : PySem.W.Frag} {mg : Str → Option Value} {base : Heap} {f : Addr} {fd : FuncData} (F : Fun K "_law_digits" "_law_digits" s_law_digits f fd) (bi : ∀ y ∈ bNames, mg y = none) (k0 : Kd P w K mg base 1 "_law_cell" (F_law_cell)) (hm : mg "_law_digits" = some (.ref f)) : Kd P w K mg base 2 "_law_digits" F_law_digits :=
  kd_ok (kk := 1) (F.binds (ps := ["script", "index", "count", "base"]) fun _ _ _ _ _ _ us hl => match us, hl with | [_, _, _, _], _ => rfl) hm F sc_law_digits (by decide) h_law_digits o_law_digits bi rfl (fun k G nm h1 h2 => match k, h1, h2 with | 0, h1, h2 => by cases h1; cases h2; exact ⟨1, by decide, k0⟩ | _ + 1, h1, _ => nomatch h1)
abbrev s_law_rule : Stmt := top 11
abbrev N_law_rule : List Str := ["digits", "most", "target", "lead", "top"]
def C_law_rule : Cc := ⟨N_law_rule, [], false, 100000, []⟩
theorem sc_law_rule : FnScope N_law_rule ["digits", "most"] (defScope s_law_rule) := ⟨rfl, rfl, rfl, by decide +kernel, rfl, by decide +kernel, by decide +kernel⟩
theorem h_law_rule : bodyE (compS C_law_rule (defScope s_law_rule) 40) (defBody s_law_rule) = some c_law_rule := by decide +kernel
theorem o_law_rule : okC (frs []) true N_law_rule c_law_rule = true := by decide +kernel
theorem kd_law_rule {P : Program} {w : World} {K : PySem.W.Frag} {mg : Str → Option Value} {base : Heap} {f : Addr} {fd : FuncData} (F : Fun K "_law_rule" "_law_rule" s_law_rule f fd) (bi : ∀ y ∈ bNames, mg y = none)  (hm : mg "_law_rule" = some (.ref f)) : Kd P w K mg base 1 "_law_rule" F_law_rule :=
  kd_ok (kk := 0) (F.binds (ps := ["digits", "most"]) fun _ _ _ _ _ _ us hl => match us, hl with | [_, _], _ => rfl) hm F sc_law_rule (by decide) h_law_rule o_law_rule bi rfl (fun k G nm h1 h2 => match k, h1, h2 with  | _ + 0, h1, _ => nomatch h1)
abbrev s_law_won : Stmt := top 12
abbrev N_law_won : List Str := ["rule", "loser", "target", "lead", "top", "points"]
def C_law_won : Cc := ⟨N_law_won, [], false, 100000, []⟩
theorem sc_law_won : FnScope N_law_won ["rule", "loser"] (defScope s_law_won) := ⟨rfl, rfl, rfl, by decide +kernel, rfl, by decide +kernel, by decide +kernel⟩
theorem h_law_won : bodyE (compS C_law_won (defScope s_law_won) 40) (defBody s_law_won) = some c_law_won := by decide +kernel
theorem o_law_won : okC (frs []) false N_law_won c_law_won = true := by decide +kernel
theorem kd_law_won {P : Program} {w : World} {K : PySem.W.Frag} {mg : Str → Option Value} {base : Heap} {f : Addr} {fd : FuncData} (F : Fun K "_law_won" "_law_won" s_law_won f fd) (bi : ∀ y ∈ bNames, mg y = none)  (hm : mg "_law_won" = some (.ref f)) : Kd P w K mg base 1 "_law_won" F_law_won :=
  kd_ok (kk := 0) (F.binds (ps := ["rule", "loser"]) fun _ _ _ _ _ _ us hl => match us, hl with | [_, _], _ => rfl) hm F sc_law_won (by decide) h_law_won o_law_won bi rfl (fun k G nm h1 h2 => match k, h1, h2 with  | _ + 0, h1, _ => nomatch h1)
abbrev s_law_random_row : Stmt := top 15
abbrev N_law_random_row : List Str := ["digits", "rule", "winners", "most", "row", "side", "digit", "loser", "points"]
def C_law_random_row : Cc := ⟨N_law_random_row, ["_law_won"], false, 100000, []⟩
theorem sc_law_random_row : FnScope N_law_random_row ["digits", "rule", "winners", "most"] (defScope s_law_random_row) := ⟨rfl, rfl, rfl, by decide +kernel, rfl, by decide +kernel, by decide +kernel⟩
theorem h_law_random_row : bodyE (compS C_law_random_row (defScope s_law_random_row) 40) (defBody s_law_random_row) = some c_law_random_row := by decide +kernel
theorem o_law_random_row : okC (frs [F_law_won]) true N_law_random_row c_law_random_row = true := by decide +kernel
theorem kd_law_random_row {P : Program} {w : World} {K : PySem.W.Frag} {mg : Str → Option Value} {base : Heap} {f : Addr} {fd : FuncData} (F : Fun K "_law_random_row" "_law_random_row" s_law_random_row f fd) (bi : ∀ y ∈ bNames, mg y = none) (k0 : Kd P w K mg base 1 "_law_won" (F_law_won)) (hm : mg "_law_random_row" = some (.ref f)) : Kd P w K mg base 2 "_law_random_row" F_law_random_row :=
  kd_ok (kk := 1) (F.binds (ps := ["digits", "rule", "winners", "most"]) fun _ _ _ _ _ _ us hl => match us, hl with | [_, _, _, _], _ => rfl) hm F sc_law_random_row (by decide) h_law_random_row o_law_random_row bi rfl (fun k G nm h1 h2 => match k, h1, h2 with | 0, h1, h2 => by cases h1; cases h2; exact ⟨1, by decide, k0⟩ | _ + 1, h1, _ => nomatch h1)
abbrev s_law_totals : Stmt := top 14
abbrev N_law_totals : List Str := ["row", "one"]
def C_law_totals : Cc := ⟨N_law_totals, [], false, 100000, []⟩
theorem sc_law_totals : FnScope N_law_totals ["row"] (defScope s_law_totals) := ⟨rfl, rfl, rfl, by decide +kernel, rfl, by decide +kernel, by decide +kernel⟩
theorem h_law_totals : bodyE (compS C_law_totals (defScope s_law_totals) 40) (defBody s_law_totals) = some c_law_totals := by decide +kernel
theorem o_law_totals : okC (frs []) true N_law_totals c_law_totals = true := by decide +kernel
theorem kd_law_totals {P : Program} {w : World} {K : PySem.W.Frag} {mg : Str → Option Value} {base : Heap} {f : Addr} {fd : FuncData} (F : Fun K "_law_totals" "_law_totals" s_law_totals f fd) (bi : ∀ y ∈ bNames, mg y = none)  (hm : mg "_law_totals" = some (.ref f)) : Kd P w K mg base 1 "_law_totals" F_law_totals :=
  kd_ok (kk := 0) (F.binds (ps := ["row"]) fun _ _ _ _ _ _ us hl => match us, hl with | [_], _ => rfl) hm F sc_law_totals (by decide) h_law_totals o_law_totals bi rfl (fun k G nm h1 h2 => match k, h1, h2 with  | _ + 0, h1, _ => nomatch h1)
abbrev s_law_rows : Stmt := top 13
abbrev N_law_rows : List Str := ["rule", "winners", "totals", "rows", "side", "longer", "row", "loser", "points", "result", "one"]
def C_law_rows : Cc := ⟨N_law_rows, ["_law_won", "_law_totals"], false, 100000, []⟩
theorem sc_law_rows : FnScope N_law_rows ["rule", "winners", "totals"] (defScope s_law_rows) := ⟨rfl, rfl, rfl, by decide +kernel, rfl, by decide +kernel, by decide +kernel⟩
def c_law_rows : CSs := (CSs.cons (CS.asg 3 (CE.lst (CEs.cons (CE.tup .nil) .nil))) (CSs.cons (CS.for_ (Tg.one 4) (CIt.seq (CE.var 1)) (CSs.cons (CS.asg 5 (CE.lst .nil)) (CSs.cons (CS.for_ (Tg.one 6) (CIt.seq (CE.var 3)) (CSs.cons (CS.for_ (Tg.one 7) (CIt.rng1 (CE.bin (BOp.add) (CE.blt (BF.max1) (CEs.cons (CE.var 2) .nil)) (CE.cint 1))) (CSs.cons (CS.asg 8 (CE.call 0 (CEs.cons (CE.var 0) (CEs.cons (CE.var 7) .nil)))) (CSs.cons (CS.ife (CE.andd (CE.cmp (COp.isn) (CE.var 8) (CE.cnon)) (CE.cmp (COp.le) (CE.var 8) (CE.blt (BF.max1) (CEs.cons (CE.var 2) .nil)))) (CSs.cons (CS.asg 9 (CE.ite (CE.cmp (COp.eq) (CE.var 4) (CE.cstr "first")) (CE.tup (CEs.cons (CE.var 8) (CEs.cons (CE.var 7) .nil))) (CE.tup (CEs.cons (CE.var 7) (CEs.cons (CE.var 8) .nil))))) (CSs.cons (CS.ife (CE.cmp (COp.le) (CE.bin (BOp.add) (CE.blt (BF.sum) (CEs.cons (CE.lc (CE.idx (CE.var 10) (CE.cint 0)) (Tg.one 10) (CIt.seq (CE.var 6)) .nil [10]) .nil)) (CE.idx (CE.var 9) (CE.cint 0))) (CE.idx (CE.var 2) (CE.cint 0))) (CSs.cons (CS.ife (CE.cmp (COp.le) (CE.bin (BOp.add) (CE.blt (BF.sum) (CEs.cons (CE.lc (CE.idx (CE.var 10) (CE.cint 1)) (Tg.one 10) (CIt.seq (CE.var 6)) .nil [10]) .nil)) (CE.idx (CE.var 9) (CE.cint 1))) (CE.idx (CE.var 2) (CE.cint 1))) (CSs.cons (CS.app 5 (CE.bin (BOp.add) (CE.var 6) (CE.tup (CEs.cons (CE.var 9) .nil)))) .nil) .nil) .nil) .nil) .nil)) .nil) .nil))) .nil)) (CSs.cons (CS.asg 3 (CE.var 5)) .nil)))) (CSs.cons (CS.ret (CE.blt (BF.sorted) (CEs.cons (CE.lc (CE.var 6) (Tg.one 6) (CIt.seq (CE.var 3)) (CEs.cons (CE.cmp (COp.eq) (CE.call 1 (CEs.cons (CE.var 6) .nil)) (CE.var 2)) .nil) [6]) .nil))) .nil)))
theorem h_law_rows : bodyE (compS C_law_rows (defScope s_law_rows) 40) (defBody s_law_rows) = some c_law_rows := by decide +kernel
def F_law_rows : Fn := ⟨3, runF [F_law_won, F_law_totals] c_law_rows 11, true⟩
theorem o_law_rows : okC (frs [F_law_won, F_law_totals]) true N_law_rows c_law_rows = true := by decide +kernel
theorem kd_law_rows {P : Program} {w : World} {K : PySem.W.Frag} {mg : Str → Option Value} {base : Heap} {f : Addr} {fd : FuncData} (F : Fun K "_law_rows" "_law_rows" s_law_rows f fd) (bi : ∀ y ∈ bNames, mg y = none) (k0 : Kd P w K mg base 1 "_law_won" (F_law_won)) (k1 : Kd P w K mg base 1 "_law_totals" (F_law_totals)) (hm : mg "_law_rows" = some (.ref f)) : Kd P w K mg base 2 "_law_rows" F_law_rows :=
  kd_ok (kk := 1) (F.binds (ps := ["rule", "winners", "totals"]) fun _ _ _ _ _ _ us hl => match us, hl with | [_, _, _], _ => rfl) hm F sc_law_rows (by decide) h_law_rows o_law_rows bi rfl (fun k G nm h1 h2 => match k, h1, h2 with | 0, h1, h2 => by cases h1; cases h2; exact ⟨1, by decide, k0⟩ | 1, h1, h2 => by cases h1; cases h2; exact ⟨1, by decide, k1⟩ | _ + 2, h1, _ => nomatch h1)
abbrev s_winner_points : Stmt := top 1
abbrev N_winner_points : List Str := ["rule", "loser", "target", "lead", "cap", "points"]
def C_winner_points : Cc := ⟨N_winner_points, [], false, 100000, []⟩
theorem sc_winner_points : FnScope N_winner_points ["rule", "loser"] (defScope s_winner_points) := ⟨rfl, rfl, rfl, by decide +kernel, rfl, by decide +kernel, by decide +kernel⟩
theorem h_winner_points : bodyE (compS C_winner_points (defScope s_winner_points) 40) (defBody s_winner_points) = some c_winner_points := by decide +kernel
theorem o_winner_points : okC (frs []) false N_winner_points c_winner_points = true := by decide +kernel
theorem kd_winner_points {P : Program} {w : World} {K : PySem.W.Frag} {mg : Str → Option Value} {base : Heap} {f : Addr} {fd : FuncData} (F : Fun K "winner_points" "winner_points" s_winner_points f fd) (bi : ∀ y ∈ bNames, mg y = none)  (hm : mg "winner_points" = some (.ref f)) : Kd P w K mg base 1 "winner_points" F_winner_points :=
  kd_ok (kk := 0) (F.binds (ps := ["rule", "loser"]) fun _ _ _ _ _ _ us hl => match us, hl with | [_, _], _ => rfl) hm F sc_winner_points (by decide) h_winner_points o_winner_points bi rfl (fun k G nm h1 h2 => match k, h1, h2 with  | _ + 0, h1, _ => nomatch h1)
abbrev s_tables : Stmt := top 3
abbrev N_tables : List Str := ["rule", "sets", "total", "rows", "turn", "longer", "before", "pair", "loser", "points", "low", "high"]
def C_tables : Cc := ⟨N_tables, ["winner_points"], false, 100000, []⟩
theorem sc_tables : FnScope N_tables ["rule", "sets", "total"] (defScope s_tables) := ⟨rfl, rfl, rfl, by decide +kernel, rfl, by decide +kernel, by decide +kernel⟩
theorem h_tables : bodyE (compS C_tables (defScope s_tables) 40) (defBody s_tables) = some c_tables := by decide +kernel
theorem o_tables : okC (frs [F_winner_points]) true N_tables c_tables = true := by decide +kernel
theorem kd_tables {P : Program} {w : World} {K : PySem.W.Frag} {mg : Str → Option Value} {base : Heap} {f : Addr} {fd : FuncData} (F : Fun K "tables" "tables" s_tables f fd) (bi : ∀ y ∈ bNames, mg y = none) (k0 : Kd P w K mg base 1 "winner_points" (F_winner_points)) (hm : mg "tables" = some (.ref f)) : Kd P w K mg base 2 "tables" F_tables :=
  kd_ok (kk := 1) (F.binds (ps := ["rule", "sets", "total"]) fun _ _ _ _ _ _ us hl => match us, hl with | [_, _, _], _ => rfl) hm F sc_tables (by decide) h_tables o_tables bi rfl (fun k G nm h1 h2 => match k, h1, h2 with | 0, h1, h2 => by cases h1; cases h2; exact ⟨1, by decide, k0⟩ | _ + 1, h1, _ => nomatch h1)
abbrev s_fits : Stmt := top 5
abbrev N_fits : List Str := ["rule", "sets", "totals", "won", "lost", "found", "own", "other", "low", "high", "least", "most"]
def C_fits : Cc := ⟨N_fits, ["tables"], false, 100000, ["lost", "won"]⟩
theorem sc_fits : FnScope N_fits ["rule", "sets", "totals"] (defScope s_fits) := ⟨rfl, rfl, rfl, by decide +kernel, rfl, by decide +kernel, by decide +kernel⟩
theorem h_fits : bodyE (compS C_fits (defScope s_fits) 40) (defBody s_fits) = some c_fits := by decide +kernel
theorem o_fits : okC (frs [F_tables]) true N_fits c_fits = true := by decide +kernel
theorem kd_fits {P : Program} {w : World} {K : PySem.W.Frag} {mg : Str → Option Value} {base : Heap} {f : Addr} {fd : FuncData} (F : Fun K "fits" "fits" s_fits f fd) (bi : ∀ y ∈ bNames, mg y = none) (k0 : Kd P w K mg base 2 "tables" (F_tables)) (hm : mg "fits" = some (.ref f)) : Kd P w K mg base 3 "fits" F_fits :=
  kd_ok (kk := 2) (F.binds (ps := ["rule", "sets", "totals"]) fun _ _ _ _ _ _ us hl => match us, hl with | [_, _, _], _ => rfl) hm F sc_fits (by decide) h_fits o_fits bi rfl (fun k G nm h1 h2 => match k, h1, h2 with | 0, h1, h2 => by cases h1; cases h2; exact ⟨2, by decide, k0⟩ | _ + 1, h1, _ => nomatch h1)
abbrev s_is_possible : Stmt := top 6
abbrev N_is_possible : List Str := ["rule", "sets", "totals"]
def C_is_possible : Cc := ⟨N_is_possible, ["fits"], false, 100000, []⟩
theorem sc_is_possible : FnScope N_is_possible ["rule", "sets", "totals"] (defScope s_is_possible) := ⟨rfl, rfl, rfl, by decide +kernel, rfl, by decide +kernel, by decide +kernel⟩
theorem h_is_possible : bodyE (compS C_is_possible (defScope s_is_possible) 40) (defBody s_is_possible) = some c_is_possible := by decide +kernel
theorem o_is_possible : okC (frs [F_fits]) true N_is_possible c_is_possible = true := by decide +kernel
theorem kd_is_possible {P : Program} {w : World} {K : PySem.W.Frag} {mg : Str → Option Value} {base : Heap} {f : Addr} {fd : FuncData} (F : Fun K "is_possible" "is_possible" s_is_possible f fd) (bi : ∀ y ∈ bNames, mg y = none) (k0 : Kd P w K mg base 3 "fits" (F_fits)) (hm : mg "is_possible" = some (.ref f)) : Kd P w K mg base 4 "is_possible" F_is_possible :=
  kd_ok (kk := 3) (F.binds (ps := ["rule", "sets", "totals"]) fun _ _ _ _ _ _ us hl => match us, hl with | [_, _, _], _ => rfl) hm F sc_is_possible (by decide) h_is_possible o_is_possible bi rfl (fun k G nm h1 h2 => match k, h1, h2 with | 0, h1, h2 => by cases h1; cases h2; exact ⟨3, by decide, k0⟩ | _ + 1, h1, _ => nomatch h1)
abbrev s_set_results : Stmt := top 7
abbrev N_set_results : List Str := ["rule", "winners", "totals", "index", "rest", "sets", "side", "found", "loser", "points", "result", "left"]
def C_set_results : Cc := ⟨N_set_results, ["winner_points", "is_possible"], false, 100000, []⟩
theorem sc_set_results : FnScope N_set_results ["rule", "winners", "totals", "index"] (defScope s_set_results) := ⟨rfl, rfl, rfl, by decide +kernel, rfl, by decide +kernel, by decide +kernel⟩
def c_set_results : CSs := (CSs.cons (CS.asg 4 (CE.bin (BOp.add) (CE.sl01 (CE.var 1) (CE.var 3)) (CE.sl10 (CE.var 1) (CE.bin (BOp.add) (CE.var 3) (CE.cint 1))))) (CSs.cons (CS.asg 5 (CE.tup (CEs.cons (CE.blt (BF.len) (CEs.cons (CE.lc (CE.var 6) (Tg.one 6) (CIt.seq (CE.var 4)) (CEs.cons (CE.cmp (COp.eq) (CE.var 6) (CE.cstr "first")) .nil) [6]) .nil)) (CEs.cons (CE.blt (BF.len) (CEs.cons (CE.lc (CE.var 6) (Tg.one 6) (CIt.seq (CE.var 4)) (CEs.cons (CE.cmp (COp.eq) (CE.var 6) (CE.cstr "second")) .nil) [6]) .nil)) .nil)))) (CSs.cons (CS.asg 7 (CE.lst .nil)) (CSs.cons (CS.for_ (Tg.one 8) (CIt.rng1 (CE.bin (BOp.add) (CE.blt (BF.max1) (CEs.cons (CE.var 2) .nil)) (CE.cint 1))) (CSs.cons (CS.asg 9 (CE.call 0 (CEs.cons (CE.var 0) (CEs.cons (CE.var 8) .nil)))) (CSs.cons (CS.ife (CE.cmp (COp.isn) (CE.var 9) (CE.cnon)) (CSs.cons (CS.asg 10 (CE.ite (CE.cmp (COp.eq) (CE.idx (CE.var 1) (CE.var 3)) (CE.cstr "first")) (CE.tup (CEs.cons (CE.var 9) (CEs.cons (CE.var 8) .nil))) (CE.tup (CEs.cons (CE.var 8) (CEs.cons (CE.var 9) .nil))))) (CSs.cons (CS.asg 11 (CE.tup (CEs.cons (CE.bin (BOp.sub) (CE.idx (CE.var 2) (CE.cint 0)) (CE.idx (CE.var 10) (CE.cint 0))) (CEs.cons (CE.bin (BOp.sub) (CE.idx (CE.var 2) (CE.cint 1)) (CE.idx (CE.var 10) (CE.cint 1))) .nil)))) (CSs.cons (CS.ife (CE.andd (CE.cmp (COp.ge) (CE.blt (BF.min1) (CEs.cons (CE.var 11) .nil)) (CE.cint 0)) (CE.call 1 (CEs.cons (CE.var 0) (CEs.cons (CE.var 5) (CEs.cons (CE.var 11) .nil))))) (CSs.cons (CS.app 7 (CE.var 10)) .nil) .nil) .nil))) .nil) .nil))) (CSs.cons (CS.ret (CE.blt (BF.sorted) (CEs.cons (CE.var 7) .nil))) .nil)))))
theorem h_set_results : bodyE (compS C_set_results (defScope s_set_results) 40) (defBody s_set_results) = some c_set_results := by decide +kernel
def F_set_results : Fn := ⟨4, runF [F_winner_points, F_is_possible] c_set_results 12, true⟩
theorem o_set_results : okC (frs [F_winner_points, F_is_possible]) true N_set_results c_set_results = true := by decide +kernel
theorem kd_set_results {P : Program} {w : World} {K : PySem.W.Frag} {mg : Str → Option Value} {base : Heap} {f : Addr} {fd : FuncData} (F : Fun K "set_results" "set_results" s_set_results f fd) (bi : ∀ y ∈ bNames, mg y = none) (k0 : Kd P w K mg base 1 "winner_points" (F_winner_points)) (k1 : Kd P w K mg base 4 "is_possible" (F_is_possible)) (hm : mg "set_results" = some (.ref f)) : Kd P w K mg base 5 "set_results" F_set_results :=
  kd_ok (kk := 4) (F.binds (ps := ["rule", "winners", "totals", "index"]) fun _ _ _ _ _ _ us hl => match us, hl with | [_, _, _, _], _ => rfl) hm F sc_set_results (by decide) h_set_results o_set_results bi rfl (fun k G nm h1 h2 => match k, h1, h2 with | 0, h1, h2 => by cases h1; cases h2; exact ⟨1, by decide, k0⟩ | 1, h1, h2 => by cases h1; cases h2; exact ⟨4, by decide, k1⟩ | _ + 2, h1, _ => nomatch h1)
abbrev s_law : Stmt := top 16
abbrev N_law : List Str := ["script", "index", "digits", "rule", "k", "parts", "winners", "digit", "row", "true", "totals", "rows", "at", "due", "some", "found"]
def C_law : Cc := ⟨N_law, ["_law_digits", "_law_rule", "_law_random_row", "_law_totals", "_law_rows", "set_results"], false, 100000, []⟩
theorem sc_law : FnScope N_law ["script"] (defScope s_law) := ⟨rfl, rfl, rfl, by decide +kernel, rfl, by decide +kernel, by decide +kernel⟩
def c_law : CSs := (CSs.cons (CS.for_ (Tg.one 1) (CIt.rng1 (CE.cint 5)) (CSs.cons (CS.asg 2 (CE.call 0 (CEs.cons (CE.var 0) (CEs.cons (CE.var 1) (CEs.cons (CE.cint 60) (CEs.cons (CE.cint 27720) .nil)))))) (CSs.cons (CS.asg 3 (CE.call 1 (CEs.cons (CE.var 2) (CEs.cons (CE.cint 4) .nil)))) (CSs.cons (CS.for_ (Tg.one 4) (CIt.rng1 (CE.cint 3)) (CSs.cons (CS.asg 5 (CE.sl11 (CE.var 2) (CE.bin (BOp.add) (CE.cint 10) (CE.bin (BOp.mul) (CE.cint 5) (CE.var 4))) (CE.bin (BOp.add) (CE.bin (BOp.add) (CE.cint 11) (CE.bin (BOp.mul) (CE.cint 5) (CE.var 4))) (CE.bin (BOp.mod) (CE.idx (CE.var 2) (CE.bin (BOp.add) (CE.cint 4) (CE.var 4))) (CE.cint 3))))) (CSs.cons (CS.asg 6 (CE.blt (BF.tuple) (CEs.cons (CE.lc (CE.idx (CE.lst (CEs.cons (CE.cstr "first") (CEs.cons (CE.cstr "second") .nil))) (CE.bin (BOp.mod) (CE.var 7) (CE.cint 2))) (Tg.one 7) (CIt.seq (CE.var 5)) .nil [7]) .nil))) (CSs.cons (CS.asg 8 (CE.call 2 (CEs.cons (CE.sl10 (CE.var 2) (CE.bin (BOp.add) (CE.cint 30) (CE.bin (BOp.mul) (CE.cint 5) (CE.var 4)))) (CEs.cons (CE.var 3) (CEs.cons (CE.var 6) (CEs.cons (CE.cint 4) .nil)))))) (CSs.cons (CS.asg 9 (CE.call 3 (CEs.cons (CE.var 8) .nil))) (CSs.cons (CS.for_ (Tg.one 10) (CIt.seq (CE.tup (CEs.cons (CE.var 9) (CEs.cons (CE.tup (CEs.cons (CE.bin (BOp.add) (CE.idx (CE.var 9) (CE.cint 0)) (CE.cint 1)) (CEs.cons (CE.idx (CE.var 9) (CE.cint 1)) .nil))) (CEs.cons (CE.tup (CEs.cons (CE.idx (CE.var 9) (CE.cint 0)) (CEs.cons (CE.blt (BF.max2) (CEs.cons (CE.cint 0) (CEs.cons (CE.bin (BOp.sub) (CE.idx (CE.var 9) (CE.cint 1)) (CE.cint 1)) .nil))) .nil))) (CEs.cons (CE.tup (CEs.cons (CE.cint 7) (CEs.cons (CE.cint 7) .nil))) .nil)))))) (CSs.cons (CS.asg 11 (CE.call 4 (CEs.cons (CE.var 3) (CEs.cons (CE.var 6) (CEs.cons (CE.var 10) .nil))))) (CSs.cons (CS.ife (CE.andd (CE.cmp (COp.eq) (CE.var 10) (CE.var 9)) (CE.cmp (COp.nin) (CE.var 8) (CE.var 11))) (CSs.cons (CS.ret (CE.cbl false)) .nil) .nil) (CSs.cons (CS.for_ (Tg.one 12) (CIt.rng1 (CE.blt (BF.len) (CEs.cons (CE.var 6) .nil))) (CSs.cons (CS.asg 13 (CE.blt (BF.ssort) (CEs.cons (CE.lc (CE.idx (CE.var 14) (CE.var 12)) (Tg.one 14) (CIt.seq (CE.var 11)) .nil [14]) .nil))) (CSs.cons (CS.asg 15 (CE.call 5 (CEs.cons (CE.var 3) (CEs.cons (CE.var 6) (CEs.cons (CE.var 10) (CEs.cons (CE.var 12) .nil)))))) (CSs.cons (CS.ife (CE.orr (CE.cmp (COp.ne) (CE.var 15) (CE.var 13)) (CE.nott (CE.blt (BF.isi (Ty.lst)) (CEs.cons (CE.var 15) .nil)))) (CSs.cons (CS.ret (CE.cbl false)) .nil) .nil) (CSs.cons (CS.app 15 (CE.cnon)) (CSs.cons (CS.ife (CE.cmp (COp.ne) (CE.call 5 (CEs.cons (CE.var 3) (CEs.cons (CE.var 6) (CEs.cons (CE.var 10) (CEs.cons (CE.var 12) .nil))))) (CE.var 13)) (CSs.cons (CS.ret (CE.cbl false)) .nil) .nil) .nil)))))) .nil)))) .nil)))))) .nil)))) (CSs.cons (CS.ret (CE.cmp (COp.eq) (CE.call 5 (CEs.cons (CE.tup (CEs.cons (CE.cint 3) (CEs.cons (CE.cint 2) (CEs.cons (CE.cint 0) .nil)))) (CEs.cons (CE.tup (CEs.cons (CE.cstr "first") (CEs.cons (CE.cstr "second") (CEs.cons (CE.cstr "first") .nil)))) (CEs.cons (CE.tup (CEs.cons (CE.cint 7) (CEs.cons (CE.cint 5) .nil))) (CEs.cons (CE.cint 1) .nil))))) (CE.lst (CEs.cons (CE.tup (CEs.cons (CE.cint 0) (CEs.cons (CE.cint 3) .nil))) (CEs.cons (CE.tup (CEs.cons (CE.cint 1) (CEs.cons (CE.cint 3) .nil))) .nil))))) .nil))
theorem h_law : bodyE (compS C_law (defScope s_law) 40) (defBody s_law) = some c_law := by decide +kernel
def F_law : Fn := ⟨1, runF [F_law_digits, F_law_rule, F_law_random_row, F_law_totals, F_law_rows, F_set_results] c_law 16, true⟩
theorem o_law : okC (frs [F_law_digits, F_law_rule, F_law_random_row, F_law_totals, F_law_rows, F_set_results]) true N_law c_law = true := by decide +kernel
theorem ok_law {P : Program} {w : World} {K : PySem.W.Frag} {mg : Str → Option Value} {base : Heap} {f : Addr} {fd : FuncData} (F : Fun K "law" "law" s_law f fd) (bi : ∀ y ∈ bNames, mg y = none) (k0 : Kd P w K mg base 2 "_law_digits" (F_law_digits)) (k1 : Kd P w K mg base 1 "_law_rule" (F_law_rule)) (k2 : Kd P w K mg base 2 "_law_random_row" (F_law_random_row)) (k3 : Kd P w K mg base 1 "_law_totals" (F_law_totals)) (k4 : Kd P w K mg base 2 "_law_rows" (F_law_rows)) (k5 : Kd P w K mg base 5 "set_results" (F_set_results)) : FnOk P w K mg base CX0 6 f fd ["script"] (spF K F_law) :=
  fn_okF (kk := 5) F sc_law (by decide) h_law o_law bi rfl (fun k G nm h1 h2 => match k, h1, h2 with | 0, h1, h2 => by cases h1; cases h2; exact ⟨2, by decide, k0⟩ | 1, h1, h2 => by cases h1; cases h2; exact ⟨1, by decide, k1⟩ | 2, h1, h2 => by cases h1; cases h2; exact ⟨2, by decide, k2⟩ | 3, h1, h2 => by cases h1; cases h2; exact ⟨1, by decide, k3⟩ | 4, h1, h2 => by cases h1; cases h2; exact ⟨2, by decide, k4⟩ | 5, h1, h2 => by cases h1; cases h2; exact ⟨5, by decide, k5⟩ | _ + 6, h1, _ => nomatch h1)

/-! ### rows of pairs: their order -/
section rows
open PySem.W
def ltQ (a b : Int × Int) : Prop := a.1 < b.1 ∨ (a.1 = b.1 ∧ a.2 < b.2)
def ltR : List (Int × Int) → List (Int × Int) → Prop
  | a :: r, b :: s => ltQ a b ∨ (a = b ∧ ltR r s)
  | _, _ => False
def rowE (r : List (Int × Int)) : D := .tup (r.map prD)
theorem ltR_app : ∀ {r s u v : List (Int × Int)}, ltR r s → ltR (r ++ u) (s ++ v)
  | [], _, _, _, h => h.elim
  | _ :: _, [], _, _, h => h.elim
  | a :: r, b :: s, u, v, h => by
    rcases h with h | ⟨h1, h2⟩
    · exact .inl h
    · exact .inr ⟨h1, ltR_app h2⟩
theorem ltR_pre : ∀ {r : List (Int × Int)} {p q : Int × Int}, ltQ p q → ltR (r ++ [p]) (r ++ [q])
  | [], p, q, h => .inl h
  | a :: r, p, q, h => .inr ⟨rfl, ltR_pre h⟩
theorem tk_row (a : Int × Int) (r : List (Int × Int)) : keyToksAll (pyL ((a :: r).map prD)) = Sum.inl 1 :: Sum.inl 1 :: Sum.inl a.1 :: Sum.inl 1 :: Sum.inl a.2 :: Sum.inl 0 :: keyToksAll (pyL (r.map prD)) := rfl
theorem lt_no : ∀ {r s : List (Int × Int)}, ltR r s → PyProof.Rows.lexLt itemOrd (keyToksAll (pyL (s.map prD))) (keyToksAll (pyL (r.map prD))) = false
  | [], _, h => h.elim
  | _ :: _, [], h => h.elim
  | a :: r, b :: s, h => by
    rw [tk_row, tk_row, lex_self (O := itemOrd), lex_self (O := itemOrd)]
    rcases h with h | ⟨h1, h2⟩
    · rcases h with h | ⟨h1, h2⟩
      · rw [lex_diff (O := itemOrd) (fun z => by have := Sum.inl.inj z; omega)]
        show decide (b.1 < a.1) = false
        exact decide_eq_false (by omega)
      · rw [h1, lex_self (O := itemOrd), lex_self (O := itemOrd), lex_diff (O := itemOrd) (fun z => by have := Sum.inl.inj z; omega)]
        show decide (b.2 < a.2) = false
        exact decide_eq_false (by omega)
    · rw [h1, lex_self (O := itemOrd), lex_self (O := itemOrd), lex_self (O := itemOrd), lex_self (O := itemOrd)]
      exact lt_no h2
theorem al_rows : ∀ {r s : List (Int × Int)}, r.length = s.length → alikeAll (pyL (r.map prD)) (pyL (s.map prD)) = true
  | [], [], _ => rfl
  | [], _ :: _, h => by cases h
  | _ :: _, [], h => by cases h
  | a :: r, b :: s, h => by
    show (true && alikeAll (pyL (r.map prD)) (pyL (s.map prD))) = true
    rw [al_rows (by simpa using h)]; rfl
theorem lay_rowE : ∀ rs : List (List (Int × Int)), PyData.canLayAll0 (pyL (rs.map rowE)) = true ∧ PyData.depthAll (pyL (rs.map rowE)) ≤ 2
  | [] => ⟨rfl, by decide⟩
  | r :: rs => by
    obtain ⟨q1, q2⟩ := lay_rowE rs
    obtain ⟨q3, q4⟩ := lay_rows (plain_prs r)
    refine ⟨?_, ?_⟩
    · show (PyData.canLayAll0 (pyL (r.map prD)) && PyData.canLayAll0 (pyL (rs.map rowE))) = true
      rw [q1, q3]; rfl
    · show max (PyData.depthAll (pyL (r.map prD)) + 1) (PyData.depthAll (pyL (rs.map rowE))) ≤ 2
      omega
theorem pyL_mem : ∀ {rs : List (List (Int × Int))} {d : PyData}, d ∈ pyL (rs.map rowE) → ∃ r ∈ rs, d = .tuple (pyL (r.map prD))
  | [], d, h => by cases h
  | r :: rs, d, h => by
    rcases List.mem_cons.mp (show d ∈ py (rowE r) :: pyL (rs.map rowE) from h) with h | h
    · exact ⟨r, List.mem_cons_self, h⟩
    · obtain ⟨q, hq, e⟩ := pyL_mem h
      exact ⟨q, List.mem_cons_of_mem _ hq, e⟩
theorem asc_rows : ∀ {rs : List (List (Int × Int))}, rs.Pairwise ltR → ascB (pyL (rs.map rowE)) = true
  | [], _ => rfl
  | r :: rs, h => by
    obtain ⟨h1, h2⟩ := List.pairwise_cons.mp h
    show ((pyL (rs.map rowE)).all (fun y => !dataLt y (py (rowE r))) && ascB (pyL (rs.map rowE))) = true
    rw [asc_rows h2, Bool.and_true, List.all_eq_true]
    intro d hd
    obtain ⟨s, hs, rfl⟩ := pyL_mem hd
    have : dataLt (.tuple (pyL (s.map prD))) (py (rowE r)) = false := lt_no (h1 s hs)
    rw [this]; rfl
theorem d_sortR (n : Nat) (hn : 1 ≤ n) (rs : List (List (Int × Int))) (hl : ∀ r ∈ rs, r.length = n) (h : rs.Pairwise ltR) : dblt .sorted [.lst (rs.map rowE)] = some (.lst (rs.map rowE)) := by
  cases rs with
  | nil => rfl
  | cons r rs =>
    show (match sortD ((r :: rs).map rowE) with
      | some ys => some (D.lst ys)
      | none => match rowsOk (pyL ((r :: rs).map rowE)) with
        | true => some (D.lst ((r :: rs).map rowE))
        | false => none) = _
    have e1 : sortD ((r :: rs).map rowE) = none := by
      unfold sortD
      have z1 : ints? ((r :: rs).map rowE) = none := rfl
      have z2 : prs? ((r :: rs).map rowE) = none := by
        have hr := hl r List.mem_cons_self
        match r, hr with
        | [], hr => rw [← hr] at hn; exact absurd hn (by decide)
        | [a], _ => rfl
        | [a, b], _ => rfl
        | a :: b :: c :: r, _ => rfl
      rw [z1, z2]
    have e2 : rowsOk (pyL ((r :: rs).map rowE)) = true := by
      unfold rowsOk
      rw [(lay_rowE (r :: rs)).1, asc_rows h, Bool.true_and, Bool.and_true, List.all_eq_true]
      intro d hd
      obtain ⟨s, hs, rfl⟩ := pyL_mem hd
      have hsl := hl s hs
      rw [Bool.and_eq_true, Bool.and_eq_true]
      refine ⟨⟨?_, ?_⟩, ?_⟩
      · cases s with
        | nil => rw [← hsl] at hn; exact absurd hn (by decide)
        | cons a s => rfl
      · refine decide_eq_true ?_
        show PyData.depthAll (pyL (s.map prD)) + 1 ≤ 60
        have := (lay_rows (plain_prs s)).2
        omega
      · rw [List.all_eq_true]
        intro e he
        obtain ⟨u, hu, rfl⟩ := pyL_mem he
        exact al_rows (by rw [hsl, hl u hu])
    rw [e1, e2]
theorem eqv_rowE (r s : List (Int × Int)) : PyData.eqv (py (rowE r)) (py (rowE s)) = decide (r = s) := by
  show PyData.eqvAll (pyL (r.map prD)) (pyL (s.map prD)) = _
  have h := eqv_rows (plain_prs r) (plain_prs s)
  by_cases e : r = s
  · rw [decide_eq_true e, h.mpr (by rw [e])]
  · rw [decide_eq_false e]
    cases k : PyData.eqvAll (pyL (r.map prD)) (pyL (s.map prD)) with
    | false => rfl
    | true => exact absurd (prD_inj (h.mp k)) e
theorem dmem_row (r : List (Int × Int)) (rs : List (List (Int × Int))) : dmem (rowE r) (.lst (rs.map rowE)) = some (decide (r ∈ rs)) := by
  have s1 : SeqAt.shaped (py (rowE r)) = true := shaped_rowsT (plain_prs r)
  have s2 : SeqAt.shaped (py (.lst (rs.map rowE))) = true := by
    obtain ⟨q1, q2⟩ := lay_rowE rs
    show (PyData.canLayAll0 (pyL (rs.map rowE)) && decide (PyData.depthAll (pyL (rs.map rowE)) + 1 ≤ 64)) = true
    rw [q1, decide_eq_true (show PyData.depthAll (pyL (rs.map rowE)) + 1 ≤ 64 by omega)]; rfl
  unfold dmem
  simp only [s1, s2, Bool.and_self, if_true]
  congr 1
  rw [List.any_map]
  have : ((fun z => PyData.eqv (py z) (py (rowE r))) ∘ rowE) = fun s => decide (s = r) := funext fun s => eqv_rowE s r
  rw [this]
  by_cases e : r ∈ rs
  · rw [decide_eq_true e, List.any_eq_true]
    exact ⟨r, e, decide_eq_true rfl⟩
  · rw [decide_eq_false e, List.any_eq_false]
    intro s hs
    rw [decide_eq_true_iff]
    intro z
    rw [z] at hs
    exact e hs
end rows
/-! ### rows of results -/
theorem okW_wp {t l c x : Int} (h : okW t l c x = true) : wp t l c x = some (wpv t l c x) := by
  unfold okW at h
  obtain ⟨p, hp⟩ := Option.isSome_iff_exists.mp h
  unfold wpv
  rw [hp]; rfl
theorem wpv_pos {t l c x : Int} (hl : 1 ≤ l) (h : okW t l c x = true) : x < wpv t l c x := (wp_lt (okW_wp h) hl).1
theorem wpv_mono {t l c x y : Int} (h : okW t l c x = true) (h' : okW t l c y = true) (hxy : x ≤ y) : wpv t l c x ≤ wpv t l c y := by
  have h1 := (wp_iff.mp (okW_wp h)).2
  have h2 := (wp_iff.mp (okW_wp h')).2
  split at h1 <;> split at h2 <;> omega
theorem res_lt {t l c x y : Int} (h : okW t l c x = true) (h' : okW t l c y = true) (hxy : x < y) (b : Bool) : ltQ (resP t l c b x) (resP t l c b y) := by
  have := wpv_mono h h' (Int.le_of_lt hxy)
  unfold ltQ resP
  cases b with
  | true =>
    simp only [if_true]
    omega
  | false =>
    simp only [Bool.false_eq_true, if_false]
    omega
theorem res_nn {t l c x : Int} (hl : 1 ≤ l) (h0 : 0 ≤ x) (h : okW t l c x = true) (b : Bool) : 0 ≤ (resP t l c b x).1 ∧ 0 ≤ (resP t l c b x).2 := by
  have := wpv_pos hl h
  unfold resP
  cases b <;> simp <;> omega
theorem res_le {t l c x m : Int} (hl : 1 ≤ l) (h : okW t l c x = true) (b : Bool) (h1 : (resP t l c b x).1 ≤ m) (h2 : (resP t l c b x).2 ≤ m) : x < m + 1 ∧ wpv t l c x ≤ m ∧ x ≤ m := by
  have := wpv_pos hl h
  unfold resP at h1 h2
  cases b <;> simp at h1 h2 <;> omega
theorem res_inj {t l c x y : Int} (b : Bool) (h : resP t l c b x = resP t l c b y) : x = y := by
  unfold resP at h
  cases b <;> simp at h
  · exact h.1
  · exact h.2
section
variable (t l c T1 T2 : Int)
def okX (b : Bool) (r : List (Int × Int)) (x : Int) : Bool := okW t l c x && (decide (wpv t l c x ≤ max T1 T2) && (decide (tot1 r + (resP t l c b x).1 ≤ T1) && decide (tot2 r + (resP t l c b x).2 ≤ T2)))
def extR (b : Bool) (r : List (Int × Int)) : List (List (Int × Int)) := ((iR (max T1 T2 + 1).toNat).filter (okX t l c T1 T2 b r)).map fun x => r ++ [resP t l c b x]
def rowsF : List (List (Int × Int)) → List Bool → List (List (Int × Int))
  | rs, [] => rs
  | rs, b :: bs => rowsF (rs.flatMap (extR t l c T1 T2 b)) bs
end
theorem tot_snoc (r : List (Int × Int)) (p : Int × Int) : tot1 (r ++ [p]) = tot1 r + p.1 ∧ tot2 (r ++ [p]) = tot2 r + p.2 := by
  obtain ⟨h1, h2⟩ := tot_app r [p]
  rw [h1, h2]
  unfold tot1 tot2
  simp
theorem tot_cons (r : List (Int × Int)) (p : Int × Int) : tot1 (p :: r) = p.1 + tot1 r ∧ tot2 (p :: r) = p.2 + tot2 r := by
  unfold tot1 tot2
  simp
def okL (t l c : Int) (xs : List Int) : Prop := ∀ x ∈ xs, 0 ≤ x ∧ okW t l c x = true
theorem rowP_nn {t l c : Int} (hl : 1 ≤ l) : ∀ {bs : List Bool} {xs : List Int}, okL t l c xs → 0 ≤ tot1 (rowP t l c bs xs) ∧ 0 ≤ tot2 (rowP t l c bs xs)
  | [], xs, _ => by cases xs <;> exact ⟨Int.le_refl _, Int.le_refl _⟩
  | _ :: _, [], _ => ⟨Int.le_refl _, Int.le_refl _⟩
  | b :: bs, x :: xs, h => by
    obtain ⟨h1, h2⟩ := rowP_nn (bs := bs) hl fun y hy => h y (List.mem_cons_of_mem _ hy)
    obtain ⟨h3, h4⟩ := h x List.mem_cons_self
    obtain ⟨h5, h6⟩ := res_nn hl h3 h4 b
    show 0 ≤ tot1 (resP t l c b x :: rowP t l c bs xs) ∧ 0 ≤ tot2 (resP t l c b x :: rowP t l c bs xs)
    rw [(tot_cons _ _).1, (tot_cons _ _).2]
    omega
theorem ext_mem {t l c T1 T2 : Int} {b : Bool} {r P : List (Int × Int)} : P ∈ extR t l c T1 T2 b r ↔ ∃ x, (0 ≤ x ∧ x < max T1 T2 + 1) ∧ okW t l c x = true ∧ wpv t l c x ≤ max T1 T2 ∧ tot1 P ≤ T1 ∧ tot2 P ≤ T2 ∧ P = r ++ [resP t l c b x] := by
  unfold extR okX
  rw [List.mem_map]
  constructor
  · rintro ⟨x, hx, rfl⟩
    obtain ⟨h1, h2⟩ := List.mem_filter.mp hx
    simp only [Bool.and_eq_true, decide_eq_true_iff] at h2
    have := iR_mem.mp h1
    rw [(tot_snoc _ _).1, (tot_snoc _ _).2]
    exact ⟨x, by omega, h2.1, h2.2.1, h2.2.2.1, h2.2.2.2, rfl⟩
  · rintro ⟨x, h1, h2, h3, h4, h5, rfl⟩
    rw [(tot_snoc _ _).1] at h4
    rw [(tot_snoc _ _).2] at h5
    refine ⟨x, List.mem_filter.mpr ⟨iR_mem.mpr (by omega), ?_⟩, rfl⟩
    simp only [Bool.and_eq_true, decide_eq_true_iff]
    exact ⟨h2, h3, h4, h5⟩
theorem rowsF_iff {t l c T1 T2 : Int} (hl : 1 ≤ l) : ∀ (bs : List Bool) (rs : List (List (Int × Int))), (∀ r ∈ rs, (0 ≤ tot1 r ∧ tot1 r ≤ T1) ∧ 0 ≤ tot2 r ∧ tot2 r ≤ T2) → ∀ P, P ∈ rowsF t l c T1 T2 rs bs ↔ ∃ r ∈ rs, ∃ xs : List Int, xs.length = bs.length ∧ okL t l c xs ∧ P = r ++ rowP t l c bs xs ∧ tot1 P ≤ T1 ∧ tot2 P ≤ T2
  | [], rs, h, P => by
    show P ∈ rs ↔ _
    constructor
    · intro hp
      exact ⟨P, hp, [], rfl, (fun x hx => by cases hx), by simp [rowP], (h P hp).1.2, (h P hp).2.2⟩
    · rintro ⟨r, hr, xs, h1, _, h3, _⟩
      have : xs = [] := List.length_eq_zero_iff.mp h1
      rw [h3, this]
      simpa [rowP] using hr
  | b :: bs, rs, h, P => by
    have hb : ∀ r ∈ rs.flatMap (extR t l c T1 T2 b), (0 ≤ tot1 r ∧ tot1 r ≤ T1) ∧ 0 ≤ tot2 r ∧ tot2 r ≤ T2 := fun r hr => by
      obtain ⟨q, hq, hr⟩ := List.mem_flatMap.mp hr
      obtain ⟨x, h1, h2, h3, h4, h5, rfl⟩ := ext_mem.mp hr
      have hn := res_nn hl h1.1 h2 b
      have := h q hq
      refine ⟨⟨?_, h4⟩, ?_, h5⟩
      · rw [(tot_snoc _ _).1]; omega
      · rw [(tot_snoc _ _).2]; omega
    show P ∈ rowsF t l c T1 T2 (rs.flatMap (extR t l c T1 T2 b)) bs ↔ _
    rw [rowsF_iff hl bs _ hb P]
    constructor
    · rintro ⟨r, hr, xs, h1, h2, h3, h4⟩
      obtain ⟨q, hq, hr⟩ := List.mem_flatMap.mp hr
      obtain ⟨x, g1, g2, g3, g4, g5, rfl⟩ := ext_mem.mp hr
      refine ⟨q, hq, x :: xs, by simp [h1], fun y hy => ?_, ?_, h4⟩
      · rcases List.mem_cons.mp hy with rfl | hy
        · exact ⟨g1.1, g2⟩
        · exact h2 y hy
      · rw [h3, List.append_assoc]; rfl
    · rintro ⟨r, hr, xs, h1, h2, h3, h4⟩
      cases xs with
      | nil => cases h1
      | cons x xs =>
        obtain ⟨x0, x1⟩ := h2 x List.mem_cons_self
        have h2' : okL t l c xs := fun y hy => h2 y (List.mem_cons_of_mem _ hy)
        have e : P = (r ++ [resP t l c b x]) ++ rowP t l c bs xs := by rw [h3, List.append_assoc]; rfl
        obtain ⟨n1, n2⟩ := rowP_nn (bs := bs) hl h2'
        obtain ⟨n3, n4⟩ := res_nn hl x0 x1 b
        have hr' := h r hr
        have g1 : tot1 (r ++ [resP t l c b x]) ≤ T1 := by
          have := h4.1
          rw [e, (tot_app _ _).1] at this
          omega
        have g2 : tot2 (r ++ [resP t l c b x]) ≤ T2 := by
          have := h4.2
          rw [e, (tot_app _ _).2] at this
          omega
        have g3 := g1
        have g4 := g2
        rw [(tot_snoc _ _).1] at g3
        rw [(tot_snoc _ _).2] at g4
        obtain ⟨k1, k2, _⟩ := res_le (m := max T1 T2) hl x1 b (by omega) (by omega)
        refine ⟨_, List.mem_flatMap.mpr ⟨r, hr, ext_mem.mpr ⟨x, ⟨x0, k1⟩, x1, k2, g1, g2, rfl⟩⟩, xs, by simpa using h1, h2', e, h4⟩
theorem iR_asc (n : Nat) : (iR n).Pairwise (· < ·) := by
  unfold iR
  rw [List.pairwise_map]
  exact List.pairwise_lt_range.imp fun {a b} h => by omega
theorem ext_asc {t l c T1 T2 : Int} (b : Bool) (r : List (Int × Int)) : (extR t l c T1 T2 b r).Pairwise ltR := by
  unfold extR
  rw [List.pairwise_map]
  refine List.Pairwise.imp_of_mem (fun {x y} hx hy h => ?_) ((iR_asc _).filter _)
  have h1 := (List.mem_filter.mp hx).2
  have h2 := (List.mem_filter.mp hy).2
  unfold okX at h1 h2
  simp only [Bool.and_eq_true] at h1 h2
  exact ltR_pre (res_lt h1.1 h2.1 h b)
theorem rowsF_asc {t l c T1 T2 : Int} : ∀ (bs : List Bool) (rs : List (List (Int × Int))) (n : Nat), rs.Pairwise ltR → (∀ r ∈ rs, r.length = n) → (rowsF t l c T1 T2 rs bs).Pairwise ltR ∧ ∀ r ∈ rowsF t l c T1 T2 rs bs, r.length = n + bs.length
  | [], rs, n, h, hn => ⟨h, hn⟩
  | b :: bs, rs, n, h, hn => by
    have h1 : (rs.flatMap (extR t l c T1 T2 b)).Pairwise ltR := by
      refine List.pairwise_flatMap.mpr ⟨fun r _ => ext_asc b r, h.imp fun {r s} hrs p hp q hq => ?_⟩
      obtain ⟨x, _, _, _, _, _, rfl⟩ := ext_mem.mp hp
      obtain ⟨y, _, _, _, _, _, rfl⟩ := ext_mem.mp hq
      exact ltR_app hrs
    have h2 : ∀ r ∈ rs.flatMap (extR t l c T1 T2 b), r.length = n + 1 := fun r hr => by
      obtain ⟨q, hq, hr⟩ := List.mem_flatMap.mp hr
      obtain ⟨x, _, _, _, _, _, rfl⟩ := ext_mem.mp hr
      rw [List.length_append, hn q hq]; rfl
    obtain ⟨h3, h4⟩ := rowsF_asc bs _ (n + 1) h1 h2
    exact ⟨h3, fun r hr => by rw [h4 r hr, List.length_cons]; omega⟩
theorem flat_len {α β : Type} {f : α → List β} {m : Nat} (h : ∀ x, (f x).length ≤ m) : ∀ xs : List α, (xs.flatMap f).length ≤ m * xs.length
  | [] => Nat.zero_le _
  | x :: r => by
    rw [List.flatMap_cons, List.length_append, List.length_cons, Nat.mul_add, Nat.mul_one]
    have := flat_len h r
    have := h x
    omega
theorem ext_len (t l c T1 T2 : Int) (b : Bool) (r : List (Int × Int)) : (extR t l c T1 T2 b r).length ≤ (max T1 T2 + 1).toNat := by
  unfold extR
  rw [List.length_map]
  have := List.length_filter_le (okX t l c T1 T2 b r) (iR (max T1 T2 + 1).toNat)
  rw [iR_len] at this
  exact this
/-! ### which results a set can have -/
def cntT : List Bool → Nat
  | [] => 0
  | true :: r => cntT r + 1
  | false :: r => cntT r
def cntF : List Bool → Nat
  | [] => 0
  | true :: r => cntF r
  | false :: r => cntF r + 1
theorem isPos_tt {t l c : Int} {a b : Nat} {T1 T2 : Int} : isPos t l c (a + 1) b T1 T2 ↔ ∃ x p, 0 ≤ x ∧ wp t l c x = some p ∧ isPos t l c a b (T1 - p) (T2 - x) := by
  constructor
  · rintro ⟨own, other, ⟨x, p, h1, h2, h3⟩, h4⟩
    refine ⟨x, p, h1, h2, own, other - x, ?_, ?_⟩
    · rw [show T1 - p - own = T1 - own - p by omega]; exact h3
    · rw [show T2 - x - (other - x) = T2 - other by omega]; exact h4
  · rintro ⟨x, p, h1, h2, own, other, h3, h4⟩
    refine ⟨own, other + x, ⟨x, p, h1, h2, ?_⟩, ?_⟩
    · rw [show other + x - x = other by omega, show T1 - own - p = T1 - p - own by omega]; exact h3
    · rw [show T2 - (other + x) = T2 - x - other by omega]; exact h4
theorem isPos_ff {t l c : Int} {a b : Nat} {T1 T2 : Int} : isPos t l c a (b + 1) T1 T2 ↔ ∃ x p, 0 ≤ x ∧ wp t l c x = some p ∧ isPos t l c a b (T1 - x) (T2 - p) := by
  rw [isPos.swap, isPos_tt]
  constructor
  · rintro ⟨x, p, h1, h2, h3⟩; exact ⟨x, p, h1, h2, isPos.swap.mp h3⟩
  · rintro ⟨x, p, h1, h2, h3⟩; exact ⟨x, p, h1, h2, isPos.swap.mp h3⟩
theorem isPos_00 {t l c T1 T2 : Int} : isPos t l c 0 0 T1 T2 ↔ T1 = 0 ∧ T2 = 0 := by
  constructor
  · rintro ⟨own, other, ⟨h1, h2⟩, ⟨h3, h4⟩⟩
    omega
  · rintro ⟨rfl, rfl⟩
    exact ⟨0, 0, ⟨rfl, rfl⟩, ⟨rfl, rfl⟩⟩
theorem wp_ok {t l c x p : Int} (h : wp t l c x = some p) : okW t l c x = true ∧ wpv t l c x = p := by
  unfold okW wpv
  rw [h]
  exact ⟨rfl, rfl⟩
theorem isPos_rows {t l c : Int} : ∀ (bs : List Bool) (T1 T2 : Int), isPos t l c (cntT bs) (cntF bs) T1 T2 ↔ ∃ xs : List Int, xs.length = bs.length ∧ okL t l c xs ∧ tot1 (rowP t l c bs xs) = T1 ∧ tot2 (rowP t l c bs xs) = T2
  | [], T1, T2 => by
    show isPos t l c 0 0 T1 T2 ↔ _
    rw [isPos_00]
    constructor
    · rintro ⟨rfl, rfl⟩
      exact ⟨[], rfl, (fun x hx => by cases hx), rfl, rfl⟩
    · rintro ⟨xs, h1, _, h3, h4⟩
      rw [← h3, ← h4]
      cases xs <;> exact ⟨rfl, rfl⟩
  | b :: bs, T1, T2 => by
    have key : isPos t l c (cntT (b :: bs)) (cntF (b :: bs)) T1 T2 ↔ ∃ x, 0 ≤ x ∧ okW t l c x = true ∧ isPos t l c (cntT bs) (cntF bs) (T1 - (resP t l c b x).1) (T2 - (resP t l c b x).2) := by
      cases b with
      | true =>
        show isPos t l c (cntT bs + 1) (cntF bs) T1 T2 ↔ _
        rw [isPos_tt]
        constructor
        · rintro ⟨x, p, h1, h2, h3⟩
          obtain ⟨q1, q2⟩ := wp_ok h2
          exact ⟨x, h1, q1, by simpa [resP, q2] using h3⟩
        · rintro ⟨x, h1, h2, h3⟩
          exact ⟨x, _, h1, okW_wp h2, by simpa [resP] using h3⟩
      | false =>
        show isPos t l c (cntT bs) (cntF bs + 1) T1 T2 ↔ _
        rw [isPos_ff]
        constructor
        · rintro ⟨x, p, h1, h2, h3⟩
          obtain ⟨q1, q2⟩ := wp_ok h2
          exact ⟨x, h1, q1, by simpa [resP, q2] using h3⟩
        · rintro ⟨x, h1, h2, h3⟩
          exact ⟨x, _, h1, okW_wp h2, by simpa [resP] using h3⟩
    rw [key]
    constructor
    · rintro ⟨x, h1, h2, h3⟩
      obtain ⟨xs, g1, g2, g3, g4⟩ := (isPos_rows bs _ _).mp h3
      refine ⟨x :: xs, by simp [g1], fun y hy => ?_, ?_, ?_⟩
      · rcases List.mem_cons.mp hy with rfl | hy
        · exact ⟨h1, h2⟩
        · exact g2 y hy
      · show tot1 (resP t l c b x :: rowP t l c bs xs) = T1
        rw [(tot_cons _ _).1]; omega
      · show tot2 (resP t l c b x :: rowP t l c bs xs) = T2
        rw [(tot_cons _ _).2]; omega
    · rintro ⟨xs, g1, g2, g3, g4⟩
      cases xs with
      | nil => cases g1
      | cons x xs =>
        have g3 : tot1 (resP t l c b x :: rowP t l c bs xs) = T1 := g3
        have g4 : tot2 (resP t l c b x :: rowP t l c bs xs) = T2 := g4
        rw [(tot_cons _ _).1] at g3
        rw [(tot_cons _ _).2] at g4
        obtain ⟨x0, x1⟩ := g2 x List.mem_cons_self
        exact ⟨x, x0, x1, (isPos_rows bs _ _).mpr ⟨xs, by simpa using g1, fun y hy => g2 y (List.mem_cons_of_mem _ hy), by omega, by omega⟩⟩
theorem rowP_app {t l c : Int} : ∀ {b1 : List Bool} {x1 : List Int} (b2 : List Bool) (x2 : List Int), b1.length = x1.length → rowP t l c (b1 ++ b2) (x1 ++ x2) = rowP t l c b1 x1 ++ rowP t l c b2 x2
  | [], [], _, _, _ => rfl
  | [], _ :: _, _, _, h => by cases h
  | _ :: _, [], _, _, h => by cases h
  | b :: b1, x :: x1, b2, x2, h => by
    show resP t l c b x :: rowP t l c (b1 ++ b2) (x1 ++ x2) = resP t l c b x :: (rowP t l c b1 x1 ++ rowP t l c b2 x2)
    rw [rowP_app b2 x2 (by simpa using h)]
theorem split_at {xs : List Int} {b1 b2 : List Bool} {b : Bool} (h : xs.length = (b1 ++ b :: b2).length) : ∃ x1 x x2, xs = x1 ++ x :: x2 ∧ x1.length = b1.length ∧ x2.length = b2.length := by
  rw [List.length_append, List.length_cons] at h
  have e := List.take_append_drop b1.length xs
  cases hd : xs.drop b1.length with
  | nil =>
    have := congrArg List.length hd
    rw [List.length_drop, List.length_nil] at this
    omega
  | cons x x2 =>
    rw [hd] at e
    have := congrArg List.length hd
    rw [List.length_drop, List.length_cons] at this
    exact ⟨_, x, x2, e.symm, by rw [List.length_take]; omega, by omega⟩
def okT (T1 T2 : Int) (P : List (Int × Int)) : Bool := decide (tot1 P = T1 ∧ tot2 P = T2)
def rowsT (t l c T1 T2 : Int) (bs : List Bool) : List (List (Int × Int)) := (rowsF t l c T1 T2 [[]] bs).filter (okT T1 T2)
theorem rowsT_mem {t l c T1 T2 : Int} (hl : 1 ≤ l) (h1 : 0 ≤ T1) (h2 : 0 ≤ T2) (bs : List Bool) (P : List (Int × Int)) : P ∈ rowsT t l c T1 T2 bs ↔ ∃ xs : List Int, xs.length = bs.length ∧ okL t l c xs ∧ P = rowP t l c bs xs ∧ tot1 P = T1 ∧ tot2 P = T2 := by
  unfold rowsT okT
  rw [List.mem_filter, decide_eq_true_iff, rowsF_iff hl bs [[]] (fun r hr => by rw [List.mem_singleton.mp hr]; exact ⟨⟨Int.le_refl _, h1⟩, Int.le_refl _, h2⟩)]
  constructor
  · rintro ⟨⟨r, hr, xs, g1, g2, g3, _⟩, g4⟩
    rw [List.mem_singleton.mp hr] at g3
    exact ⟨xs, g1, g2, g3, g4⟩
  · rintro ⟨xs, g1, g2, g3, g4, g5⟩
    exact ⟨⟨[], List.mem_singleton_self _, xs, g1, g2, g3, Int.le_of_eq g4, Int.le_of_eq g5⟩, g4, g5⟩
theorem row_at {t l c : Int} {b1 b2 : List Bool} {b : Bool} {x1 x2 : List Int} {x : Int} (h : x1.length = b1.length) : rowP t l c (b1 ++ b :: b2) (x1 ++ x :: x2) = rowP t l c b1 x1 ++ resP t l c b x :: rowP t l c b2 x2 := rowP_app (b :: b2) (x :: x2) h.symm
theorem set_iff {t l c T1 T2 : Int} (hl : 1 ≤ l) (h1 : 0 ≤ T1) (h2 : 0 ≤ T2) (b1 b2 : List Bool) (b : Bool) (q : Int × Int) :
    (∃ P ∈ rowsT t l c T1 T2 (b1 ++ b :: b2), P[b1.length]? = some q) ↔ ∃ x, 0 ≤ x ∧ okW t l c x = true ∧ q = resP t l c b x ∧ isPos t l c (cntT (b1 ++ b2)) (cntF (b1 ++ b2)) (T1 - q.1) (T2 - q.2) := by
  constructor
  · rintro ⟨P, hP, hq⟩
    obtain ⟨xs, g1, g2, g3, g4, g5⟩ := (rowsT_mem hl h1 h2 _ P).mp hP
    obtain ⟨x1, x, x2, rfl, k1, k2⟩ := split_at g1
    rw [row_at k1] at g3
    obtain ⟨x0, xk⟩ := g2 x (List.mem_append_right _ List.mem_cons_self)
    have hle : (rowP t l c b1 x1).length = b1.length := rowP_len k1.symm
    have e : q = resP t l c b x := by
      rw [g3, List.getElem?_append_right (by omega), hle, Nat.sub_self] at hq
      exact (Option.some.inj hq).symm
    refine ⟨x, x0, xk, e, (isPos_rows _ _ _).mpr ⟨x1 ++ x2, by rw [List.length_append, List.length_append]; omega, fun y hy => g2 y ?_, ?_, ?_⟩⟩
    · rcases List.mem_append.mp hy with h | h
      · exact List.mem_append_left _ h
      · exact List.mem_append_right _ (List.mem_cons_of_mem _ h)
    · rw [rowP_app b2 x2 k1.symm, (tot_app _ _).1]
      rw [g3, (tot_app _ _).1, (tot_cons _ _).1, ← e] at g4
      omega
    · rw [rowP_app b2 x2 k1.symm, (tot_app _ _).2]
      rw [g3, (tot_app _ _).2, (tot_cons _ _).2, ← e] at g5
      omega
  · rintro ⟨x, x0, xk, e, hp⟩
    obtain ⟨xs, g1, g2, g3, g4⟩ := (isPos_rows _ _ _).mp hp
    have k1 : (xs.take b1.length).length = b1.length := by rw [List.length_take, g1, List.length_append]; omega
    have k2 := List.take_append_drop b1.length xs
    generalize xs.take b1.length = x1 at k1 k2
    generalize xs.drop b1.length = x2 at k2
    subst k2
    rw [List.length_append, List.length_append] at g1
    rw [rowP_app b2 x2 k1.symm, (tot_app _ _).1] at g3
    rw [rowP_app b2 x2 k1.symm, (tot_app _ _).2] at g4
    have hle : (rowP t l c b1 x1).length = b1.length := rowP_len k1.symm
    refine ⟨rowP t l c (b1 ++ b :: b2) (x1 ++ x :: x2), (rowsT_mem hl h1 h2 _ _).mpr ⟨x1 ++ x :: x2, by simp; omega, fun y hy => ?_, rfl, ?_, ?_⟩, ?_⟩
    · rcases List.mem_append.mp hy with h | h
      · exact g2 y (List.mem_append_left _ h)
      · rcases List.mem_cons.mp h with rfl | h
        · exact ⟨x0, xk⟩
        · exact g2 y (List.mem_append_right _ h)
    · rw [row_at k1, (tot_app _ _).1, (tot_cons _ _).1, ← e]; omega
    · rw [row_at k1, (tot_app _ _).2, (tot_cons _ _).2, ← e]; omega
    · rw [row_at k1, List.getElem?_append_right (by omega), hle, Nat.sub_self, e]; rfl
/-! ### _law_rows -/
theorem addL (xs ys : List D) (h : xs.length + ys.length ≤ 100000) : dbin .add (.lst xs) (.lst ys) = some (.lst (xs ++ ys)) := by
  show (if xs.length + ys.length ≤ sizeLine then _ else _) = _
  rw [if_pos (Nat.le_trans h (by decide))]
theorem addT (xs ys : List D) (h : xs.length + ys.length ≤ 100000) : dbin .add (.tup xs) (.tup ys) = some (.tup (xs ++ ys)) := by
  show (if xs.length + ys.length ≤ sizeLine then _ else _) = _
  rw [if_pos (Nat.le_trans h (by decide))]
def nthS : Nat → CSs → CS
  | 0, .cons s _ => s
  | n + 1, .cons _ r => nthS n r
  | _, _ => .retn
def bdyS : CS → CSs
  | .for_ _ _ b => b
  | .ife _ a _ => a
  | _ => .nil
def lrB0 : CSs := bdyS (nthS 1 c_law_rows)
def lrB1 : CSs := bdyS (nthS 1 lrB0)
def lrB2 : CSs := bdyS (nthS 0 lrB1)
def lrI : CIt := .rng1 (.bin .add (.blt .max1 (.cons (.var 2) .nil)) (.cint 1))
def lrL : CE := .lc (.var 6) (.one 6) (.seq (.var 3)) (.cons (.cmp .eq (.call 1 (.cons (.var 6) .nil)) (.var 2)) .nil) [6]
theorem lrC : c_law_rows = .cons (.asg 3 (.lst (.cons (.tup .nil) .nil))) (.cons (.for_ (.one 4) (.seq (.var 1)) lrB0) (.cons (.ret (.blt .sorted (.cons lrL .nil))) .nil)) := rfl
theorem lrC0 : lrB0 = .cons (.asg 5 (.lst .nil)) (.cons (.for_ (.one 6) (.seq (.var 3)) lrB1) (.cons (.asg 3 (.var 5)) .nil)) := rfl
theorem lrC1 : lrB1 = .cons (.for_ (.one 7) lrI lrB2) .nil := rfl
theorem eq_side (b : Bool) : dcmp .eq (sideD b) (.str "first") = some b := by
  cases b
  · exact eq_sf
  · exact eq_ff
def lrN : CSs := match bdyS (nthS 1 lrB2) with
  | .cons _ r => r
  | .nil => .nil
theorem lrC2 : lrB2 = .cons (.asg 8 (.call 0 (.cons (.var 0) (.cons (.var 7) .nil)))) (.cons (.ife (.andd (.cmp .isn (.var 8) .cnon) (.cmp .le (.var 8) (.blt .max1 (.cons (.var 2) .nil)))) (.cons (.asg 9 (.ite (.cmp .eq (.var 4) (.cstr "first")) (.tup (.cons (.var 8) (.cons (.var 7) .nil))) (.tup (.cons (.var 7) (.cons (.var 8) .nil))))) lrN) .nil) .nil) := rfl
def PhR : List Fn := [F_law_won, F_law_totals]
theorem lc_0 (Φ : List Fn) (r : List (Int × Int)) (hr : r.length ≤ 900) (e0 e1 e2 e3 e4 e5 e7 e8 e9 e10 : Option D) : ev Φ (.lc (.idx (.var 10) (.cint 0)) (.one 10) (.seq (.var 6)) .nil [10]) [e0, e1, e2, e3, e4, e5, some (.tup (r.map prD)), e7, e8, e9, e10] = some (.lst ((r.map (·.1)).map .int)) := by
  have h0 : lcL (lcF Φ (.idx (.var 10) (.cint 0)) (.one 10) .nil [10] [e0, e1, e2, e3, e4, e5, some (.tup (r.map prD)), e7, e8, e9, e10]) (r.map prD) = some ((r.map (·.1)).map .int) := by
    rw [List.map_map]
    refine lcL_mapA prD (D.int ∘ fun p : Int × Int => p.1) fun p hp => ?_
    have := ix0_prD p
    simp [lcF, setT, wipeE, evC, this]
  have hz' : (r.map prD).length ≤ sizeLine := by rw [List.length_map]; exact Nat.le_trans hr (by decide)
  have hsq : seq? (.tup (r.map prD)) = some (r.map prD) := rfl
  generalize r.map prD = X at *
  generalize (r.map (·.1)).map D.int = A at *
  simp [hsq, h0, hz']
theorem lc_1 (Φ : List Fn) (r : List (Int × Int)) (hr : r.length ≤ 900) (e0 e1 e2 e3 e4 e5 e7 e8 e9 e10 : Option D) : ev Φ (.lc (.idx (.var 10) (.cint 1)) (.one 10) (.seq (.var 6)) .nil [10]) [e0, e1, e2, e3, e4, e5, some (.tup (r.map prD)), e7, e8, e9, e10] = some (.lst ((r.map (·.2)).map .int)) := by
  have h0 : lcL (lcF Φ (.idx (.var 10) (.cint 1)) (.one 10) .nil [10] [e0, e1, e2, e3, e4, e5, some (.tup (r.map prD)), e7, e8, e9, e10]) (r.map prD) = some ((r.map (·.2)).map .int) := by
    rw [List.map_map]
    refine lcL_mapA prD (D.int ∘ fun p : Int × Int => p.2) fun p hp => ?_
    have := ix1_prD p
    simp [lcF, setT, wipeE, evC, this]
  have hz' : (r.map prD).length ≤ sizeLine := by rw [List.length_map]; exact Nat.le_trans hr (by decide)
  have hsq : seq? (.tup (r.map prD)) = some (r.map prD) := rfl
  generalize r.map prD = X at *
  generalize (r.map (·.2)).map D.int = A at *
  simp [hsq, h0, hz']
theorem dmax_pr (a b : Int) : dblt .max1 [pr a b] = some (.int (max a b)) := d_max1 a b
theorem ix0_pr (a b : Int) : didx (pr a b) (.int 0) = some (.int a) := rfl
theorem ix1_pr (a b : Int) : didx (pr a b) (.int 1) = some (.int b) := rfl
section
variable {t l c : Int} (ht : 1 ≤ t) (ht2 : t ≤ 1000) (hl : 1 ≤ l) (hl2 : l ≤ 1000) (hc : 0 ≤ c)
include ht ht2 hl hl2 hc
theorem rw_in (T1 T2 x : Int) (b : Bool) (r : List (Int × Int)) (acc : List (List (Int × Int))) (hx : 0 ≤ x) (hr : r.length < 900) (ha : acc.length < 100000) (W rows m8 m9 m10 : Option D) :
    ∃ m8' m9', exs PhR lrB2 [some (rl t l c), W, some (pr T1 T2), rows, some (sideD b), some (.lst (acc.map rowE)), some (.tup (r.map prD)), some (.int x), m8, m9, m10] =
      some (.nx [some (rl t l c), W, some (pr T1 T2), rows, some (sideD b), some (.lst ((acc ++ (if okX t l c T1 T2 b r x = true then [r ++ [resP t l c b x]] else [])).map rowE)), some (.tup (r.map prD)), some (.int x), m8', m9', m10]) := by
  have hw := r_won t l c x ht ht2 hl hl2 hx hc
  have hz : (acc.map rowE).length < sizeLine := by rw [List.length_map]; exact Nat.lt_of_lt_of_le ha (by decide)
  have hmax := dmax_pr T1 T2
  have g0 := ix0_pr T1 T2
  have g1 := ix1_pr T1 T2
  have hsd := eq_side b
  have L0 := lc_0 PhR r (by omega) (some (rl t l c)) W (some (pr T1 T2)) rows (some (sideD b)) (some (.lst (acc.map rowE)))
  have L1 := lc_1 PhR r (by omega) (some (rl t l c)) W (some (pr T1 T2)) rows (some (sideD b)) (some (.lst (acc.map rowE)))
  have s0 : dblt .sum [.lst ((r.map (·.1)).map .int)] = some (.int (tot1 r)) := d_suml (r.map (·.1))
  have s1 : dblt .sum [.lst ((r.map (·.2)).map .int)] = some (.int (tot2 r)) := d_suml (r.map (·.2))
  have add : ∀ q : Int × Int, dbin .add (.tup (r.map prD)) (.tup [prD q]) = some (rowE (r ++ [q])) := fun q => by
    rw [addT _ _ (by rw [List.length_map]; show r.length + 1 ≤ 100000; omega)]
    unfold rowE
    rw [List.map_append]; rfl
  cases e : wp t l c x with
  | none =>
    rw [e] at hw
    have ho : okX t l c T1 T2 b r x = false := by
      unfold okX okW
      rw [e]; rfl
    rw [ho]
    simp only [Bool.false_eq_true, if_false, List.append_nil]
    refine ⟨some .non, m9, ?_⟩
    generalize pr T1 T2 = PD at *
    generalize rl t l c = R at *
    generalize sideD b = sd at *
    generalize acc.map rowE = A at *
    simp [lrB2, lrB1, lrB0, bdyS, nthS, c_law_rows, PhR, y_call, hw, optD]
  | some p =>
    rw [e] at hw
    obtain ⟨k1, k2⟩ := wp_ok e
    have hok : okX t l c T1 T2 b r x = (decide (p ≤ max T1 T2) && (decide (tot1 r + (resP t l c b x).1 ≤ T1) && decide (tot2 r + (resP t l c b x).2 ≤ T2))) := by
      unfold okX
      rw [k1, k2, Bool.true_and]
    have hres : prD (resP t l c b x) = if b = true then .tup [.int p, .int x] else .tup [.int x, .int p] := by
      unfold resP
      rw [k2]
      cases b <;> rfl
    have j0 := ix0_prD (resP t l c b x)
    have j1 := ix1_prD (resP t l c b x)
    have add := add (resP t l c b x)
    rw [hok]
    generalize resP t l c b x = q at *
    refine ⟨some (.int p), if p ≤ max T1 T2 then some (prD q) else m9, ?_⟩
    generalize pr T1 T2 = PD at *
    generalize rl t l c = R at *
    generalize sideD b = sd at *
    rw [List.map_append]
    by_cases h1 : p ≤ max T1 T2
    · have inner : exs PhR lrN [some R, W, some PD, rows, some sd, some (.lst (acc.map rowE)), some (.tup (r.map prD)), some (.int x), some (.int p), some (prD q), m10] = some (.nx [some R, W, some PD, rows, some sd, some (.lst (acc.map rowE ++ (if (decide (p ≤ max T1 T2) && (decide (tot1 r + q.1 ≤ T1) && decide (tot2 r + q.2 ≤ T2))) = true then [r ++ [q]] else []).map rowE)), some (.tup (r.map prD)), some (.int x), some (.int p), some (prD q), m10]) := by
        by_cases h2 : tot1 r + q.1 ≤ T1 <;> by_cases h3 : tot2 r + q.2 ≤ T2
        · have hsh : [r ++ [q]].map rowE = [rowE (r ++ [q])] := rfl
          simp only [h1, h2, h3, decide_true, Bool.and_self, if_true, hsh]
          generalize rowE (r ++ [q]) = RQ at *
          generalize acc.map rowE = A at *
          generalize r.map prD = RD at *
          generalize (r.map (·.1)).map D.int = V0 at *
          generalize (r.map (·.2)).map D.int = V1 at *
          simp [lrN, lrB2, lrB1, lrB0, bdyS, nthS, c_law_rows, L0, L1, s0, s1, j0, j1, g0, g1, h2, h3, add, dapp, hz]
        all_goals
          generalize acc.map rowE = A at *
          generalize r.map prD = RD at *
          generalize (r.map (·.1)).map D.int = V0 at *
          generalize (r.map (·.2)).map D.int = V1 at *
          simp [lrN, lrB2, lrB1, lrB0, bdyS, nthS, c_law_rows, L0, L1, s0, s1, j0, j1, g0, g1, h2, h3]
      rw [if_pos h1, lrC2]
      generalize lrN = Z at *
      rw [hres] at *
      generalize acc.map rowE ++ _ = A' at *
      generalize acc.map rowE = A at *
      cases b
      · simp only [Bool.false_eq_true, if_false] at inner
        simp [PhR] at inner
        simp [PhR, y_call, hw, optD, hmax, h1, hsd, inner]
      · simp only [if_true] at inner
        simp [PhR] at inner
        simp [PhR, y_call, hw, optD, hmax, h1, hsd, inner]
    · rw [if_neg h1, decide_eq_false h1]
      simp only [Bool.false_and, Bool.false_eq_true, if_false, List.map_nil, List.append_nil]
      generalize acc.map rowE = A at *
      simp [lrB2, lrB1, lrB0, bdyS, nthS, c_law_rows, PhR, y_call, hw, optD, hmax, h1]
theorem rw_row (T1 T2 : Int) (b : Bool) (r : List (Int × Int)) (acc : List (List (Int × Int))) (hr : r.length < 900) (h0 : 0 ≤ max T1 T2) (hM : max T1 T2 ≤ 40) (ha : acc.length + 41 ≤ 100000) (W rows m7 m8 m9 m10 : Option D) :
    ∃ m7' m8' m9', exs PhR lrB1 [some (rl t l c), W, some (pr T1 T2), rows, some (sideD b), some (.lst (acc.map rowE)), some (.tup (r.map prD)), m7, m8, m9, m10] =
      some (.nx [some (rl t l c), W, some (pr T1 T2), rows, some (sideD b), some (.lst ((acc ++ extR t l c T1 T2 b r).map rowE)), some (.tup (r.map prD)), m7', m8', m9', m10]) := by
  obtain ⟨e', q1, m7', m8', m9', rfl⟩ := forL_accA (f := forF PhR (.one 7) lrB2) D.int (St := fun acc e => ∃ m7 m8 m9, e = [some (rl t l c), W, some (pr T1 T2), rows, some (sideD b), some (.lst (acc.map rowE)), some (.tup (r.map prD)), m7, m8, m9, m10])
    (fun x => if okX t l c T1 T2 b r x = true then [r ++ [resP t l c b x]] else []) 1 (iR (max T1 T2 + 1).toNat) acc _ ⟨m7, m8, m9, rfl⟩ (by rw [iR_len]; omega) (fun x hx acc env ha ⟨m7, m8, m9, he⟩ => by
      subst he
      obtain ⟨m8', m9', z⟩ := rw_in ht ht2 hl hl2 hc T1 T2 x b r acc (iR_mem.mp hx).1 hr (by omega) W rows m8 m9 m10
      exact ⟨_, z, some (.int x), m8', m9', rfl⟩) (fun x _ => by split <;> simp)
  refine ⟨m7', m8', m9', ?_⟩
  have hg : rg1 (.int (max T1 T2 + 1)) = some ((iR (max T1 T2 + 1).toNat).map D.int) := by rw [rg1_mk (by omega) (by omega), rngD_iR]
  have hmax := dmax_pr T1 T2
  rw [flat_if] at q1
  have e : ((iR (max T1 T2 + 1).toNat).filter (okX t l c T1 T2 b r)).map (fun x => r ++ [resP t l c b x]) = extR t l c T1 T2 b r := rfl
  rw [e] at q1
  generalize (extR t l c T1 T2 b r) = Z at q1 ⊢
  generalize pr T1 T2 = PD at *
  generalize (iR (max T1 T2 + 1).toNat).map D.int = I at *
  simp [lrC1, y_for, lrI, hmax, hg, q1]
theorem rw_lev (T1 T2 : Int) (b : Bool) (n : Nat) (rs : List (List (Int × Int))) (hn : n < 900) (hrs : ∀ r ∈ rs, r.length = n) (h0 : 0 ≤ max T1 T2) (hM : max T1 T2 ≤ 40) (hz : 41 * rs.length ≤ 90000) (W m5 m6 m7 m8 m9 m10 : Option D) :
    ∃ m5' m6' m7' m8' m9', exs PhR lrB0 [some (rl t l c), W, some (pr T1 T2), some (.lst (rs.map rowE)), some (sideD b), m5, m6, m7, m8, m9, m10] =
      some (.nx [some (rl t l c), W, some (pr T1 T2), some (.lst ((rs.flatMap (extR t l c T1 T2 b)).map rowE)), some (sideD b), m5', m6', m7', m8', m9', m10]) := by
  obtain ⟨e', q1, m6', m7', m8', m9', rfl⟩ := forL_accA (f := forF PhR (.one 6) lrB1) rowE (St := fun acc e => ∃ m6 m7 m8 m9, e = [some (rl t l c), W, some (pr T1 T2), some (.lst (rs.map rowE)), some (sideD b), some (.lst (acc.map rowE)), m6, m7, m8, m9, m10])
    (extR t l c T1 T2 b) 41 rs [] [some (rl t l c), W, some (pr T1 T2), some (.lst (rs.map rowE)), some (sideD b), some (.lst ([].map rowE)), m6, m7, m8, m9, m10] ⟨m6, m7, m8, m9, rfl⟩ (by rw [List.length_nil]; omega) (fun r hr acc env ha ⟨m6, m7, m8, m9, he⟩ => by
      subst he
      obtain ⟨m7', m8', m9', z⟩ := rw_row ht ht2 hl hl2 hc T1 T2 b r acc (by rw [hrs r hr]; exact hn) h0 hM ha W (some (.lst (rs.map rowE))) m7 m8 m9 m10
      exact ⟨_, z, some (rowE r), m7', m8', m9', rfl⟩) (fun r hr => Nat.le_trans (ext_len t l c T1 T2 b r) (by omega))
  refine ⟨some (.lst ((rs.flatMap (extR t l c T1 T2 b)).map rowE)), m6', m7', m8', m9', ?_⟩
  rw [List.nil_append] at q1
  generalize rs.flatMap (extR t l c T1 T2 b) = Z at q1 ⊢
  generalize rs.map rowE = Y at q1 ⊢
  rw [List.map_nil] at q1
  simp [lrC0, y_for, seq?, q1]
theorem rw_all (T1 T2 : Int) (h0 : 0 ≤ max T1 T2) (hM : max T1 T2 ≤ 40) (W : Option D) : ∀ (bs : List Bool) (rs : List (List (Int × Int))) (n : Nat), n + bs.length ≤ 800 → bs.length ≤ 3 → (∀ r ∈ rs, r.length = n) → 41 ^ bs.length * rs.length ≤ 80000 → ∀ (m4 m5 m6 m7 m8 m9 m10 : Option D),
    ∃ m4' m5' m6' m7' m8' m9', forL (forF PhR (.one 4) lrB0) (bs.map sideD) [some (rl t l c), W, some (pr T1 T2), some (.lst (rs.map rowE)), m4, m5, m6, m7, m8, m9, m10] =
      some (.nx [some (rl t l c), W, some (pr T1 T2), some (.lst ((rowsF t l c T1 T2 rs bs).map rowE)), m4', m5', m6', m7', m8', m9', m10])
  | [], rs, n, _, _, _, _, m4, m5, m6, m7, m8, m9, m10 => ⟨m4, m5, m6, m7, m8, m9, rfl⟩
  | b :: bs, rs, n, hn, hb, hrs, hz, m4, m5, m6, m7, m8, m9, m10 => by
    rw [List.length_cons] at hb hn
    rw [List.length_cons, Nat.pow_succ, Nat.mul_assoc] at hz
    have hp : 0 < 41 ^ bs.length := Nat.pow_pos (by decide)
    have hz1 : 41 * rs.length ≤ 80000 := Nat.le_trans (Nat.le_mul_of_pos_left _ hp) hz
    obtain ⟨m5', m6', m7', m8', m9', z⟩ := rw_lev ht ht2 hl hl2 hc T1 T2 b n rs (by omega) hrs h0 hM (by omega) W m5 m6 m7 m8 m9 m10
    have h2 := flat_len (m := 41) (fun r => Nat.le_trans (ext_len t l c T1 T2 b r) (by omega)) rs
    obtain ⟨m4', m5'', m6'', m7'', m8'', m9'', z2⟩ := rw_all T1 T2 h0 hM W bs (rs.flatMap (extR t l c T1 T2 b)) (n + 1) (by omega) (by omega) (fun r hr => by
      obtain ⟨q, hq, hr⟩ := List.mem_flatMap.mp hr
      obtain ⟨x, _, _, _, _, _, rfl⟩ := ext_mem.mp hr
      rw [List.length_append, hrs q hq]; rfl) (Nat.le_trans (Nat.mul_le_mul (Nat.le_refl _) h2) hz) (some (sideD b)) m5' m6' m7' m8' m9' m10
    refine ⟨m4', m5'', m6'', m7'', m8'', m9'', ?_⟩
    rw [List.map_cons]
    unfold forL
    have e1 : forF PhR (.one 4) lrB0 [some (rl t l c), W, some (pr T1 T2), some (.lst (rs.map rowE)), m4, m5, m6, m7, m8, m9, m10] (sideD b) = exs PhR lrB0 [some (rl t l c), W, some (pr T1 T2), some (.lst (rs.map rowE)), some (sideD b), m5, m6, m7, m8, m9, m10] := rfl
    rw [e1, z]
    exact z2
end
/-! ### found = due -/
section
variable (t l c T1 T2 : Int)
noncomputable def okF (b : Bool) (cs : Int × Int) (x : Int) : Bool := okW t l c x && (decide (0 ≤ min (T1 - (resP t l c b x).1) (T2 - (resP t l c b x).2)) && posB t l c (T1 - (resP t l c b x).1) (T2 - (resP t l c b x).2) cs)
noncomputable def foundL (b : Bool) (cs : Int × Int) : List (Int × Int) := ((iR (max T1 T2 + 1).toNat).filter (okF t l c T1 T2 b cs)).map (resP t l c b)
end
def csOf (bs : List Bool) : Int × Int := ((cntT bs : Int), (cntF bs : Int))
open Classical in
theorem posB_iff {t l c T1 T2 : Int} {bs : List Bool} : posB t l c T1 T2 (csOf bs) = true ↔ isPos t l c (cntT bs) (cntF bs) T1 T2 := by
  unfold posB
  rw [decide_eq_true_iff]
  exact Iff.rfl
theorem isPos_nn {t l c T1 T2 : Int} (hl : 1 ≤ l) {bs : List Bool} (h : isPos t l c (cntT bs) (cntF bs) T1 T2) : 0 ≤ T1 ∧ 0 ≤ T2 := by
  obtain ⟨xs, _, h2, h3, h4⟩ := (isPos_rows bs T1 T2).mp h
  obtain ⟨h5, h6⟩ := rowP_nn (bs := bs) hl h2
  rw [h3] at h5
  rw [h4] at h6
  exact ⟨h5, h6⟩
theorem found_mem {t l c T1 T2 : Int} (hl : 1 ≤ l) (b : Bool) (bs : List Bool) (q : Int × Int) : q ∈ foundL t l c T1 T2 b (csOf bs) ↔ ∃ x, 0 ≤ x ∧ okW t l c x = true ∧ q = resP t l c b x ∧ isPos t l c (cntT bs) (cntF bs) (T1 - q.1) (T2 - q.2) := by
  unfold foundL
  rw [List.mem_map]
  constructor
  · rintro ⟨x, hx, rfl⟩
    obtain ⟨h1, h2⟩ := List.mem_filter.mp hx
    unfold okF at h2
    simp only [Bool.and_eq_true, decide_eq_true_iff] at h2
    exact ⟨x, (iR_mem.mp h1).1, h2.1, rfl, posB_iff.mp h2.2.2⟩
  · rintro ⟨x, h1, h2, rfl, h4⟩
    obtain ⟨n1, n2⟩ := isPos_nn hl h4
    obtain ⟨k1, _, _⟩ := res_le (m := max T1 T2) hl h2 b (by omega) (by omega)
    refine ⟨x, List.mem_filter.mpr ⟨iR_mem.mpr ⟨h1, by omega⟩, ?_⟩, rfl⟩
    unfold okF
    simp only [Bool.and_eq_true, decide_eq_true_iff]
    exact ⟨h2, by omega, posB_iff.mpr h4⟩
theorem iR_nd (n : Nat) : (iR n).Nodup := (iR_asc n).imp fun {a b} h => by omega
theorem found_nd (t l c T1 T2 : Int) (b : Bool) (cs : Int × Int) : (foundL t l c T1 T2 b cs).Nodup := by
  unfold foundL
  refine List.pairwise_map.mpr (((iR_nd _).filter _).imp fun {x y} h z => h (res_inj b z))
def atP (n : Nat) (P : List (Int × Int)) : Int × Int := P.getD n (0, 0)
theorem rowsT_len {t l c T1 T2 : Int} {bs : List Bool} : ∀ P ∈ rowsT t l c T1 T2 bs, P.length = bs.length := fun P hP => by
  have := (rowsF_asc (t := t) (l := l) (c := c) (T1 := T1) (T2 := T2) bs [[]] 0 (List.pairwise_singleton _ _) (fun r hr => by rw [List.mem_singleton.mp hr]; rfl)).2 P (List.mem_filter.mp hP).1
  omega
theorem due_mem {t l c T1 T2 : Int} (hl : 1 ≤ l) (h1 : 0 ≤ T1) (h2 : 0 ≤ T2) (b1 b2 : List Bool) (b : Bool) (q : Int × Int) : q ∈ (rowsT t l c T1 T2 (b1 ++ b :: b2)).map (atP b1.length) ↔ ∃ x, 0 ≤ x ∧ okW t l c x = true ∧ q = resP t l c b x ∧ isPos t l c (cntT (b1 ++ b2)) (cntF (b1 ++ b2)) (T1 - q.1) (T2 - q.2) := by
  rw [← set_iff hl h1 h2, List.mem_map]
  constructor
  · rintro ⟨P, hP, rfl⟩
    refine ⟨P, hP, ?_⟩
    have := rowsT_len P hP
    unfold atP
    rw [List.getD_eq_getElem?_getD, List.getElem?_eq_getElem (by rw [this, List.length_append, List.length_cons]; omega)]
    rfl
  · rintro ⟨P, hP, hq⟩
    refine ⟨P, hP, ?_⟩
    unfold atP
    rw [List.getD_eq_getElem?_getD, hq]
    rfl
theorem found_due {t l c T1 T2 : Int} (hl : 1 ≤ l) (h1 : 0 ≤ T1) (h2 : 0 ≤ T2) (b1 b2 : List Bool) (b : Bool) : isB leP (foundL t l c T1 T2 b (csOf (b1 ++ b2))) = sPrs ((rowsT t l c T1 T2 (b1 ++ b :: b2)).map (atP b1.length)) := by
  refine rise_uniq leP_as (isB_nd (found_nd _ _ _ _ _ _ _)) (sPrs_rise _) fun q => ?_
  rw [(isB_perm _).mem_iff, sPrs_mem, found_mem hl, due_mem hl h1 h2]
theorem nodup_sub_len {α : Type} [DecidableEq α] : ∀ (xs ys : List α), xs.Nodup → (∀ x ∈ xs, x ∈ ys) → xs.length ≤ ys.length
  | [], _, _, _ => Nat.zero_le _
  | x :: r, ys, nd, h => by
    obtain ⟨n1, n2⟩ := List.nodup_cons.mp nd
    have hx := h x List.mem_cons_self
    have hp := List.length_pos_of_mem hx
    have := nodup_sub_len r (ys.erase x) n2 fun y hy => (List.mem_erase_of_ne (fun z => by subst z; exact n1 hy)).mpr (h y (List.mem_cons_of_mem _ hy))
    rw [List.length_erase_of_mem hx] at this
    rw [List.length_cons]
    omega
theorem rowsF_len {t l c T1 T2 : Int} (hM : max T1 T2 ≤ 40) : ∀ (bs : List Bool) (rs : List (List (Int × Int))), (rowsF t l c T1 T2 rs bs).length ≤ 41 ^ bs.length * rs.length
  | [], rs => by
    show rs.length ≤ 41 ^ 0 * rs.length
    omega
  | b :: bs, rs => by
    have h1 := rowsF_len (t := t) (l := l) (c := c) hM bs (rs.flatMap (extR t l c T1 T2 b))
    have h2 := flat_len (m := 41) (fun r => Nat.le_trans (ext_len t l c T1 T2 b r) (by omega)) rs
    show (rowsF t l c T1 T2 (rs.flatMap (extR t l c T1 T2 b)) bs).length ≤ 41 ^ (bs.length + 1) * rs.length
    rw [Nat.pow_succ, Nat.mul_assoc]
    exact Nat.le_trans h1 (Nat.mul_le_mul (Nat.le_refl _) h2)
theorem pow41 : ∀ n, n ≤ 3 → 41 ^ n ≤ 68921 := by decide
theorem rowsT_size {t l c T1 T2 : Int} (hM : max T1 T2 ≤ 40) {bs : List Bool} (hb : bs.length ≤ 3) : (rowsT t l c T1 T2 bs).length ≤ 68921 := by
  have h1 := List.length_filter_le (okT T1 T2) (rowsF t l c T1 T2 [[]] bs)
  have h2 := rowsF_len (t := t) (l := l) (c := c) hM bs [[]]
  rw [List.length_singleton, Nat.mul_one] at h2
  exact Nat.le_trans h1 (Nat.le_trans h2 (pow41 _ hb))
theorem due_ok {t l c T1 T2 : Int} (hl : 1 ≤ l) (h1 : 0 ≤ T1) (h2 : 0 ≤ T2) (hM : max T1 T2 ≤ 40) (b1 b2 : List Bool) (b : Bool) (hb : (b1 ++ b :: b2).length ≤ 3) :
    dblt .ssort [.lst (((rowsT t l c T1 T2 (b1 ++ b :: b2)).map (atP b1.length)).map prD)] = some (.lst ((sPrs ((rowsT t l c T1 T2 (b1 ++ b :: b2)).map (atP b1.length))).map prD)) := by
  have hm : ∀ q ∈ (rowsT t l c T1 T2 (b1 ++ b :: b2)).map (atP b1.length), q ∈ (iR 41).map (resP t l c b) ∧ 0 ≤ q.1 ∧ q.1 < 64 ∧ 0 ≤ q.2 ∧ q.2 < 64 := fun q hq => by
    obtain ⟨x, x0, x1, rfl, hp⟩ := (due_mem hl h1 h2 b1 b2 b q).mp hq
    obtain ⟨n1, n2⟩ := isPos_nn hl hp
    obtain ⟨n3, n4⟩ := res_nn hl x0 x1 b
    obtain ⟨k1, _, _⟩ := res_le (m := max T1 T2) hl x1 b (by omega) (by omega)
    refine ⟨List.mem_map.mpr ⟨x, iR_mem.mpr ⟨x0, ?_⟩, rfl⟩, n3, by omega, n4, by omega⟩
    show x < 41
    omega
  refine d_ssortP _ ?_ ?_ fun q hq => (hm q hq).2
  · rw [List.length_map]
    have := rowsT_size (t := t) (l := l) (c := c) hM hb
    omega
  · have := nodup_sub_len (sPrs ((rowsT t l c T1 T2 (b1 ++ b :: b2)).map (atP b1.length))) ((iR 41).map (resP t l c b)) ((sPrs_rise _).imp fun h => h.2) fun q hq => (hm q (sPrs_mem.mp hq)).1
    rw [List.length_map, iR_len] at this
    omega
theorem deq_prd (p : Int × Int) (x y : Int) : dcmp .eq (prD p) (pr x y) = some (decide (p.1 = x ∧ p.2 = y)) := deq_pr p.1 p.2 x y
theorem rw_res {T1 T2 : Int} (Z : List (List (Int × Int))) (hz : Z.length ≤ 100000) (hr : ∀ r ∈ Z, r.length ≤ 900) (R W m4 m5 m6 m7 m8 m9 m10 : Option D) :
    ev PhR lrL [R, W, some (pr T1 T2), some (.lst (Z.map rowE)), m4, m5, m6, m7, m8, m9, m10] = some (.lst ((Z.filter (okT T1 T2)).map rowE)) := by
  have hlc : lcL (lcF PhR (.var 6) (.one 6) (.cons (.cmp .eq (.call 1 (.cons (.var 6) .nil)) (.var 2)) .nil) [6] [R, W, some (pr T1 T2), some (.lst (Z.map rowE)), m4, m5, m6, m7, m8, m9, m10]) (Z.map rowE) = some ((Z.filter (okT T1 T2)).map rowE) := by
    refine lcL_filterA rowE rowE (okT T1 T2) fun r hrz => ?_
    have h1 : F_law_totals.run [rowE r] = some (pr (tot1 r) (tot2 r)) := r_totals r (hr r hrz)
    have h2 := deq_pr (tot1 r) (tot2 r) T1 T2
    have h3 : okT T1 T2 r = decide (tot1 r = T1 ∧ tot2 r = T2) := rfl
    rw [h3]
    generalize rowE r = RD at *
    generalize pr (tot1 r) (tot2 r) = P1 at *
    generalize pr T1 T2 = P2 at *
    generalize decide (tot1 r = T1 ∧ tot2 r = T2) = k at *
    cases k <;> simp [lcF, setT, wipeE, evC, PhR, y_call, h1, h2]
  have hz' : Z.length ≤ sizeLine := Nat.le_trans hz (by decide)
  simp only [lrL, y_lc, y_seq, y_var, List.getD_cons_succ, List.getD_cons_zero, Option.bind_some, seq?, hlc, List.length_map, hz', if_true]
theorem run_rows (ds : List D) : F_law_rows.run ds = runF PhR c_law_rows 11 ds := id rfl
@[simp] theorem ar_rows : F_law_rows.ar = 3 := id rfl
theorem rows_end (R T v : D) (ws : List D) (L : List D) (m4 m5 m6 m7 m8 m9 m10 : Option D)
    (q1 : forL (forF PhR (.one 4) lrB0) ws [some R, some (.tup ws), some T, some (.lst [.tup []]), none, none, none, none, none, none, none] = some (.nx [some R, some (.tup ws), some T, some (.lst L), m4, m5, m6, m7, m8, m9, m10]))
    (h : ev PhR lrL [some R, some (.tup ws), some T, some (.lst L), m4, m5, m6, m7, m8, m9, m10] = some v) (hs : dblt .sorted [v] = some v) : F_law_rows.run [R, .tup ws, T] = some v := by
  rw [run_rows, y_run, lrC]
  generalize lrL = E at *
  simp [y_for, seq?, q1, h, hs]
theorem r_rows {t l c : Int} (ht : 1 ≤ t) (ht2 : t ≤ 1000) (hl : 1 ≤ l) (hl2 : l ≤ 1000) (hc : 0 ≤ c) (T1 T2 : Int) (h0 : 0 ≤ max T1 T2) (hM : max T1 T2 ≤ 40) (bs : List Bool) (hb0 : 1 ≤ bs.length) (hb : bs.length ≤ 3) :
    F_law_rows.run [rl t l c, .tup (bs.map sideD), pr T1 T2] = some (.lst ((rowsT t l c T1 T2 bs).map rowE)) := by
  obtain ⟨m4, m5, m6, m7, m8, m9, q1⟩ := rw_all ht ht2 hl hl2 hc T1 T2 h0 hM (some (.tup (bs.map sideD))) bs [[]] 0 (by omega) hb (fun r hr => by rw [List.mem_singleton.mp hr]; rfl) (by rw [List.length_singleton, Nat.mul_one]; exact Nat.le_trans (pow41 _ hb) (by decide)) none none none none none none none
  have hl1 := rowsF_len (t := t) (l := l) (c := c) hM bs [[]]
  rw [List.length_singleton, Nat.mul_one] at hl1
  obtain ⟨a1, a2⟩ := rowsF_asc (t := t) (l := l) (c := c) (T1 := T1) (T2 := T2) bs [[]] 0 (List.pairwise_singleton _ _) (fun r hr => by rw [List.mem_singleton.mp hr]; rfl)
  have hev := rw_res (T1 := T1) (T2 := T2) (rowsF t l c T1 T2 [[]] bs) (by have := pow41 _ hb; omega) (fun r hr => by rw [a2 r hr]; omega) (some (rl t l c)) (some (.tup (bs.map sideD))) m4 m5 m6 m7 m8 m9 none
  have hso := d_sortR bs.length hb0 (rowsT t l c T1 T2 bs) (fun r hr => by rw [a2 r (List.mem_filter.mp hr).1]; omega) (a1.filter _)
  have e : (rowsF t l c T1 T2 [[]] bs).filter (okT T1 T2) = rowsT t l c T1 T2 bs := rfl
  rw [e] at hev
  exact rows_end _ _ _ _ _ m4 m5 m6 m7 m8 m9 none q1 hev hso
/-! ### set_results -/
theorem cut_to (xs : List D) (j : Int) (h : 0 ≤ j) : cutD xs none (some j) = xs.take j.toNat := by
  unfold cutD
  have e : HT.sIx xs.length xs.length (some j) = min j.toNat xs.length := by
    show (if j < 0 then _ else _) = _
    rw [if_neg (by omega)]
  have e0 : HT.sIx xs.length 0 none = 0 := rfl
  rw [e, e0, List.drop_zero, Nat.sub_zero]
  by_cases hl : j.toNat ≤ xs.length
  · rw [Nat.min_eq_left hl]
  · rw [Nat.min_eq_right (by omega), List.take_length, List.take_of_length_le (by omega)]
theorem cut_fr (xs : List D) (j : Int) (h : 0 ≤ j) : cutD xs (some j) none = xs.drop j.toNat := by
  unfold cutD
  have e : HT.sIx xs.length 0 (some j) = min j.toNat xs.length := by
    show (if j < 0 then _ else _) = _
    rw [if_neg (by omega)]
  have e0 : HT.sIx xs.length xs.length none = xs.length := rfl
  rw [e, e0]
  by_cases hl : j.toNat ≤ xs.length
  · rw [Nat.min_eq_left hl, List.take_of_length_le (by rw [List.length_drop]; omega)]
  · rw [Nat.min_eq_right (by omega), List.drop_length, List.drop_of_length_le (by omega)]
    simp
def PhS : List Fn := [F_winner_points, F_is_possible]
def srB : CSs := bdyS (nthS 3 c_set_results)
def srE : CSs := .cons (nthS 3 c_set_results) (.cons (nthS 4 c_set_results) .nil)
theorem srC : c_set_results = .cons (nthS 0 c_set_results) (.cons (nthS 1 c_set_results) (.cons (nthS 2 c_set_results) srE)) := rfl
theorem srC3 : srE = .cons (.for_ (.one 8) (.rng1 (.bin .add (.blt .max1 (.cons (.var 2) .nil)) (.cint 1))) srB) (.cons (.ret (.blt .sorted (.cons (.var 7) .nil))) .nil) := rfl
theorem run_sres (ds : List D) : F_set_results.run ds = runF PhS c_set_results 12 ds := id rfl
@[simp] theorem ar_sres : F_set_results.ar = 4 := id rfl
theorem eq_side2 (b : Bool) : dcmp .eq (sideD b) (.str "second") = some (!b) := by
  cases b <;> decide +kernel
theorem cnt_T : ∀ bs : List Bool, (bs.filter fun b => b).length = cntT bs
  | [] => rfl
  | true :: r => by rw [List.filter_cons_of_pos rfl, List.length_cons, cnt_T r]; rfl
  | false :: r => by rw [List.filter_cons_of_neg (by decide), cnt_T r]; rfl
theorem cnt_F : ∀ bs : List Bool, (bs.filter fun b => !b).length = cntF bs
  | [] => rfl
  | false :: r => by rw [List.filter_cons_of_pos rfl, List.length_cons, cnt_F r]; rfl
  | true :: r => by rw [List.filter_cons_of_neg (by decide), cnt_F r]; rfl
theorem cnt_le : ∀ bs : List Bool, cntT bs ≤ bs.length ∧ cntF bs ≤ bs.length
  | [] => ⟨Nat.le_refl _, Nat.le_refl _⟩
  | true :: r => by have := cnt_le r; exact ⟨Nat.succ_le_succ this.1, Nat.le_succ_of_le this.2⟩
  | false :: r => by have := cnt_le r; exact ⟨Nat.le_succ_of_le this.1, Nat.succ_le_succ this.2⟩
theorem lc_first (Φ : List Fn) (bs : List Bool) (hb : bs.length ≤ 900) (e0 e1 e2 e3 e5 e6 e7 e8 e9 e10 e11 : Option D) : ev Φ (.lc (.var 6) (.one 6) (.seq (.var 4)) (.cons (.cmp .eq (.var 6) (.cstr "first")) .nil) [6]) [e0, e1, e2, e3, some (.tup (bs.map sideD)), e5, e6, e7, e8, e9, e10, e11] = some (.lst ((bs.filter fun b => b).map sideD)) := by
  have h0 : lcL (lcF Φ (.var 6) (.one 6) (.cons (.cmp .eq (.var 6) (.cstr "first")) .nil) [6] [e0, e1, e2, e3, some (.tup (bs.map sideD)), e5, e6, e7, e8, e9, e10, e11]) (bs.map sideD) = some ((bs.filter fun b => b).map sideD) := by
    refine lcL_filterA sideD sideD (fun b => b) fun b _ => ?_
    have := eq_side b
    generalize sideD b = s at *
    cases b <;> simp [lcF, setT, wipeE, evC, this]
  have hz' : (bs.map sideD).length ≤ sizeLine := by rw [List.length_map]; exact Nat.le_trans hb (by decide)
  have hsq : seq? (.tup (bs.map sideD)) = some (bs.map sideD) := rfl
  generalize bs.map sideD = X at *
  generalize (bs.filter fun b => b).map sideD = A at *
  simp [hsq, h0, hz']
theorem lc_second (Φ : List Fn) (bs : List Bool) (hb : bs.length ≤ 900) (e0 e1 e2 e3 e5 e6 e7 e8 e9 e10 e11 : Option D) : ev Φ (.lc (.var 6) (.one 6) (.seq (.var 4)) (.cons (.cmp .eq (.var 6) (.cstr "second")) .nil) [6]) [e0, e1, e2, e3, some (.tup (bs.map sideD)), e5, e6, e7, e8, e9, e10, e11] = some (.lst ((bs.filter fun b => !b).map sideD)) := by
  have h0 : lcL (lcF Φ (.var 6) (.one 6) (.cons (.cmp .eq (.var 6) (.cstr "second")) .nil) [6] [e0, e1, e2, e3, some (.tup (bs.map sideD)), e5, e6, e7, e8, e9, e10, e11]) (bs.map sideD) = some ((bs.filter fun b => !b).map sideD) := by
    refine lcL_filterA sideD sideD (fun b => !b) fun b _ => ?_
    have := eq_side2 b
    generalize sideD b = s at *
    cases b <;> simp [lcF, setT, wipeE, evC, this]
  have hz' : (bs.map sideD).length ≤ sizeLine := by rw [List.length_map]; exact Nat.le_trans hb (by decide)
  have hsq : seq? (.tup (bs.map sideD)) = some (bs.map sideD) := rfl
  generalize bs.map sideD = X at *
  generalize (bs.filter fun b => !b).map sideD = A at *
  simp [hsq, h0, hz']
theorem d_lenl' (xs : List D) : dblt .len [.lst xs] = some (.int xs.length) := id rfl
theorem sr_0 (b1 b2 : List Bool) (b : Bool) (hb : b1.length + b2.length ≤ 900) (n : Int) (hn : n = (b1.length : Int)) (e0 e2 e4 e5 e6 e7 e8 e9 e10 e11 : Option D) :
    ex PhS (nthS 0 c_set_results) [e0, some (.tup ((b1 ++ b :: b2).map sideD)), e2, some (.int n), e4, e5, e6, e7, e8, e9, e10, e11] = some (.nx [e0, some (.tup ((b1 ++ b :: b2).map sideD)), e2, some (.int n), some (.tup ((b1 ++ b2).map sideD)), e5, e6, e7, e8, e9, e10, e11]) := by
  have h1 : dslice (.tup ((b1 ++ b :: b2).map sideD)) none (some n) = some (.tup (b1.map sideD)) := by
    rw [sl_tup, cut_to _ _ (by omega), show n.toNat = b1.length by omega, List.map_append, List.take_append_of_le_length (by rw [List.length_map]; exact Nat.le_refl _), List.take_of_length_le (by rw [List.length_map]; exact Nat.le_refl _)]
  have h2 : dslice (.tup ((b1 ++ b :: b2).map sideD)) (some (n + 1)) none = some (.tup (b2.map sideD)) := by
    rw [sl_tup, cut_fr _ _ (by omega), show (n + 1).toNat = (b1.map sideD).length + 1 by rw [List.length_map]; omega, List.map_append, List.drop_append, List.drop_of_length_le (by omega), List.nil_append, show (b1.map sideD).length + 1 - (b1.map sideD).length = 1 by omega]
    rfl
  have h3 := addT (b1.map sideD) (b2.map sideD) (by rw [List.length_map, List.length_map]; omega)
  rw [← List.map_append] at h3
  generalize (b1 ++ b :: b2).map sideD = W at *
  generalize (b1 ++ b2).map sideD = V at *
  generalize b1.map sideD = X at *
  generalize b2.map sideD = Y at *
  clear hn
  simp [nthS, c_set_results, h1, h2, h3]
theorem sr_1 (bs : List Bool) (hb : bs.length ≤ 900) (e0 e1 e2 e3 e5 e6 e7 e8 e9 e10 e11 : Option D) :
    ex PhS (nthS 1 c_set_results) [e0, e1, e2, e3, some (.tup (bs.map sideD)), e5, e6, e7, e8, e9, e10, e11] = some (.nx [e0, e1, e2, e3, some (.tup (bs.map sideD)), some (prD (csOf bs)), e6, e7, e8, e9, e10, e11]) := by
  have h1 := lc_first PhS bs hb e0 e1 e2 e3 e5 e6 e7 e8 e9 e10 e11
  have h2 := lc_second PhS bs hb e0 e1 e2 e3 e5 e6 e7 e8 e9 e10 e11
  have l1 := d_lenl' ((bs.filter fun b => b).map sideD)
  have l2 := d_lenl' ((bs.filter fun b => !b).map sideD)
  rw [List.length_map, cnt_T] at l1
  rw [List.length_map, cnt_F] at l2
  have e : prD (csOf bs) = .tup [.int (cntT bs), .int (cntF bs)] := rfl
  rw [e]
  generalize (cntT bs : Int) = u at *
  generalize (cntF bs : Int) = v at *
  generalize (bs.filter fun b => b).map sideD = X at *
  generalize (bs.filter fun b => !b).map sideD = Y at *
  generalize bs.map sideD = W at *
  show ex PhS (.asg 5 (.tup (.cons (.blt .len (.cons _ .nil)) (.cons (.blt .len (.cons _ .nil)) .nil)))) _ = _
  generalize CE.lc (.var 6) (.one 6) (.seq (.var 4)) (.cons (.cmp .eq (.var 6) (.cstr "first")) .nil) [6] = E1 at *
  generalize CE.lc (.var 6) (.one 6) (.seq (.var 4)) (.cons (.cmp .eq (.var 6) (.cstr "second")) .nil) [6] = E2 at *
  simp [h1, h2, l1, l2]
theorem sr_in {t l c : Int} (ht : 1 ≤ t) (hc : 0 ≤ c) (hl : 1 ≤ l) (T1 T2 x : Int) (b : Bool) (cs : Int × Int) (W : List D) (n : Int) (hix : didx (.tup W) (.int n) = some (sideD b)) (hx : 0 ≤ x) (u1 : T1 ≤ 250) (u2 : T2 ≤ 250) (hcs : (0 ≤ cs.1 ∧ cs.1 ≤ 900) ∧ 0 ≤ cs.2 ∧ cs.2 ≤ 900) (acc : List (Int × Int)) (ha : acc.length < 100000) (m4 m6 m9 m10 m11 : Option D) :
    ∃ m9' m10' m11', exs PhS srB [some (rl t l c), some (.tup W), some (pr T1 T2), some (.int n), m4, some (prD cs), m6, some (.lst (acc.map prD)), some (.int x), m9, m10, m11] =
      some (.nx [some (rl t l c), some (.tup W), some (pr T1 T2), some (.int n), m4, some (prD cs), m6, some (.lst ((acc ++ (if okF t l c T1 T2 b cs x = true then [resP t l c b x] else [])).map prD)), some (.int x), m9', m10', m11']) := by
  have hw := r_wp t l c x
  have hz : (acc.map prD).length < sizeLine := by rw [List.length_map]; exact Nat.lt_of_lt_of_le ha (by decide)
  have g0 := ix0_pr T1 T2
  have g1 := ix1_pr T1 T2
  have hsd := eq_side b
  cases e : wp t l c x with
  | none =>
    rw [e] at hw
    have ho : okF t l c T1 T2 b cs x = false := by
      unfold okF okW
      rw [e]; rfl
    rw [ho]
    simp only [Bool.false_eq_true, if_false, List.append_nil]
    refine ⟨some .non, m10, m11, ?_⟩
    generalize pr T1 T2 = PD at *
    generalize rl t l c = R at *
    generalize acc.map prD = A at *
    generalize prD cs = CD at *
    simp [srB, bdyS, nthS, c_set_results, PhS, y_call, hw, optD]
  | some p =>
    rw [e] at hw
    obtain ⟨k1, k2⟩ := wp_ok e
    have hnn := res_nn hl hx k1 b
    have hres : prD (resP t l c b x) = if b = true then .tup [.int p, .int x] else .tup [.int x, .int p] := by
      unfold resP
      rw [k2]
      cases b <;> rfl
    have j0 := ix0_prD (resP t l c b x)
    have j1 := ix1_prD (resP t l c b x)
    have hok : okF t l c T1 T2 b cs x = (decide (0 ≤ min (T1 - (resP t l c b x).1) (T2 - (resP t l c b x).2)) && posB t l c (T1 - (resP t l c b x).1) (T2 - (resP t l c b x).2) cs) := by
      unfold okF
      rw [k1, Bool.true_and]
    rw [hok]
    generalize resP t l c b x = q at *
    have hmin : dblt .min1 [pr (T1 - q.1) (T2 - q.2)] = some (.int (min (T1 - q.1) (T2 - q.2))) := d_min1 _ _
    refine ⟨some (.int p), some (prD q), some (pr (T1 - q.1) (T2 - q.2)), ?_⟩
    have hpr : pr (T1 - q.1) (T2 - q.2) = .tup [.int (T1 - q.1), .int (T2 - q.2)] := rfl
    rw [List.map_append]
    by_cases h1 : 0 ≤ min (T1 - q.1) (T2 - q.2)
    · have hp := r_possible' t l c (T1 - q.1) (T2 - q.2) cs ht hc (by omega) (by omega) (by omega) (by omega) hcs.1 hcs.2
      generalize posB t l c (T1 - q.1) (T2 - q.2) cs = k at *
      rw [decide_eq_true h1, Bool.true_and]
      rw [hpr] at hmin hp ⊢
      generalize pr T1 T2 = PD at *
      generalize rl t l c = R at *
      generalize acc.map prD = A at *
      generalize prD cs = CD at *
      have hsh : [q].map prD = [prD q] := rfl
      cases k <;> cases b <;> simp only [hsh, if_true, Bool.false_eq_true, if_false] at hres ⊢ <;> rw [hres] at j0 j1 <;> simp [hres, srB, bdyS, nthS, c_set_results, PhS, y_call, hw, optD, hix, hsd, j0, j1, g0, g1, hmin, h1, hp, dapp, hz]
    · rw [decide_eq_false h1]
      rw [hpr] at hmin ⊢
      simp only [Bool.false_and, Bool.false_eq_true, if_false, List.map_nil, List.append_nil]
      generalize pr T1 T2 = PD at *
      generalize rl t l c = R at *
      generalize acc.map prD = A at *
      generalize prD cs = CD at *
      cases b <;> simp only [if_true, Bool.false_eq_true, if_false] at hres ⊢ <;> rw [hres] at j0 j1 <;> simp [hres, srB, bdyS, nthS, c_set_results, PhS, y_call, hw, optD, hix, hsd, j0, j1, g0, g1, hmin, h1]
theorem sr_end (R W v : D) (T1 T2 : Int) (n : Int) (z : Int) (rest cs : D) (xs L : List D) (m8 m9 m10 m11 : Option D) (hmax : dblt .max1 [pr T1 T2] = some (.int z)) (hr : rg1 (.int (z + 1)) = some xs)
    (q1 : forL (forF PhS (.one 8) srB) xs [some R, some W, some (pr T1 T2), some (.int n), some rest, some cs, none, some (.lst []), none, none, none, none] = some (.nx [some R, some W, some (pr T1 T2), some (.int n), some rest, some cs, none, some (.lst L), m8, m9, m10, m11]))
    (hs : dblt .sorted [.lst L] = some v) (h0 : ex PhS (nthS 0 c_set_results) [some R, some W, some (pr T1 T2), some (.int n), none, none, none, none, none, none, none, none] = some (.nx [some R, some W, some (pr T1 T2), some (.int n), some rest, none, none, none, none, none, none, none]))
    (h1 : ex PhS (nthS 1 c_set_results) [some R, some W, some (pr T1 T2), some (.int n), some rest, none, none, none, none, none, none, none] = some (.nx [some R, some W, some (pr T1 T2), some (.int n), some rest, some cs, none, none, none, none, none, none])) :
    F_set_results.run [R, W, pr T1 T2, .int n] = some v := by
  have h2 : ex PhS (nthS 2 c_set_results) [some R, some W, some (pr T1 T2), some (.int n), some rest, some cs, none, none, none, none, none, none] = some (.nx [some R, some W, some (pr T1 T2), some (.int n), some rest, some cs, none, some (.lst []), none, none, none, none]) := rfl
  rw [run_sres, y_run, srC]
  show rO (exs PhS _ [some R, some W, some (pr T1 T2), some (.int n), none, none, none, none, none, none, none, none]) = _
  rw [y_scons, h0, bO_nx, y_scons, h1, bO_nx, y_scons, h2, bO_nx, srC3]
  generalize pr T1 T2 = PD at *
  simp [y_for, hmax, hr, q1, hs]
theorem r_sres {t l c : Int} (ht : 1 ≤ t) (hc : 0 ≤ c) (hl : 1 ≤ l) (T1 T2 : Int) (z1 : 0 ≤ T1) (z2 : 0 ≤ T2) (u1 : T1 ≤ 250) (u2 : T2 ≤ 250) (b1 b2 : List Bool) (b : Bool) (hb : (b1 ++ b :: b2).length ≤ 900) (n : Int) (hn : n = (b1.length : Int)) :
    F_set_results.run [rl t l c, .tup ((b1 ++ b :: b2).map sideD), pr T1 T2, .int n] = some (.lst ((sPrs ((rowsT t l c T1 T2 (b1 ++ b :: b2)).map (atP b1.length))).map prD)) := by
  rw [List.length_append, List.length_cons] at hb
  have hle := cnt_le (b1 ++ b2)
  rw [List.length_append] at hle
  have hcs : (0 ≤ (csOf (b1 ++ b2)).1 ∧ (csOf (b1 ++ b2)).1 ≤ 900) ∧ 0 ≤ (csOf (b1 ++ b2)).2 ∧ (csOf (b1 ++ b2)).2 ≤ 900 := by
    unfold csOf
    simp only
    omega
  have hix : didx (.tup ((b1 ++ b :: b2).map sideD)) (.int n) = some (sideD b) := by
    rw [ixT _ _ (by omega), show n.toNat = b1.length by omega, List.getElem?_map, List.getElem?_append_right (Nat.le_refl _), Nat.sub_self]
    rfl
  obtain ⟨e', q1, m8, m9, m10, m11, rfl⟩ := forL_accA (f := forF PhS (.one 8) srB) D.int (St := fun acc e => ∃ m8 m9 m10 m11, e = [some (rl t l c), some (.tup ((b1 ++ b :: b2).map sideD)), some (pr T1 T2), some (.int n), some (.tup ((b1 ++ b2).map sideD)), some (prD (csOf (b1 ++ b2))), none, some (.lst (acc.map prD)), m8, m9, m10, m11])
    (fun x => if okF t l c T1 T2 b (csOf (b1 ++ b2)) x = true then [resP t l c b x] else []) 1 (iR (max T1 T2 + 1).toNat) [] [some (rl t l c), some (.tup ((b1 ++ b :: b2).map sideD)), some (pr T1 T2), some (.int n), some (.tup ((b1 ++ b2).map sideD)), some (prD (csOf (b1 ++ b2))), none, some (.lst []), none, none, none, none] ⟨none, none, none, none, rfl⟩ (by rw [iR_len, List.length_nil]; omega) (fun x hx acc env ha ⟨m8, m9, m10, m11, he⟩ => by
      subst he
      obtain ⟨m9', m10', m11', z⟩ := sr_in ht hc hl T1 T2 x b (csOf (b1 ++ b2)) _ n hix (iR_mem.mp hx).1 u1 u2 hcs acc (by omega) (some (.tup ((b1 ++ b2).map sideD))) none m9 m10 m11
      exact ⟨_, z, some (.int x), m9', m10', m11', rfl⟩) (fun x _ => by split <;> simp)
  rw [List.nil_append, flat_if] at q1
  have e : ((iR (max T1 T2 + 1).toNat).filter (okF t l c T1 T2 b (csOf (b1 ++ b2)))).map (resP t l c b) = foundL t l c T1 T2 b (csOf (b1 ++ b2)) := rfl
  rw [e] at q1
  have hg : rg1 (.int (max T1 T2 + 1)) = some ((iR (max T1 T2 + 1).toNat).map D.int) := by rw [rg1_mk (by omega) (by omega), rngD_iR]
  rw [← found_due hl z1 z2 b1 b2 b]
  exact sr_end _ _ _ T1 T2 n (max T1 T2) _ _ _ _ m8 m9 m10 m11 (dmax_pr T1 T2) hg q1 (d_sortPl _) (sr_0 b1 b2 b (by omega) n hn _ _ _ _ _ _ _ _ _ _) (sr_1 (b1 ++ b2) (by rw [List.length_append]; omega) _ _ _ _ _ _ _ _ _ _ _)
/-! ### the law -/
def Ph0 : List Fn := [F_law_digits, F_law_rule, F_law_random_row, F_law_totals, F_law_rows, F_set_results]
def ixB : CSs := bdyS (nthS 0 c_law)
def kB : CSs := bdyS (nthS 2 ixB)
def tB : CSs := bdyS (nthS 4 kB)
def atB : CSs := bdyS (nthS 2 tB)
def lastC : CSs := .cons (nthS 1 c_law) .nil
def tSq : CE := match nthS 4 kB with
  | .for_ _ (.seq e) _ => e
  | _ => .cnon
theorem lawC : c_law = .cons (.for_ (.one 1) (.rng1 (.cint 5)) ixB) lastC := rfl
theorem ixC : ixB = .cons (nthS 0 ixB) (.cons (nthS 1 ixB) (.cons (.for_ (.one 4) (.rng1 (.cint 3)) kB) .nil)) := rfl
theorem kC : kB = .cons (nthS 0 kB) (.cons (nthS 1 kB) (.cons (nthS 2 kB) (.cons (nthS 3 kB) (.cons (.for_ (.one 10) (.seq tSq) tB) .nil)))) := rfl
theorem tC : tB = .cons (nthS 0 tB) (.cons (nthS 1 tB) (.cons (.for_ (.one 12) (.rng1 (.blt .len (.cons (.var 6) .nil))) atB) .nil)) := rfl
theorem atC : atB = .cons (nthS 0 atB) (.cons (nthS 1 atB) (.cons (nthS 2 atB) (.cons (nthS 3 atB) (.cons (nthS 4 atB) .nil)))) := rfl
theorem at_lc (Φ : List Fn) (rs : List (List (Int × Int))) (hz : rs.length ≤ 100000) (n : Nat) (z : Int) (hzn : z = (n : Int)) (hr : ∀ r ∈ rs, n < r.length) (e0 e1 e2 e3 e4 e5 e6 e7 e8 e9 e10 e13 e14 e15 : Option D) :
    ev Φ (.lc (.idx (.var 14) (.var 12)) (.one 14) (.seq (.var 11)) .nil [14]) [e0, e1, e2, e3, e4, e5, e6, e7, e8, e9, e10, some (.lst (rs.map rowE)), some (.int z), e13, e14, e15] = some (.lst ((rs.map (atP n)).map prD)) := by
  have h0 : lcL (lcF Φ (.idx (.var 14) (.var 12)) (.one 14) .nil [14] [e0, e1, e2, e3, e4, e5, e6, e7, e8, e9, e10, some (.lst (rs.map rowE)), some (.int z), e13, e14, e15]) (rs.map rowE) = some ((rs.map (atP n)).map prD) := by
    rw [List.map_map]
    refine lcL_mapA rowE (prD ∘ atP n) fun r hrs => ?_
    have hix : didx (rowE r) (.int z) = some ((prD ∘ atP n) r) := by
      unfold rowE
      rw [ixT _ _ (by omega), show z.toNat = n by omega, List.getElem?_map, List.getElem?_eq_getElem (hr r hrs)]
      show some (prD _) = some (prD (r.getD n (0, 0)))
      rw [List.getD_eq_getElem?_getD, List.getElem?_eq_getElem (hr r hrs)]
      rfl
    generalize (prD ∘ atP n) r = q at *
    generalize rowE r = RD at *
    generalize rs.map rowE = X at *
    clear hzn hr
    simp [lcF, setT, wipeE, evC, hix]
  have hz' : (rs.map rowE).length ≤ sizeLine := by rw [List.length_map]; exact Nat.le_trans hz (by decide)
  have hsq : seq? (.lst (rs.map rowE)) = some (rs.map rowE) := rfl
  generalize rs.map rowE = X at *
  generalize (rs.map (atP n)).map prD = A at *
  clear hzn hr
  simp [hsq, h0, hz']
theorem at_run (R W T RS : D) (L : List D) (z : Int) (e0 e1 e2 e4 e5 e7 e8 e9 e13 e14 e15 : Option D) (lcD : D)
    (hlc : ev Ph0 (.lc (.idx (.var 14) (.var 12)) (.one 14) (.seq (.var 11)) .nil [14]) [e0, e1, e2, some R, e4, e5, some W, e7, e8, e9, some T, some RS, some (.int z), e13, e14, e15] = some lcD)
    (hss : dblt .ssort [lcD] = some (.lst L)) (hrun : F_set_results.run [R, W, T, .int z] = some (.lst L)) (hne : dcmp .ne (.lst L) (.lst L) = some false) (hz : L.length < sizeLine) :
    ∃ m15, exs Ph0 atB [e0, e1, e2, some R, e4, e5, some W, e7, e8, e9, some T, some RS, some (.int z), e13, e14, e15] = some (.nx [e0, e1, e2, some R, e4, e5, some W, e7, e8, e9, some T, some RS, some (.int z), some (.lst L), e14, m15]) := by
  refine ⟨some (.lst (L ++ [.non])), ?_⟩
  have hty : tyE .lst (.lst L) = some true := rfl
  rw [atC]
  have s0 : nthS 0 atB = .asg 13 (.blt .ssort (.cons (.lc (.idx (.var 14) (.var 12)) (.one 14) (.seq (.var 11)) .nil [14]) .nil)) := rfl
  rw [s0]
  generalize CE.lc (.idx (.var 14) (.var 12)) (.one 14) (.seq (.var 11)) .nil [14] = E1 at *
  unfold Ph0 at hlc ⊢
  simp [nthS, atB, tB, kB, ixB, bdyS, c_law, y_call, hlc, hss, hrun, hne, hty, dapp, hz]
theorem row_in {t l c : Int} {bs : List Bool} {xs : List Int} (hl : 1 ≤ l) (h1 : xs.length = bs.length) (h2 : okL t l c xs) : rowP t l c bs xs ∈ rowsT t l c (tot1 (rowP t l c bs xs)) (tot2 (rowP t l c bs xs)) bs := by
  obtain ⟨h3, h4⟩ := rowP_nn (bs := bs) hl h2
  exact (rowsT_mem hl h3 h4 bs _).mpr ⟨xs, h1, h2, rfl, rfl, rfl⟩
theorem t_run (R W T RS RW P1 : D) (z : Int) (xs : List D) (k : Bool) (e0 e1 e2 e4 e5 e7 e11 e12 e13 e14 e15 : Option D) (o : Option Out) (h0 : F_law_rows.run [R, W, T] = some RS) (he : dcmp .eq T P1 = some k) (hni : k = true → dcmp .nin RW RS = some false) (hlen : dblt .len [W] = some (.int z)) (hg : rg1 (.int z) = some xs)
    (q2 : forL (forF Ph0 (.one 12) atB) xs [e0, e1, e2, some R, e4, e5, some W, e7, some RW, some P1, some T, some RS, e12, e13, e14, e15] = o) :
    exs Ph0 tB [e0, e1, e2, some R, e4, e5, some W, e7, some RW, some P1, some T, e11, e12, e13, e14, e15] = bO o fun e => some (.nx e) := by
  have q0 : ex Ph0 (nthS 0 tB) [e0, e1, e2, some R, e4, e5, some W, e7, some RW, some P1, some T, e11, e12, e13, e14, e15] = some (.nx [e0, e1, e2, some R, e4, e5, some W, e7, some RW, some P1, some T, some RS, e12, e13, e14, e15]) := by
    simp [nthS, tB, kB, ixB, bdyS, c_law, Ph0, y_call, h0]
  have q1 : ex Ph0 (nthS 1 tB) [e0, e1, e2, some R, e4, e5, some W, e7, some RW, some P1, some T, some RS, e12, e13, e14, e15] = some (.nx [e0, e1, e2, some R, e4, e5, some W, e7, some RW, some P1, some T, some RS, e12, e13, e14, e15]) := by
    cases k with
    | true =>
      have hni := hni rfl
      simp [nthS, tB, kB, ixB, bdyS, c_law, he, hni]
    | false => simp [nthS, tB, kB, ixB, bdyS, c_law, he]
  have hI : evI Ph0 (.rng1 (.blt .len (.cons (.var 6) .nil))) [e0, e1, e2, some R, e4, e5, some W, e7, some RW, some P1, some T, some RS, e12, e13, e14, e15] = some xs := by
    rw [← hg]
    simp [hlen]
  rw [tC, y_scons, q0, bO_nx, y_scons, q1, bO_nx, y_scons, y_for, hI, Option.bind_some, q2]
  rfl
section
variable {t l c : Int} (ht : 1 ≤ t) (ht2 : t ≤ 4) (hl : 1 ≤ l) (hl2 : l ≤ 3) (hc : 0 ≤ c)
include ht ht2 hl hl2 hc
theorem at_ok (T1 T2 : Int) (z1 : 0 ≤ T1) (z2 : 0 ≤ T2) (hM : max T1 T2 ≤ 40) (bs : List Bool) (hb : bs.length ≤ 3) (n : Nat) (hn : n < bs.length) (z : Int) (hz : z = (n : Int)) (e0 e1 e2 e4 e5 e7 e8 e9 e13 e14 e15 : Option D) :
    ∃ m13 m15, exs Ph0 atB [e0, e1, e2, some (rl t l c), e4, e5, some (.tup (bs.map sideD)), e7, e8, e9, some (pr T1 T2), some (.lst ((rowsT t l c T1 T2 bs).map rowE)), some (.int z), e13, e14, e15] =
      some (.nx [e0, e1, e2, some (rl t l c), e4, e5, some (.tup (bs.map sideD)), e7, e8, e9, some (pr T1 T2), some (.lst ((rowsT t l c T1 T2 bs).map rowE)), some (.int z), m13, e14, m15]) := by
  obtain ⟨b1, b, b2, rfl, hb1⟩ : ∃ b1 b b2, bs = b1 ++ b :: b2 ∧ b1.length = n := by
    refine ⟨bs.take n, bs[n], bs.drop (n + 1), ?_, by rw [List.length_take]; omega⟩
    rw [← List.drop_eq_getElem_cons hn, List.take_append_drop]
  have hsz := rowsT_size (t := t) (l := l) (c := c) hM hb
  have h1 := at_lc Ph0 (rowsT t l c T1 T2 (b1 ++ b :: b2)) (by omega) n z hz (fun r hr => by rw [rowsT_len r hr]; exact hn) e0 e1 e2 (some (rl t l c)) e4 e5 (some (.tup ((b1 ++ b :: b2).map sideD))) e7 e8 e9 (some (pr T1 T2)) e13 e14 e15
  have h2 := due_ok (t := t) (c := c) hl z1 z2 hM b1 b2 b hb
  have h3 := r_sres ht hc hl T1 T2 z1 z2 (by omega) (by omega) b1 b2 b (by omega) z (by rw [hz, hb1])
  rw [hb1] at h2 h3
  have hlen := sPrs_len ((rowsT t l c T1 T2 (b1 ++ b :: b2)).map (atP n))
  rw [List.length_map] at hlen
  have h4 := ne_of_eq (deq_prs (sPrs ((rowsT t l c T1 T2 (b1 ++ b :: b2)).map (atP n))) (sPrs ((rowsT t l c T1 T2 (b1 ++ b :: b2)).map (atP n))))
  rw [decide_eq_true rfl] at h4
  obtain ⟨m15, z⟩ := at_run _ _ _ _ _ z e0 e1 e2 e4 e5 e7 e8 e9 e13 e14 e15 _ h1 h2 h3 h4 (by rw [List.length_map]; exact Nat.lt_of_le_of_lt (show _ ≤ 68921 by omega) (by decide))
  exact ⟨_, m15, z⟩
theorem t_ok (T1 T2 : Int) (z1 : 0 ≤ T1) (z2 : 0 ≤ T2) (hM : max T1 T2 ≤ 40) (bs : List Bool) (hb0 : 1 ≤ bs.length) (hb : bs.length ≤ 3) (xs : List Int) (hxl : xs.length = bs.length) (hxs : okL t l c xs) (e0 e1 e2 e4 e5 e7 e11 e12 e13 e14 e15 : Option D) :
    ∃ m11 m12 m13 m15, exs Ph0 tB [e0, e1, e2, some (rl t l c), e4, e5, some (.tup (bs.map sideD)), e7, some (rowE (rowP t l c bs xs)), some (pr (tot1 (rowP t l c bs xs)) (tot2 (rowP t l c bs xs))), some (pr T1 T2), e11, e12, e13, e14, e15] =
      some (.nx [e0, e1, e2, some (rl t l c), e4, e5, some (.tup (bs.map sideD)), e7, some (rowE (rowP t l c bs xs)), some (pr (tot1 (rowP t l c bs xs)) (tot2 (rowP t l c bs xs))), some (pr T1 T2), m11, m12, m13, e14, m15]) := by
  have hr := r_rows ht (by omega) hl (by omega) hc T1 T2 (by omega) hM bs hb0 hb
  have hin := row_in hl hxl hxs
  have hd := dmem_row (rowP t l c bs xs) (rowsT t l c T1 T2 bs)
  have he := deq_pr T1 T2 (tot1 (rowP t l c bs xs)) (tot2 (rowP t l c bs xs))
  have hlen : dblt .len [.tup (bs.map sideD)] = some (.int (bs.length : Int)) := by
    have : dblt .len [.tup (bs.map sideD)] = some (.int ((bs.map sideD).length : Int)) := rfl
    rw [this, List.length_map]
  have hni : decide (T1 = tot1 (rowP t l c bs xs) ∧ T2 = tot2 (rowP t l c bs xs)) = true → dcmp .nin (rowE (rowP t l c bs xs)) (.lst ((rowsT t l c T1 T2 bs).map rowE)) = some false := fun hT => by
    have hT := of_decide_eq_true hT
    have hm : rowP t l c bs xs ∈ rowsT t l c T1 T2 bs := by
      rw [hT.1, hT.2]; exact hin
    rw [decide_eq_true hm] at hd
    generalize rowE (rowP t l c bs xs) = RW at *
    generalize (rowsT t l c T1 T2 bs).map rowE = RS at *
    show (match dmem RW (.lst RS) with | some b => some (!b) | none => none) = _
    rw [hd]
    rfl
  generalize rowE (rowP t l c bs xs) = RW at *
  generalize pr (tot1 (rowP t l c bs xs)) (tot2 (rowP t l c bs xs)) = P1 at *
  obtain ⟨e', q2, m12, m13, m15, rfl⟩ := forL_nx (f := forF Ph0 (.one 12) atB) (fun _ e => ∃ m12 m13 m15, e = [e0, e1, e2, some (rl t l c), e4, e5, some (.tup (bs.map sideD)), e7, some RW, some P1, some (pr T1 T2), some (.lst ((rowsT t l c T1 T2 bs).map rowE)), m12, m13, e14, m15]) (rngD 0 1 bs.length) _ 0
    ⟨e12, e13, e15, rfl⟩ (fun i e x hx hI => by
      obtain ⟨hi, rfl⟩ := rng_get hx
      obtain ⟨m12, m13, m15, rfl⟩ := hI
      obtain ⟨m13', m15', z⟩ := at_ok ht ht2 hl hl2 hc T1 T2 z1 z2 hM bs hb i hi (i : Int) rfl e0 e1 e2 e4 e5 e7 (some RW) (some P1) m13 e14 m15
      exact ⟨_, z, some (.int (i : Int)), m13', m15', rfl⟩)
  have hg : rg1 (.int (bs.length : Int)) = some (rngD 0 1 bs.length) := by
    rw [rg1_mk (by omega) (by omega)]; rfl
  refine ⟨some (.lst ((rowsT t l c T1 T2 bs).map rowE)), m12, m13, m15, ?_⟩
  generalize (bs.length : Int) = z at *
  rw [t_run _ _ _ _ _ _ z _ _ e0 e1 e2 e4 e5 e7 e11 e12 e13 e14 e15 _ hr he hni hlen hg q2]
  rfl
end
theorem loop_all {f : En → D → Option Out} {I : En → Prop} {xs : List D} {e : En} (h0 : I e) (h : ∀ x ∈ xs, ∀ e, I e → ∃ e', f e x = some (.nx e') ∧ I e') : ∃ e', forL f xs e = some (.nx e') ∧ I e' := by
  obtain ⟨e', q1, q2⟩ := forL_nx (f := f) (fun _ e => I e) xs e 0 h0 fun i e x hx hI => h x (List.mem_of_getElem? hx) e hI
  exact ⟨e', q1, q2⟩
theorem dig_at {ds : List Int} {n : Nat} (hl : ds.length = n) (h0 : ∀ d ∈ ds, 0 ≤ d ∧ d < 27720) (i : Int) (h1 : 0 ≤ i) (h2 : i < n) : ∃ d, 0 ≤ d ∧ didx (.lst (ds.map .int)) (.int i) = some (.int d) := by
  have e : ds[i.toNat]? = some ds[i.toNat] := List.getElem?_eq_getElem (by omega)
  refine ⟨ds[i.toNat], (h0 _ (List.getElem_mem _)).1, ?_⟩
  rw [ixL _ _ h1, List.getElem?_map, e]
  rfl
theorem pa_ev (ds : List Int) (hl : ds.length = 60) (k m : Int) (h0 : 0 ≤ k) (h9 : k ≤ 2) (m0 : 0 ≤ m) (m2 : m ≤ 2) : ∃ ps : List Int, 1 ≤ ps.length ∧ ps.length ≤ 3 ∧ dslice (.lst (ds.map .int)) (some (10 + 5 * k)) (some (11 + 5 * k + m)) = some (.lst (ps.map .int)) := by
  have key : (cutD ds (some (10 + 5 * k)) (some (11 + 5 * k + m))).length = (1 + m).toNat := by
    unfold cutD
    have e : HT.sIx ds.length 0 (some (10 + 5 * k)) = min (10 + 5 * k).toNat ds.length := by
      show (if 10 + 5 * k < 0 then _ else _) = _
      rw [if_neg (by omega)]
    have e2 : HT.sIx ds.length ds.length (some (11 + 5 * k + m)) = min (11 + 5 * k + m).toNat ds.length := by
      show (if 11 + 5 * k + m < 0 then _ else _) = _
      rw [if_neg (by omega)]
    rw [e, e2, List.length_take, List.length_drop]
    omega
  exact ⟨cutD ds (some (10 + 5 * k)) (some (11 + 5 * k + m)), by omega, by omega, by rw [sl_lst, cutD_map]⟩
def parB (d : Int) : Bool := decide (d % 2 = 0)
theorem side_at (d : Int) : didx (.lst [.str "first", .str "second"]) (.int (d % 2)) = some (sideD (parB d)) := by
  have h := Int.emod_two_eq d
  unfold parB
  rcases h with h | h <;> rw [h] <;> rfl
theorem wn_ev (Φ : List Fn) (ps : List Int) (hz : ps.length ≤ 1000) (e0 e1 e2 e3 e4 e6 e7 e8 e9 e10 e11 e12 e13 e14 e15 : Option D) :
    ex Φ (nthS 1 kB) [e0, e1, e2, e3, e4, some (.lst (ps.map .int)), e6, e7, e8, e9, e10, e11, e12, e13, e14, e15] = some (.nx [e0, e1, e2, e3, e4, some (.lst (ps.map .int)), some (.tup ((ps.map parB).map sideD)), e7, e8, e9, e10, e11, e12, e13, e14, e15]) := by
  have h0 : lcL (lcF Φ (.idx (.lst (.cons (.cstr "first") (.cons (.cstr "second") .nil))) (.bin .mod (.var 7) (.cint 2))) (.one 7) .nil [7] [e0, e1, e2, e3, e4, some (.lst (ps.map .int)), e6, e7, e8, e9, e10, e11, e12, e13, e14, e15]) (ps.map .int) = some ((ps.map parB).map sideD) := by
    rw [List.map_map]
    refine lcL_mapA D.int (sideD ∘ parB) fun d _ => ?_
    have := side_at d
    show _ = some (some (sideD (parB d)))
    generalize sideD (parB d) = s at *
    generalize ps.map D.int = X at *
    simp [lcF, setT, wipeE, evC, this]
  have hz' : (ps.map D.int).length ≤ sizeLine := by rw [List.length_map]; exact Nat.le_trans hz (by decide)
  have hsq : seq? (.lst (ps.map D.int)) = some (ps.map D.int) := rfl
  have htu : dblt .tuple [.lst ((ps.map parB).map sideD)] = some (.tup ((ps.map parB).map sideD)) := rfl
  generalize ps.map D.int = X at *
  generalize (ps.map parB).map sideD = A at *
  simp [nthS, kB, ixB, bdyS, c_law, hsq, h0, hz', htu]
theorem k_run (R DD PD W RW P1 S3 : D) (ts : List D) (kz d : Int) (e0 e1 e5 e6 e7 e8 e9 e10 e11 e12 e13 e14 e15 : Option D) (o : Option Out)
    (h1 : didx DD (.int (4 + kz)) = some (.int d)) (h2 : dslice DD (some (10 + 5 * kz)) (some (11 + 5 * kz + d % 3)) = some PD)
    (h3 : ex Ph0 (nthS 1 kB) [e0, e1, some DD, some R, some (.int kz), some PD, e6, e7, e8, e9, e10, e11, e12, e13, e14, e15] = some (.nx [e0, e1, some DD, some R, some (.int kz), some PD, some W, e7, e8, e9, e10, e11, e12, e13, e14, e15]))
    (h4 : dslice DD (some (30 + 5 * kz)) none = some S3) (h5 : F_law_random_row.run [S3, R, W, .int 4] = some RW) (h6 : F_law_totals.run [RW] = some P1)
    (h7 : ev Ph0 tSq [e0, e1, some DD, some R, some (.int kz), some PD, some W, e7, some RW, some P1, e10, e11, e12, e13, e14, e15] = some (.tup ts))
    (q : forL (forF Ph0 (.one 10) tB) ts [e0, e1, some DD, some R, some (.int kz), some PD, some W, e7, some RW, some P1, e10, e11, e12, e13, e14, e15] = o) :
    exs Ph0 kB [e0, e1, some DD, some R, some (.int kz), e5, e6, e7, e8, e9, e10, e11, e12, e13, e14, e15] = bO o fun e => some (.nx e) := by
  have hm : dbin .mul (.int 5) (.int kz) = some (.int (5 * kz)) := by
    rw [d_mul, show small 5 = true from rfl, Bool.true_or, if_pos rfl]
  have hI : evI Ph0 (.seq tSq) [e0, e1, some DD, some R, some (.int kz), some PD, some W, e7, some RW, some P1, e10, e11, e12, e13, e14, e15] = some ts := by
    rw [y_seq, h7]; rfl
  have q0 : ex Ph0 (nthS 0 kB) [e0, e1, some DD, some R, some (.int kz), e5, e6, e7, e8, e9, e10, e11, e12, e13, e14, e15] = some (.nx [e0, e1, some DD, some R, some (.int kz), some PD, e6, e7, e8, e9, e10, e11, e12, e13, e14, e15]) := by
    simp [nthS, kB, ixB, bdyS, c_law, hm, h1, h2]
  have q2 : ex Ph0 (nthS 2 kB) [e0, e1, some DD, some R, some (.int kz), some PD, some W, e7, e8, e9, e10, e11, e12, e13, e14, e15] = some (.nx [e0, e1, some DD, some R, some (.int kz), some PD, some W, e7, some RW, e9, e10, e11, e12, e13, e14, e15]) := by
    have ar : F_law_random_row.ar = 4 := rfl
    simp [nthS, kB, ixB, bdyS, c_law, Ph0, y_call, ar, hm, h4, h5]
  have q3 : ex Ph0 (nthS 3 kB) [e0, e1, some DD, some R, some (.int kz), some PD, some W, e7, some RW, e9, e10, e11, e12, e13, e14, e15] = some (.nx [e0, e1, some DD, some R, some (.int kz), some PD, some W, e7, some RW, some P1, e10, e11, e12, e13, e14, e15]) := by
    simp [nthS, kB, ixB, bdyS, c_law, Ph0, y_call, h6]
  rw [kC, y_scons, q0, bO_nx, y_scons, h3, bO_nx, y_scons, q2, bO_nx, y_scons, q3, bO_nx, y_scons, y_for, hI, Option.bind_some, q]
  rfl
theorem ts_ev (u v : Int) (e0 e1 e2 e3 e4 e5 e6 e7 e8 e10 e11 e12 e13 e14 e15 : Option D) :
    ev Ph0 tSq [e0, e1, e2, e3, e4, e5, e6, e7, e8, some (pr u v), e10, e11, e12, e13, e14, e15] = some (.tup ([(u, v), (u + 1, v), (u, max 0 (v - 1)), (7, 7)].map prD)) := by
  have g0 := ix0_pr u v
  have g1 := ix1_pr u v
  have e : ([(u, v), (u + 1, v), (u, max 0 (v - 1)), (7, 7)].map prD) = [pr u v, .tup [.int (u + 1), .int v], .tup [.int u, .int (max 0 (v - 1))], .tup [.int 7, .int 7]] := rfl
  rw [e]
  generalize pr u v = P at *
  simp [tSq, nthS, kB, ixB, bdyS, c_law, g0, g1]
theorem wpv_7 {t l c x : Int} (ht2 : t ≤ 4) (hl2 : l ≤ 3) (hx : x ≤ 4) (h : okW t l c x = true) : wpv t l c x ≤ 7 := by
  have h1 := (wp_iff.mp (okW_wp h)).2
  split at h1 <;> omega
theorem tot_7 {t l c : Int} (ht2 : t ≤ 4) (hl2 : l ≤ 3) : ∀ {bs : List Bool} {xs : List Int}, xs.length = bs.length → (∀ x ∈ xs, (0 ≤ x ∧ okW t l c x = true) ∧ x ≤ 4) → tot1 (rowP t l c bs xs) ≤ 7 * (bs.length : Int) ∧ tot2 (rowP t l c bs xs) ≤ 7 * (bs.length : Int)
  | [], [], _, _ => ⟨Int.le_refl _, Int.le_refl _⟩
  | [], _ :: _, h, _ => by cases h
  | _ :: _, [], h, _ => by cases h
  | b :: bs, x :: xs, hlen, h => by
    obtain ⟨h1, h2⟩ := tot_7 (bs := bs) (xs := xs) ht2 hl2 (by simpa using hlen) fun y hy => h y (List.mem_cons_of_mem _ hy)
    obtain ⟨⟨x0, x1⟩, x4⟩ := h x List.mem_cons_self
    have h3 := wpv_7 ht2 hl2 x4 x1
    have h5 : (resP t l c b x).1 ≤ 7 ∧ (resP t l c b x).2 ≤ 7 := by
      unfold resP
      cases b <;> simp <;> omega
    show tot1 (resP t l c b x :: rowP t l c bs xs) ≤ _ ∧ tot2 (resP t l c b x :: rowP t l c bs xs) ≤ _
    rw [(tot_cons _ _).1, (tot_cons _ _).2, List.length_cons]
    omega
theorem k_ok {t l c : Int} (ht : 1 ≤ t) (ht2 : t ≤ 4) (hl : 1 ≤ l) (hl2 : l ≤ 3) (hc : 0 ≤ c) {ds : List Int} (hds : ds.length = 60) (h0 : ∀ d ∈ ds, 0 ≤ d ∧ d < 27720) (k : Int) (k0 : 0 ≤ k) (k2 : k ≤ 2) (e0 e1 e5 e6 e7 e8 e9 e10 e11 e12 e13 e14 e15 : Option D) :
    ∃ m5 m6 m8 m9 m10 m11 m12 m13 m15, exs Ph0 kB [e0, e1, some (.lst (ds.map .int)), some (rl t l c), some (.int k), e5, e6, e7, e8, e9, e10, e11, e12, e13, e14, e15] = some (.nx [e0, e1, some (.lst (ds.map .int)), some (rl t l c), some (.int k), m5, m6, e7, m8, m9, m10, m11, m12, m13, e14, m15]) := by
  obtain ⟨d, _, hd⟩ := dig_at hds h0 (4 + k) (by omega) (by omega)
  have a3 := Int.emod_nonneg d (show (3 : Int) ≠ 0 by decide)
  have b3 := Int.emod_lt_of_pos d (show (0 : Int) < 3 by decide)
  obtain ⟨ps, p1, p3, hp⟩ := pa_ev ds hds k (d % 3) k0 k2 a3 (by omega)
  have hbl : (ps.map parB).length = ps.length := List.length_map _
  have hw := wn_ev Ph0 ps (by omega) e0 e1 (some (.lst (ds.map .int))) (some (rl t l c)) (some (.int k)) e6 e7 e8 e9 e10 e11 e12 e13 e14 e15
  generalize ps.map parB = bs at hbl hw
  have hs : dslice (.lst (ds.map .int)) (some (30 + 5 * k)) none = some (.lst ((ds.drop (30 + 5 * k).toNat).map .int)) := by
    rw [sl_lst, cut_fr _ _ (by omega), List.map_drop]
  obtain ⟨xs, x1, x2, hrow⟩ := r_row2T t l c 4 (ds.drop (30 + 5 * k).toNat) bs ht (by omega) hl (by omega) hc (by decide) (by decide) (by omega) (by rw [List.length_drop]; omega)
  have hxs : okL t l c xs := fun x hx => (x2 x hx).1
  obtain ⟨n1, n2⟩ := rowP_nn (bs := bs) hl hxs
  obtain ⟨n3, n4⟩ := tot_7 (c := c) ht2 hl2 x1 x2
  have htot := r_totals (rowP t l c bs xs) (by rw [rowP_len x1.symm]; omega)
  have hts := ts_ev (tot1 (rowP t l c bs xs)) (tot2 (rowP t l c bs xs)) e0 e1 (some (.lst (ds.map .int))) (some (rl t l c)) (some (.int k)) (some (.lst (ps.map .int))) (some (.tup (bs.map sideD))) e7 (some (rowE (rowP t l c bs xs))) e10 e11 e12 e13 e14 e15
  obtain ⟨e', q, m10, m11, m12, m13, m15, rfl⟩ := loop_all (f := forF Ph0 (.one 10) tB) (I := fun e => ∃ m10 m11 m12 m13 m15, e = [e0, e1, some (.lst (ds.map .int)), some (rl t l c), some (.int k), some (.lst (ps.map .int)), some (.tup (bs.map sideD)), e7, some (rowE (rowP t l c bs xs)), some (pr (tot1 (rowP t l c bs xs)) (tot2 (rowP t l c bs xs))), m10, m11, m12, m13, e14, m15])
    (xs := [(tot1 (rowP t l c bs xs), tot2 (rowP t l c bs xs)), (tot1 (rowP t l c bs xs) + 1, tot2 (rowP t l c bs xs)), (tot1 (rowP t l c bs xs), max 0 (tot2 (rowP t l c bs xs) - 1)), (7, 7)].map prD) ⟨e10, e11, e12, e13, e15, rfl⟩ (fun x hx e hI => by
      obtain ⟨⟨T1, T2⟩, hT, rfl⟩ := List.mem_map.mp hx
      obtain ⟨m10, m11, m12, m13, m15, rfl⟩ := hI
      have hb : (0 ≤ T1 ∧ T1 ≤ 40) ∧ 0 ≤ T2 ∧ T2 ≤ 40 := by
        simp only [List.mem_cons, List.not_mem_nil, or_false, Prod.mk.injEq] at hT
        omega
      obtain ⟨m11', m12', m13', m15', z⟩ := t_ok ht ht2 hl hl2 hc T1 T2 (by omega) (by omega) (by omega) bs (by omega) (by omega) xs x1 hxs e0 e1 (some (.lst (ds.map .int))) (some (.int k)) (some (.lst (ps.map .int))) e7 m11 m12 m13 e14 m15
      exact ⟨_, z, some (pr T1 T2), m11', m12', m13', m15', rfl⟩)
  refine ⟨some (.lst (ps.map .int)), some (.tup (bs.map sideD)), some (rowE (rowP t l c bs xs)), some (pr (tot1 (rowP t l c bs xs)) (tot2 (rowP t l c bs xs))), m10, m11, m12, m13, m15, ?_⟩
  rw [k_run _ _ _ _ _ _ _ _ k d e0 e1 e5 e6 e7 e8 e9 e10 e11 e12 e13 e14 e15 _ hd hp hw hs hrow htot hts q]
  rfl
theorem rg3 : rg1 (.int 3) = some (rngD 0 1 3) := rfl
theorem rg5 : rg1 (.int 5) = some (rngD 0 1 5) := rfl
theorem ix_ok (ns : List Int) (i : Int) (hi : 0 ≤ i) (m2 m3 m4 m5 m6 m7 m8 m9 m10 m11 m12 m13 m14 m15 : Option D) :
    ∃ m2' m3' m4' m5' m6' m8' m9' m10' m11' m12' m13' m15', exs Ph0 ixB [some (.scr ns), some (.int i), m2, m3, m4, m5, m6, m7, m8, m9, m10, m11, m12, m13, m14, m15] = some (.nx [some (.scr ns), some (.int i), m2', m3', m4', m5', m6', m7, m8', m9', m10', m11', m12', m13', m14, m15']) := by
  obtain ⟨ds, d1, d2, d3⟩ := r_dig ns i 27720 60 hi (by decide) (by decide) (by decide)
  obtain ⟨t, l, c, hr, ht, ht4, hl, hl3, hlt, hc⟩ := r_rule ds 4 (by omega) (fun d hd => (d2 d hd).1) (by decide)
  have d3 : F_law_digits.run [.scr ns, .int i, .int 60, .int 27720] = some (.lst (ds.map .int)) := d3
  have q0 : ex Ph0 (nthS 0 ixB) [some (.scr ns), some (.int i), m2, m3, m4, m5, m6, m7, m8, m9, m10, m11, m12, m13, m14, m15] = some (.nx [some (.scr ns), some (.int i), some (.lst (ds.map .int)), m3, m4, m5, m6, m7, m8, m9, m10, m11, m12, m13, m14, m15]) := by
    generalize ds.map D.int = Z at *
    simp [nthS, ixB, bdyS, c_law, Ph0, y_call, d3]
  have q1 : ex Ph0 (nthS 1 ixB) [some (.scr ns), some (.int i), some (.lst (ds.map .int)), m3, m4, m5, m6, m7, m8, m9, m10, m11, m12, m13, m14, m15] = some (.nx [some (.scr ns), some (.int i), some (.lst (ds.map .int)), some (rl t l c), m4, m5, m6, m7, m8, m9, m10, m11, m12, m13, m14, m15]) := by
    generalize ds.map D.int = Z at *
    simp [nthS, ixB, bdyS, c_law, Ph0, y_call, hr]
  obtain ⟨e', q, m4', m5', m6', m8', m9', m10', m11', m12', m13', m15', rfl⟩ := forL_nx (f := forF Ph0 (.one 4) kB) (fun _ e => ∃ m4 m5 m6 m8 m9 m10 m11 m12 m13 m15, e = [some (.scr ns), some (.int i), some (.lst (ds.map .int)), some (rl t l c), m4, m5, m6, m7, m8, m9, m10, m11, m12, m13, m14, m15]) (rngD 0 1 3) [some (.scr ns), some (.int i), some (.lst (ds.map .int)), some (rl t l c), m4, m5, m6, m7, m8, m9, m10, m11, m12, m13, m14, m15] 0
    ⟨m4, m5, m6, m8, m9, m10, m11, m12, m13, m15, rfl⟩ (fun j e x hx hI => by
      obtain ⟨hj, rfl⟩ := rng_get hx
      obtain ⟨m4, m5, m6, m8, m9, m10, m11, m12, m13, m15, rfl⟩ := hI
      obtain ⟨m5', m6', m8', m9', m10', m11', m12', m13', m15', z⟩ := k_ok (c := c) ht ht4 hl hl3 (by omega) d1 d2 (j : Int) (by omega) (by omega) (some (.scr ns)) (some (.int i)) m5 m6 m7 m8 m9 m10 m11 m12 m13 m14 m15
      exact ⟨_, z, some (.int (j : Int)), m5', m6', m8', m9', m10', m11', m12', m13', m15', rfl⟩)
  refine ⟨some (.lst (ds.map .int)), some (rl t l c), m4', m5', m6', m8', m9', m10', m11', m12', m13', m15', ?_⟩
  rw [ixC, y_scons, q0, bO_nx, y_scons, q1, bO_nx, y_scons, y_for, y_rng1, y_cint, Option.bind_some, rg3, Option.bind_some, q]
  rfl
noncomputable def Ph : List Fn := [G_no 4, G_no 2, G_no 4, G_no 1, G_no 3, G_r F_set_results [G_wp, G_r F_is_possible [G_r F_fits [G_r F_tables [G_wp] c_tables 12] c_fits 12] c_is_possible 3] c_set_results 12]
theorem Ph_le : FsLe Ph Ph0 := .cons (G_no_le (F := F_law_digits)) (.cons (G_no_le (F := F_law_rule)) (.cons (G_no_le (F := F_law_random_row)) (.cons (G_no_le (F := F_law_totals)) (.cons (G_no_le (F := F_law_rows)) (.cons (G_r_le (.cons G_wp_le (.cons (G_r_le (.cons (G_r_le (.cons (G_r_le (.cons G_wp_le .nil)) .nil)) .nil)) .nil))) .nil)))))
theorem ck2 : isTr (exsR Ph lastC (List.replicate 16 none)) = true := by decide +kernel
theorem holds (ns : List Int) (_ : ns.length ≤ 63) : F_law.run [.scr ns] = some (.bl true) := by
  obtain ⟨e', q1, m1, m2, m3, m4, m5, m6, m7, m8, m9, m10, m11, m12, m13, m14, m15, rfl⟩ := forL_nx (f := forF Ph0 (.one 1) ixB) (fun _ e => ∃ m1 m2 m3 m4 m5 m6 m7 m8 m9 m10 m11 m12 m13 m14 m15, e = [some (.scr ns), m1, m2, m3, m4, m5, m6, m7, m8, m9, m10, m11, m12, m13, m14, m15]) (rngD 0 1 5) [some (.scr ns), none, none, none, none, none, none, none, none, none, none, none, none, none, none, none] 0
    ⟨none, none, none, none, none, none, none, none, none, none, none, none, none, none, none, rfl⟩ (fun i e x hx hI => by
      obtain ⟨hi, rfl⟩ := rng_get hx
      obtain ⟨m1, m2, m3, m4, m5, m6, m7, m8, m9, m10, m11, m12, m13, m14, m15, rfl⟩ := hI
      obtain ⟨m2', m3', m4', m5', m6', m8', m9', m10', m11', m12', m13', m15', z⟩ := ix_ok ns (i : Int) (by omega) m2 m3 m4 m5 m6 m7 m8 m9 m10 m11 m12 m13 m14 m15
      exact ⟨_, z, some (.int (i : Int)), m2', m3', m4', m5', m6', m7, m8', m9', m10', m11', m12', m13', m14, m15', rfl⟩)
  show runF Ph0 c_law 16 _ = _
  rw [y_run, lawC, y_scons, y_for, y_rng1, y_cint, Option.bind_some, rg5, Option.bind_some]
  show rO (bO (forL _ _ [some (.scr ns), none, none, none, none, none, none, none, none, none, none, none, none, none, none, none]) _) = _
  rw [q1, bO_nx, law_end (N := 16) Ph_le rfl ck2]
  rfl

theorem all_mk {l : PySem.W.OpenLaw} {w : World} {K : PySem.W.Frag} {h : Heap} {mg : Str → Option Value} {fa f0 f1 f2 f3 f4 f5 f6 f7 f8 f9 f10 f11 f12 : Addr} (X : K.In h) (G : h.Ns mainGlobals mg) (hfa : mg "law" = some (.ref fa))
    {od0 an0 od1 an1 od2 an2 od3 an3 od4 an4 od5 an5 od6 an6 od7 an7 od8 an8 od9 an9 od10 an10 od11 an11 od12 an12 : Option Addr} {sl0 sl1 sl2 sl3 sl4 sl5 sl6 sl7 sl8 sl9 sl10 sl11 sl12 : Array (Option Value)} {oc0 kV0 dc0 pm0 cd0 ct0 oc1 kV1 dc1 pm1 cd1 ct1 oc2 kV2 dc2 pm2 cd2 ct2 oc3 kV3 dc3 pm3 cd3 ct3 oc4 kV4 dc4 pm4 cd4 ct4 oc5 kV5 dc5 pm5 cd5 ct5 oc6 kV6 dc6 pm6 cd6 ct6 oc7 kV7 dc7 pm7 cd7 ct7 oc8 kV8 dc8 pm8 cd8 ct8 oc9 kV9 dc9 pm9 cd9 ct9 oc10 kV10 dc10 pm10 cd10 ct10 oc11 kV11 dc11 pm11 cd11 ct11 oc12 kV12 dc12 pm12 cd12 ct12 : Value}
    (a0 : PySem.W.nsIn K mainGlobals "_law_cell" = some (some (.ref f0))) (l0 : K.lookup f0 = some ⟨oc0, od0, .func (PySem.W.fnOf "_law_cell" "_law_cell" (defArgs s_law_cell) (defBody s_law_cell) (defScope s_law_cell) .none kV0 dc0 pm0 an0 cd0 ct0), sl0⟩) (c0 : PySem.W.codeIn K cd0 "_law_cell" = true) (k0 : PySem.W.keepIn K (.ref f0) = true)
    (a1 : PySem.W.nsIn K mainGlobals "_law_digits" = some (some (.ref f1))) (l1 : K.lookup f1 = some ⟨oc1, od1, .func (PySem.W.fnOf "_law_digits" "_law_digits" (defArgs s_law_digits) (defBody s_law_digits) (defScope s_law_digits) .none kV1 dc1 pm1 an1 cd1 ct1), sl1⟩) (c1 : PySem.W.codeIn K cd1 "_law_digits" = true) (k1 : PySem.W.keepIn K (.ref f1) = true)
    (a2 : PySem.W.nsIn K mainGlobals "_law_rule" = some (some (.ref f2))) (l2 : K.lookup f2 = some ⟨oc2, od2, .func (PySem.W.fnOf "_law_rule" "_law_rule" (defArgs s_law_rule) (defBody s_law_rule) (defScope s_law_rule) .none kV2 dc2 pm2 an2 cd2 ct2), sl2⟩) (c2 : PySem.W.codeIn K cd2 "_law_rule" = true) (k2 : PySem.W.keepIn K (.ref f2) = true)
    (a3 : PySem.W.nsIn K mainGlobals "_law_won" = some (some (.ref f3))) (l3 : K.lookup f3 = some ⟨oc3, od3, .func (PySem.W.fnOf "_law_won" "_law_won" (defArgs s_law_won) (defBody s_law_won) (defScope s_law_won) .none kV3 dc3 pm3 an3 cd3 ct3), sl3⟩) (c3 : PySem.W.codeIn K cd3 "_law_won" = true) (k3 : PySem.W.keepIn K (.ref f3) = true)
    (a4 : PySem.W.nsIn K mainGlobals "_law_random_row" = some (some (.ref f4))) (l4 : K.lookup f4 = some ⟨oc4, od4, .func (PySem.W.fnOf "_law_random_row" "_law_random_row" (defArgs s_law_random_row) (defBody s_law_random_row) (defScope s_law_random_row) .none kV4 dc4 pm4 an4 cd4 ct4), sl4⟩) (c4 : PySem.W.codeIn K cd4 "_law_random_row" = true) (k4 : PySem.W.keepIn K (.ref f4) = true)
    (a5 : PySem.W.nsIn K mainGlobals "_law_totals" = some (some (.ref f5))) (l5 : K.lookup f5 = some ⟨oc5, od5, .func (PySem.W.fnOf "_law_totals" "_law_totals" (defArgs s_law_totals) (defBody s_law_totals) (defScope s_law_totals) .none kV5 dc5 pm5 an5 cd5 ct5), sl5⟩) (c5 : PySem.W.codeIn K cd5 "_law_totals" = true) (k5 : PySem.W.keepIn K (.ref f5) = true)
    (a6 : PySem.W.nsIn K mainGlobals "_law_rows" = some (some (.ref f6))) (l6 : K.lookup f6 = some ⟨oc6, od6, .func (PySem.W.fnOf "_law_rows" "_law_rows" (defArgs s_law_rows) (defBody s_law_rows) (defScope s_law_rows) .none kV6 dc6 pm6 an6 cd6 ct6), sl6⟩) (c6 : PySem.W.codeIn K cd6 "_law_rows" = true) (k6 : PySem.W.keepIn K (.ref f6) = true)
    (a7 : PySem.W.nsIn K mainGlobals "winner_points" = some (some (.ref f7))) (l7 : K.lookup f7 = some ⟨oc7, od7, .func (PySem.W.fnOf "winner_points" "winner_points" (defArgs s_winner_points) (defBody s_winner_points) (defScope s_winner_points) .none kV7 dc7 pm7 an7 cd7 ct7), sl7⟩) (c7 : PySem.W.codeIn K cd7 "winner_points" = true) (k7 : PySem.W.keepIn K (.ref f7) = true)
    (a8 : PySem.W.nsIn K mainGlobals "tables" = some (some (.ref f8))) (l8 : K.lookup f8 = some ⟨oc8, od8, .func (PySem.W.fnOf "tables" "tables" (defArgs s_tables) (defBody s_tables) (defScope s_tables) .none kV8 dc8 pm8 an8 cd8 ct8), sl8⟩) (c8 : PySem.W.codeIn K cd8 "tables" = true) (k8 : PySem.W.keepIn K (.ref f8) = true)
    (a9 : PySem.W.nsIn K mainGlobals "fits" = some (some (.ref f9))) (l9 : K.lookup f9 = some ⟨oc9, od9, .func (PySem.W.fnOf "fits" "fits" (defArgs s_fits) (defBody s_fits) (defScope s_fits) .none kV9 dc9 pm9 an9 cd9 ct9), sl9⟩) (c9 : PySem.W.codeIn K cd9 "fits" = true) (k9 : PySem.W.keepIn K (.ref f9) = true)
    (a10 : PySem.W.nsIn K mainGlobals "is_possible" = some (some (.ref f10))) (l10 : K.lookup f10 = some ⟨oc10, od10, .func (PySem.W.fnOf "is_possible" "is_possible" (defArgs s_is_possible) (defBody s_is_possible) (defScope s_is_possible) .none kV10 dc10 pm10 an10 cd10 ct10), sl10⟩) (c10 : PySem.W.codeIn K cd10 "is_possible" = true) (k10 : PySem.W.keepIn K (.ref f10) = true)
    (a11 : PySem.W.nsIn K mainGlobals "set_results" = some (some (.ref f11))) (l11 : K.lookup f11 = some ⟨oc11, od11, .func (PySem.W.fnOf "set_results" "set_results" (defArgs s_set_results) (defBody s_set_results) (defScope s_set_results) .none kV11 dc11 pm11 an11 cd11 ct11), sl11⟩) (c11 : PySem.W.codeIn K cd11 "set_results" = true) (k11 : PySem.W.keepIn K (.ref f11) = true)
    (a12 : PySem.W.nsIn K mainGlobals "law" = some (some (.ref f12))) (l12 : K.lookup f12 = some ⟨oc12, od12, .func (PySem.W.fnOf "law" "law" (defArgs s_law) (defBody s_law) (defScope s_law) .none kV12 dc12 pm12 an12 cd12 ct12), sl12⟩) (c12 : PySem.W.codeIn K cd12 "law" = true) (k12 : PySem.W.keepIn K (.ref f12) = true)
    (bi : ∀ y ∈ bNames, mg y = none) :
    ∃ fd : FuncData, (∀ (s : Shared) (v : Value), BindsTo s fd ⟨[v], []⟩ [("script", v)]) ∧ ∀ base : Heap, K.In base → base.Ns mainGlobals mg → FnOk l.prog w K mg base CX0 6 fa fd ["script"] (spF K F_law) := by
  have e := hfa.symm.trans (PySem.W.mg_of X G a12)
  cases e
  refine ⟨PySem.W.fnOf "law" "law" (defArgs s_law) (defBody s_law) (defScope s_law) .none kV12 dc12 pm12 an12 cd12 ct12, fun s v => .of_eq rfl, fun base _ _ => ?_⟩
  have K_law_cell := kd_law_cell (P := l.prog) (w := w) (base := base) (fun_mk (st := s_law_cell) l0 c0 k0) bi  (PySem.W.mg_of X G a0)
  have K_law_digits := kd_law_digits (P := l.prog) (w := w) (base := base) (fun_mk (st := s_law_digits) l1 c1 k1) bi K_law_cell (PySem.W.mg_of X G a1)
  have K_law_rule := kd_law_rule (P := l.prog) (w := w) (base := base) (fun_mk (st := s_law_rule) l2 c2 k2) bi  (PySem.W.mg_of X G a2)
  have K_law_won := kd_law_won (P := l.prog) (w := w) (base := base) (fun_mk (st := s_law_won) l3 c3 k3) bi  (PySem.W.mg_of X G a3)
  have K_law_random_row := kd_law_random_row (P := l.prog) (w := w) (base := base) (fun_mk (st := s_law_random_row) l4 c4 k4) bi K_law_won (PySem.W.mg_of X G a4)
  have K_law_totals := kd_law_totals (P := l.prog) (w := w) (base := base) (fun_mk (st := s_law_totals) l5 c5 k5) bi  (PySem.W.mg_of X G a5)
  have K_law_rows := kd_law_rows (P := l.prog) (w := w) (base := base) (fun_mk (st := s_law_rows) l6 c6 k6) bi K_law_won K_law_totals (PySem.W.mg_of X G a6)
  have K_winner_points := kd_winner_points (P := l.prog) (w := w) (base := base) (fun_mk (st := s_winner_points) l7 c7 k7) bi  (PySem.W.mg_of X G a7)
  have K_tables := kd_tables (P := l.prog) (w := w) (base := base) (fun_mk (st := s_tables) l8 c8 k8) bi K_winner_points (PySem.W.mg_of X G a8)
  have K_fits := kd_fits (P := l.prog) (w := w) (base := base) (fun_mk (st := s_fits) l9 c9 k9) bi K_tables (PySem.W.mg_of X G a9)
  have K_is_possible := kd_is_possible (P := l.prog) (w := w) (base := base) (fun_mk (st := s_is_possible) l10 c10 k10) bi K_fits (PySem.W.mg_of X G a10)
  have K_set_results := kd_set_results (P := l.prog) (w := w) (base := base) (fun_mk (st := s_set_results) l11 c11 k11) bi K_winner_points K_is_possible (PySem.W.mg_of X G a11)
  exact ok_law (fun_mk (st := s_law) l12 c12 k12) bi K_law_digits K_law_rule K_law_random_row K_law_totals K_law_rows K_set_results
end Pv.K10
open PySem PySem.W PyProof.Rows
set_option maxRecDepth 100000 in
set_option maxHeartbeats 0 in
theorem PySem.Challenge.cw_pointsback_k10_whole_results_of_single_s_holds : PySem.Challenge.rw_pointsback_k10_whole_results_of_single_s.Holds := by
  w_on; o_law; k_head; (case hw => w_witness2)
  k_fill
  refine L2.walk_of (l := PySem.Challenge.rw_pointsback_k10_whole_results_of_single_s) (n := 63) (k := 6) (x := "script") (CX := fun _ => L2.CX0) (sp := fun w => Pv.spF _ Pv.K10.F_law) rfl (by decide) rfl ⟨rfl, by decide, by decide⟩ (fun w h Y => PySem.W.kIn_of Y) ?F (fun _ _ a ns hl _ hS => Pv.law_sp rfl Pv.K10.holds hl hS) (fun _ _ _ _ _ h => h)
  case F =>
    intro w mg fa h KX G hmg
    refine' Pv.K10.all_mk KX G hmg ?a0 ?l0 ?c0 ?k0 ?a1 ?l1 ?c1 ?k1 ?a2 ?l2 ?c2 ?k2 ?a3 ?l3 ?c3 ?k3 ?a4 ?l4 ?c4 ?k4 ?a5 ?l5 ?c5 ?k5 ?a6 ?l6 ?c6 ?k6 ?a7 ?l7 ?c7 ?k7 ?a8 ?l8 ?c8 ?k8 ?a9 ?l9 ?c9 ?k9 ?a10 ?l10 ?c10 ?k10 ?a11 ?l11 ?c11 ?k11 ?a12 ?l12 ?c12 ?k12 (Pv.bi_mk KX G ?z1 ?z2 ?z3 ?z4 ?z5 ?z6 ?z7 ?z8 ?z9 ?z10 ?z11 ?z12 ?z13 ?z14 ?z15 ?z16)
    (case a0 => k_is); (case l0 => k_is); (case c0 => k_is); (case k0 => k_is); (case a1 => k_is); (case l1 => k_is); (case c1 => k_is); (case k1 => k_is); (case a2 => k_is); (case l2 => k_is); (case c2 => k_is); (case k2 => k_is); (case a3 => k_is); (case l3 => k_is); (case c3 => k_is); (case k3 => k_is); (case a4 => k_is); (case l4 => k_is); (case c4 => k_is); (case k4 => k_is); (case a5 => k_is); (case l5 => k_is); (case c5 => k_is); (case k5 => k_is); (case a6 => k_is); (case l6 => k_is); (case c6 => k_is); (case k6 => k_is); (case a7 => k_is); (case l7 => k_is); (case c7 => k_is); (case k7 => k_is); (case a8 => k_is); (case l8 => k_is); (case c8 => k_is); (case k8 => k_is); (case a9 => k_is); (case l9 => k_is); (case c9 => k_is); (case k9 => k_is); (case a10 => k_is); (case l10 => k_is); (case c10 => k_is); (case k10 => k_is); (case a11 => k_is); (case l11 => k_is); (case c11 => k_is); (case k11 => k_is); (case a12 => k_is); (case l12 => k_is); (case c12 => k_is); (case k12 => k_is); (case z1 => k_is); (case z2 => k_is); (case z3 => k_is); (case z4 => k_is); (case z5 => k_is); (case z6 => k_is); (case z7 => k_is); (case z8 => k_is); (case z9 => k_is); (case z10 => k_is); (case z11 => k_is); (case z12 => k_is); (case z13 => k_is); (case z14 => k_is); (case z15 => k_is); (case z16 => k_is)
