import PyProof.Rows.All
import Wide.All
import OpenK.AllK
import Wide.FinOn
import PySem.Challenge.RW_oddsuntold_k10_tables_of_odds
import HandS.ForMost
import HandS.ForExc
import HandS.Lambda
import HandS.Walk
import HandS.TupAny
import HandS.TupMul
import HandS.TupLe
import HandS.IsInst
import HandS.Wide
import HandS.Flow
import HandS.Deep
import HandS.Zip
import HandS.TryMany
import HandS.ExcOwn
import HandS.Defaults
import KE.DataCmp
import KE.SortData
import KE.DataMinMax
import PyProof.Rows.IntBool
import HandS.ExcValue
import HandS.RaiseMore
import HandS.Style
import KE.GoesMore
import PyProof.EnumMake
import KE.KDictZip
import KE.KDictKeyed
import KE.KDictCopyH
import KE.GoesZip
import KE.GoesEnum
import HandS.CallLocal
import HandS.Conv
import HandS.Dict
import HandS.Codes
import HandS.More
import HandS.Words
import HandS.WordsExc
import HandS.Head0
import HandS.Head1
import HandS.Head2
import HandS.HeadEnd
import HandS.HeadHook1
import HandS.HeadHook2
import HandS.HeadHook4
import HandS.HeadWalk
import HandS.NestedK
set_option Elab.async false
section
set_option Elab.async false
set_option linter.all false
set_option maxRecDepth 100000
/-! A small language of plain values, its evaluator. -/
namespace Ev
open PySem (Str)

/-- values -/
inductive D where
  | non | bl (b : Bool) | int (i : Int) | str (x : Str) | tup (ds : List D) | lst (ds : List D)
  | cel (n : Nat) | fn (f : Nat) | scr (ns : List Int)
  deriving Inhabited
/-- what stands in a cell -/
inductive O where
  | lst (ds : List D) | dT (kvs : List (List L2.Key × D)) | dK (kvs : List (L2.Key × D))
abbrev Store := List O
abbrev Env := List (Option D)
inductive R (α : Type) where
  | ok (a : α) (S : Store) | exc (c : Nat) (S : Store) | bad
def R.bind {α β : Type} (x : R α) (f : α → Store → R β) : R β := match x with
  | .ok a S => f a S
  | .exc c S => .exc c S
  | .bad => .bad
def R.ofO {α : Type} (x : Option α) (S : Store) : R α := match x with
  | some a => .ok a S
  | none => .bad

/-! ### operations -/
inductive Bop where | add | sub | mul | fdiv | mod | pow
inductive Cop where | eq | ne | lt | le | gt | ge | isN | notN | in_ | notIn
/-- built-ins of values -/
inductive Prim where
  | len | all | any | abs | int | bool | str | tuple | list | max | min | sorted | rangeL
inductive Ty where | int | bool | str | tuple | list
  deriving DecidableEq

mutual
def eqD : D → D → Bool
  | .non, .non => true
  | .bl a, .bl b => a == b
  | .bl a, .int j => (if a then 1 else 0) == j
  | .int i, .bl b => i == (if b then 1 else 0)
  | .int i, .int j => i == j
  | .str x, .str y => x == y
  | .tup xs, .tup ys => eqL xs ys
  | .lst xs, .lst ys => eqL xs ys
  | _, _ => false
def eqL : List D → List D → Bool
  | [], [] => true
  | x :: xs, y :: ys => eqD x y && eqL xs ys
  | _, _ => false
end
mutual
/-- plain data to a depth -/
def okD : Nat → D → Bool
  | _, .non => true
  | _, .bl _ => true
  | _, .int _ => true
  | _, .str x => PySem.PyData.strOk x
  | k + 1, .tup ds => okL k ds
  | k + 1, .lst ds => okL k ds
  | _, _ => false
def okL : Nat → List D → Bool
  | _, [] => true
  | k, d :: ds => okD k d && okL k ds
end
mutual
/-- cells of lists within, told by what they hold -/
def der (S : Store) : D → D
  | .tup ds => .tup (derL S ds)
  | .lst ds => .lst (derL S ds)
  | .cel n => match S[n]? with
    | some (.lst ds) => .lst ds
    | _ => .cel n
  | d => d
def derL (S : Store) : List D → List D
  | [] => []
  | d :: ds => der S d :: derL S ds
end
/-- a list cell as its list -/
def view (S : Store) : D → D
  | .cel n => match S[n]? with
    | some (.lst ds) => .lst ds
    | _ => .cel n
  | d => d
mutual
/-- no cell at n or above -/
def below (n : Nat) : D → Bool
  | .tup ds => belowL n ds
  | .lst ds => belowL n ds
  | .cel m => decide (m < n)
  | _ => true
def belowL (n : Nat) : List D → Bool
  | [] => true
  | d :: ds => below n d && belowL n ds
end
def belowO (n : Nat) : O → Bool
  | .lst ds => belowL n ds
  | .dT kvs => kvs.all fun p => below n p.2
  | .dK kvs => kvs.all fun p => below n p.2

def mulOk (i j : Int) : Bool := decide (i.natAbs < 18446744073709551616) || decide (j.natAbs < 18446744073709551616) || decide (i.natAbs.log2 + j.natAbs.log2 < 1000000)
def divOk (j : Int) : Bool := decide (0 < j) && decide (j.natAbs.log2 < 9000)

def binD : Bop → D → D → Option D
  | .add, .int i, .int j => some (.int (i + j))
  | .add, .str x, .str y => if x.length + y.length ≤ 1000000 then some (.str (x ++ y)) else none
  | .add, .tup xs, .tup ys => if xs.length + ys.length ≤ 1000000 then some (.tup (xs ++ ys)) else none
  | .add, .lst xs, .lst ys => if xs.length + ys.length ≤ 1000000 then some (.lst (xs ++ ys)) else none
  | .sub, .int i, .int j => some (.int (i - j))
  | .mul, .int i, .int j => if mulOk i j then some (.int (i * j)) else none
  | .mul, .lst xs, .int k => if 0 ≤ k ∧ k ≤ 1000 ∧ xs.length ≤ 1000 then some (.lst (List.replicate k.toNat xs).flatten) else none
  | .mul, .tup xs, .int k => if 2 ≤ k ∧ k ≤ 1000 ∧ xs.length ≤ 1000 ∧ xs ≠ [] then some (.tup (List.replicate k.toNat xs).flatten) else if k = 1 then some (.tup xs) else none
  | .fdiv, .int i, .int j => if divOk j then some (.int (i / j)) else none
  | .mod, .int i, .int j => if 0 < j then some (.int (i % j)) else none
  | .pow, .int i, .int j => if 0 ≤ j ∧ j ≤ 1000000 ∧ i.natAbs < 18446744073709551616 then some (.int (i ^ j.toNat)) else none
  | .add, .bl a, .int j => some (.int ((if a = true then (1 : Int) else 0) + j))
  | .sub, .bl a, .int j => some (.int ((if a = true then (1 : Int) else 0) - j))
  | .mul, .bl a, .int j => some (.int ((if a = true then (1 : Int) else 0) * j))
  | _, _, _ => none
/-- truth -/
def truth : D → Option Bool
  | .non => some false
  | .bl b => some b
  | .int i => some (i != 0)
  | .str x => if x.length ≤ 1000000 then some ((x.length : Int) != 0) else none
  | .tup ds => some (!ds.isEmpty)
  | .lst ds => some (!ds.isEmpty)
  | _ => none
mutual
/-- the two can be compared, place by place -/
def alkD : D → D → Bool
  | .non, .non => true
  | .bl _, .bl _ => true
  | .int _, .int _ => true
  | .str _, .str _ => true
  | .tup xs, .tup ys => alkL xs ys
  | .lst xs, .lst ys => alkL xs ys
  | _, _ => false
def alkL : List D → List D → Bool
  | x :: xs, y :: ys => alkD x y && alkL xs ys
  | [], _ => true
  | _ :: _, [] => true
end
mutual
/-- x < y, for alike data -/
def ltB : D → D → Bool
  | .bl x, .bl y => !x && y
  | .int i, .int j => decide (i < j)
  | .str x, .str y => decide (x.cps.toList < y.cps.toList)
  | .tup xs, .tup ys => ltLB xs ys
  | .lst xs, .lst ys => ltLB xs ys
  | _, _ => false
def ltLB : List D → List D → Bool
  | [], [] => false
  | [], _ :: _ => true
  | _ :: _, [] => false
  | x :: xs, y :: ys => if eqD x y then ltLB xs ys else ltB x y
end
def isNon : D → Bool
  | .non => true
  | _ => false
def cmpD (S : Store) : Cop → D → D → Option Bool
  | .eq, a, b => let a' := der S a; let b' := der S b; if okD 16 a' && okD 16 b' then some (eqD a' b') else none
  | .ne, a, b => let a' := der S a; let b' := der S b; if okD 16 a' && okD 16 b' then some (!eqD a' b') else none
  | .lt, .int i, .int j => some (decide (i < j))
  | .le, .int i, .int j => some (decide (i ≤ j))
  | .gt, .int i, .int j => some (decide (j < i))
  | .ge, .int i, .int j => some (decide (j ≤ i))
  | .lt, .tup xs, .tup ys => let a' := der S (.tup xs); let b' := der S (.tup ys); if okD 16 a' && okD 16 b' && alkD a' b' then some (ltB a' b') else none
  | .le, .tup xs, .tup ys => let a' := der S (.tup xs); let b' := der S (.tup ys); if okD 16 a' && okD 16 b' && alkD a' b' then some (!ltB b' a') else none
  | .isN, a, .non => some (isNon a)
  | .notN, a, .non => some (!isNon a)
  | .isN, .bl a, .bl b => some (a == b)
  | .notN, .bl a, .bl b => some (!(a == b))
  | .in_, a, .lst ds => let a' := der S a; if okD 16 a' && okD 16 (.lst (derL S ds)) then some ((derL S ds).any fun z => eqD z a') else none
  | .notIn, a, .lst ds => let a' := der S a; if okD 16 a' && okD 16 (.lst (derL S ds)) then some (!(derL S ds).any fun z => eqD z a') else none
  | .in_, a, .tup ds => let a' := der S a; if okD 16 a' && okD 16 (.tup (derL S ds)) then some ((derL S ds).any fun z => eqD z a') else none
  | .notIn, a, .tup ds => let a' := der S a; if okD 16 a' && okD 16 (.tup (derL S ds)) then some (!(derL S ds).any fun z => eqD z a') else none
  | _, _, _ => none

/-- the place of an index -/
def ixD (d i : D) : Option D := match d, i with
  | .tup ds, .int i => L2.atI ds i
  | .lst ds, .int i => L2.atI ds i
  | .scr ns, .int i => (L2.atI ns i).map D.int
  | .str x, .int i => if x.length ≤ 1000000 then (L2.atI x.cps.toList i).map fun c => .str ⟨#[c]⟩ else none
  | _, _ => none
def cutD (ds : List D) (lo hi : Option Int) : List D := (ds.drop (HT.sIx ds.length 0 lo)).take (HT.sIx ds.length ds.length hi - HT.sIx ds.length 0 lo)

/-! ### the language: expressions, targets, statements, lists of them in one type -/
inductive T where
  | var (i : Nat) | int (i : Int) | str (x : Str) | bl (b : Bool) | non | glob (g : Nat)
  | bin (o : Bop) (a b : T) | neg (a : T) | not (a : T)
  | cmp (o : Cop) (a b : T) | chain (o p : Cop) (a b c : T)
  | and (a b : T) | or (a b : T) | one (a : T) | ife (c a b : T)
  | tup (es : T) | lst (cl : Bool) (es : T) | rep (cl : Bool) (a b : T)
  | ix (a i : T) | sl (a lo hi : T)
  | rev (a : T) | upper (a : T)
  | call (f : Nat) (es : T) | prim (p : Prim) (es : T) | isi (t : Ty) (a : T)
  | comp (cl : Bool) (e tg it cond : T) (own : List Nat)
  | rng1 (a : T) | rng2 (a b : T) | rng3 (a b : T) | zip (a b : T) | enum (a : T)
  | nil | cons (a l : T)
  | tv (i : Nat) | tt (ts : T) | ts (o i : T)
  | asg (tg e : T) | asgc (i : Nat) (e : T) | par (is : List Nat) (es : T)
  | expr (e : T) | ret (e : T) | ret0 | ite (c a b : T) | loop (c b : T) | for_ (tg it b : T)
  | raise (c : Nat) | pass | app (i : Nat) (e : T) | try1 (b : T) (hs : List (Nat × Str))
  | callv (i : Nat) (es : T) | word (w : Nat) (hs : List (Nat × Str)) (dv : Str) (e : T)
  | lrng1 (a : T) | lrng2 (a b : T)
  | dnew | dix (a es : T) | din (neg : Bool) (es a : T) | dset (o es e : T)
  | build (i j : Nat) (b : T)
  | dz (a b : T)
  deriving Inhabited

def tlen : T → Nat
  | .cons _ l => tlen l + 1
  | _ => 0
structure Glb where
  call : Nat → List D → Store → R D
  glob : Nat → Option D
  fuel : Nat
  nf : Nat
  lv : Nat

inductive Fl where
  | nx (ρ : Env) | rt (d : D)

def getV (ρ : Env) (i : Nat) : Option D := match ρ[i]? with
  | some (some d) => some d
  | _ => none
def tst (x : R D) : R Bool := x.bind fun d S => R.ofO (truth (view S d)) S
def asInt : D → Option Int
  | .int i => some i
  | _ => none
def rngL (lo : Int) (c : Int) (n : Nat) : List D := (List.range n).map fun (k : Nat) => D.int (lo + (k : Int) * c)
def small (i : Int) : Bool := decide (-1152921504606846976 ≤ i) && decide (i ≤ 1152921504606846976)
/-- all of bools -/
def bools : List D → Option (List Bool)
  | [] => some []
  | .bl b :: ds => (bools ds).map (b :: ·)
  | _ :: _ => none
def intsOf : List D → Option (List Int)
  | [] => some []
  | .int i :: ds => (intsOf ds).map (i :: ·)
  | _ :: _ => none
def maxL : Int → List Int → Int
  | m, [] => m
  | m, i :: is => maxL (if i > m then i else m) is
def minL : Int → List Int → Int
  | m, [] => m
  | m, i :: is => minL (if i < m then i else m) is
/-- a place in a sorted list, ahead of equal ones -/
def ins (d : D) : List D → List D
  | [] => [d]
  | e :: es => if !ltB e d then d :: e :: es else e :: ins d es
def isort : List D → List D
  | [] => []
  | d :: ds => ins d (isort ds)
def isTup1 : D → Bool
  | .tup (_ :: _) => true
  | _ => false
def isPlain : D → Bool
  | .bl _ => true
  | .int _ => true
  | .str _ => true
  | .lst _ => true
  | _ => false
def sortable (ds : List D) : Bool := okL 15 ds && (ds.all fun a => ds.all fun b => alkD a b) && (ds.all isTup1 || ds.all isPlain) && decide (ds.length ≤ 1000000)
def lenD : D → Option Nat
  | .tup ds => some ds.length
  | .lst ds => some ds.length
  | .scr ns => some ns.length
  | .str x => if x.length ≤ 1000000 then some x.length else none
  | _ => none
def isTy : Ty → D → Bool
  | .int, .int _ => true
  | .int, .bl _ => true
  | .bool, .bl _ => true
  | .str, .str _ => true
  | .tuple, .tup _ => true
  | .list, .lst _ => true
  | _, _ => false
def primD : Prim → List D → Option D
  | .len, [d] => (lenD d).map fun n => .int (n : Int)
  | .all, [.lst ds] => (bools ds).map fun bs => .bl (bs.all id)
  | .any, [.lst ds] => (bools ds).map fun bs => .bl (bs.any id)
  | .abs, [.int i] => some (.int (if i < 0 then -i else i))
  | .int, [.int i] => some (.int i)
  | .int, [.bl b] => some (.int (if b then 1 else 0))
  | .bool, [.int i] => some (.bl (i != 0))
  | .bool, [.bl b] => some (.bl b)
  | .tuple, [.lst ds] => some (.tup ds)
  | .tuple, [.tup ds] => some (.tup ds)
  | .list, [.lst ds] => some (.lst ds)
  | .list, [.tup ds] => some (.lst ds)
  | .max, [.lst (d :: ds)] => match intsOf (d :: ds) with
    | some (i :: is) => some (.int (maxL i is))
    | _ => none
  | .min, [.lst (d :: ds)] => match intsOf (d :: ds) with
    | some (i :: is) => some (.int (minL i is))
    | _ => none
  | .max, [.tup (d :: ds)] => match intsOf (d :: ds) with
    | some (i :: is) => some (.int (maxL i is))
    | _ => none
  | .sorted, [.lst ds] => if sortable ds then some (.lst (isort ds)) else none
  | .sorted, [.tup ds] => if sortable ds then some (.lst (isort ds)) else none
  | .str, [.int i] => if i.natAbs.log2 < 1920 then some (.str (Str.ofString (toString i))) else none
  | .str, [.str x] => some (.str x)
  | .int, [.str x] => if x.length ≤ 640 then (PySem.intText? x).map D.int else none
  | .max, [.int i, .int j] => some (.int (if j > i then j else i))
  | .min, [.int i, .int j] => some (.int (if j < i then j else i))
  | _, _ => none
/-- the store cut back -/
def trunc (k : Nat) (x : R D) : R D := match x with
  | .ok d S => if S.length ≤ k then .ok d S else if below k d && (S.take k).all (belowO k) then .ok d (S.take k) else .ok d S
  | .exc c S => .exc c S
  | .bad => .bad

def whileL (c : Env → Store → R Bool) (b : Env → Store → R Fl) : Nat → Env → Store → R Fl
  | 0, _, _ => .bad
  | n + 1, ρ, S => (c ρ S).bind fun k S1 => if k then (b ρ S1).bind fun f S2 => (match f with
      | .nx ρ2 => whileL c b n ρ2 S2
      | .rt d => .ok (.rt d) S2) else .ok (.nx ρ) S1
def forL (g : D → Env → Store → R Env) (b : Env → Store → R Fl) : List D → Env → Store → R Fl
  | [], ρ, S => .ok (.nx ρ) S
  | d :: ds, ρ, S => (g d ρ S).bind fun ρ1 S1 => (b ρ1 S1).bind fun f S2 => match f with
      | .nx ρ2 => forL g b ds ρ2 S2
      | .rt v => .ok (.rt v) S2
/-- a comprehension's items; nothing may be raised -/
def compL (g : D → Env → Store → R Env) (c : Env → Store → R Bool) (e : Env → Store → R D) (ρ : Env) : List D → List D → Store → R (List D)
  | [], acc, S => .ok acc.reverse S
  | d :: ds, acc, S => match g d ρ S with
    | .ok ρ1 S1 => (match c ρ1 S1 with
      | .ok true S2 => (match e ρ1 S2 with
        | .ok v S3 => if acc.length < 1000000 then compL g c e ρ ds (v :: acc) S3 else .bad
        | _ => .bad)
      | .ok false S2 => compL g c e ρ ds acc S2
      | _ => .bad)
    | _ => .bad
def wipeE (ρ : Env) : List Nat → Env
  | [] => ρ
  | v :: vs => (wipeE ρ vs).set v none
def setL : List Nat → List D → Env → Option Env
  | [], [], ρ => some ρ
  | i :: is, d :: ds, ρ => (setL is ds ρ).map fun ρ' => ρ'.set i (some d)
  | _, _, _ => none
def setItemD (o i v : D) (S : Store) : Option Store := match o, i with
  | .cel n, .int k => match S[n]? with
    | some (.lst ds) => (L2.ixN ds.length k).map fun j => S.set n (.lst (ds.set j v))
    | _ => none
  | _, _ => none
def appD (o v : D) (S : Store) : Option Store := match o with
  | .cel n => match S[n]? with
    | some (.lst ds) => if ds.length < 1000000 then some (S.set n (.lst (ds ++ [v]))) else none
    | _ => none
  | _ => none
def cellL (o : D) (S : Store) : Option Unit := match o with
  | .cel n => match S[n]? with
    | some (.lst _) => some ()
    | _ => none
  | _ => none
def optInt (t : T) (x : Env → Store → R D) (ρ : Env) (S : Store) : R (Option Int) := match t with
  | .nil => .ok none S
  | _ => (x ρ S).bind fun d S1 => R.ofO ((asInt d).map some) S1
def handler (c : Nat) : List (Nat × Str) → Option Str
  | [] => none
  | (k, d) :: hs => if k = c then some d else handler c hs
/-- a part of a key, a key -/
def keyD : D → Option L2.Key
  | .int i => some (.inl i)
  | .str x => some (.inr x)
  | _ => none
def keyL : List D → Option (List L2.Key)
  | [] => some []
  | d :: ds => match keyD d, keyL ds with
    | some k, some ks => some (k :: ks)
    | _, _ => none
def keyT (ds : List D) : Option (List L2.Key) := if ds.length ≤ 1000000 then keyL ds else none
def dicOf (S : Store) : D → Option (List (List L2.Key × D))
  | .cel n => match S[n]? with
    | some (.dT kvs) => some kvs
    | _ => none
  | _ => none
def getK (kvs : List (List L2.Key × D)) (k : List L2.Key) : Option D := (kvs.find? fun kv => decide (kv.1 = k)).map (·.2)
def putKD (kvs : List (List L2.Key × D)) (k : List L2.Key) (v : D) : List (List L2.Key × D) :=
  if (kvs.any fun kv => decide (kv.1 = k)) = true then kvs.map (fun kv => if kv.1 = k then (kv.1, v) else kv) else kvs ++ [(k, v)]
def dgetD (S : Store) (o : D) (ds : List D) : Option D := match dicOf S o, keyT ds with
  | some kvs, some k => getK kvs k
  | _, _ => none
def dputD (o : D) (ds : List D) (v : D) (S : Store) : Option Store := match o with
  | .cel n => match S[n]?, keyT ds with
    | some (.dT kvs), some k => if kvs.length < 1000000 then some (S.set n (.dT (putKD kvs k v))) else none
    | _, _ => none
  | _ => none
def keysD : List D → Option (List (List L2.Key))
  | [] => some []
  | .tup ds :: xs => match keyT ds, keysD xs with
    | some k, some ks => some (k :: ks)
    | _, _ => none
  | _ => none
/-- dict(zip(..)) -/
def dzD (x y : D) : Option (List (List L2.Key × D)) := match x, y with
  | .lst xs, .tup ys => match keysD xs with
    | some ks => if ks.Nodup ∧ xs.length ≤ 1000000 then some (List.zipWith (fun k y => (k, y)) ks ys) else none
    | none => none
  | _, _ => none
/-- a new cell, or a list as a value -/
def mkL (cl : Bool) (ds : List D) (S : Store) : R D := if cl then .ok (.cel S.length) (S ++ [.lst ds]) else .ok (.lst ds) S

/-- no cell at n or above, but in slot i -/
def envB (n i : Nat) : Nat → Env → Bool
  | _, [] => true
  | k, none :: ρ => envB n i (k + 1) ρ
  | k, some d :: ρ => (decide (k = i) || below n d) && envB n i (k + 1) ρ
/-- the last cell becomes a list -/
def frzL (i j n : Nat) (ρ : Env) (S : Store) : Option (Env × Store) := match ρ[i]?, S[n]? with
  | some (some (.cel m)), some (.lst ds) => if m = n ∧ S.length = n + 1 ∧ i ≠ j ∧ (S.take n).all (belowO n) = true ∧ belowL n ds = true ∧ envB n i 0 ρ = true then some ((ρ.set i none).set j (some (.lst ds)), S.take n) else none
  | _, _ => none
mutual
/-- expressions -/
def evE (G : Glb) : T → Env → Store → R D
  | .var i => fun ρ S => R.ofO (getV ρ i) S
  | .int i => fun _ S => .ok (.int i) S
  | .str x => fun _ S => .ok (.str x) S
  | .bl b => fun _ S => .ok (.bl b) S
  | .non => fun _ S => .ok .non S
  | .glob g => fun _ S => R.ofO (G.glob g) S
  | .bin o a b => fun ρ S => (evE G a ρ S).bind fun x S1 => (evE G b ρ S1).bind fun y S2 => R.ofO (binD o (view S2 x) (view S2 y)) S2
  | .neg a => fun ρ S => (evE G a ρ S).bind fun x S1 => R.ofO ((asInt x).map fun i => .int (-i)) S1
  | .not a => fun ρ S => (tst (evE G a ρ S)).bind fun b S1 => .ok (.bl (!b)) S1
  | .cmp o a b => fun ρ S => (evE G a ρ S).bind fun x S1 => (evE G b ρ S1).bind fun y S2 => R.ofO ((cmpD S2 o (view S2 x) (view S2 y)).map D.bl) S2
  | .chain o p a b c => fun ρ S => (evE G a ρ S).bind fun x S1 => (evE G b ρ S1).bind fun y S2 => (R.ofO (cmpD S2 o (view S2 x) (view S2 y)) S2).bind fun k S3 =>
      if k then (evE G c ρ S3).bind fun z S4 => R.ofO ((cmpD S4 p (view S4 y) (view S4 z)).map D.bl) S4 else .ok (.bl false) S3
  | .and a b => fun ρ S => (evE G a ρ S).bind fun x S1 => (R.ofO (truth (view S1 x)) S1).bind fun k S2 => if k then evE G b ρ S2 else .ok x S2
  | .or a b => fun ρ S => (evE G a ρ S).bind fun x S1 => (R.ofO (truth (view S1 x)) S1).bind fun k S2 => if k then .ok x S2 else evE G b ρ S2
  | .one a => evE G a
  | .ife c a b => fun ρ S => (tst (evE G c ρ S)).bind fun k S1 => if k then evE G a ρ S1 else evE G b ρ S1
  | .tup es => fun ρ S => (evA G es ρ S).bind fun ds S1 => if ds.length ≤ 1000000 then .ok (.tup ds) S1 else .bad
  | .lst cl es => fun ρ S => (evA G es ρ S).bind fun ds S1 => if ds.length ≤ 1000000 then mkL cl ds S1 else .bad
  | .rep cl a b => fun ρ S => (evE G a ρ S).bind fun x S1 => (evE G b ρ S1).bind fun y S2 => (R.ofO (binD .mul (view S2 x) y) S2).bind fun z S3 => match z with
      | .lst ds => mkL cl ds S3
      | _ => .bad
  | .ix a i => fun ρ S => (evE G a ρ S).bind fun x S1 => (evE G i ρ S1).bind fun y S2 => R.ofO (ixD (view S2 x) y) S2
  | .sl a lo hi => fun ρ S => (evE G a ρ S).bind fun x S1 => (optInt lo (evE G lo) ρ S1).bind fun l S2 => (optInt hi (evE G hi) ρ S2).bind fun h S3 => match view S3 x with
      | .tup ds => .ok (.tup (cutD ds l h)) S3
      | .lst ds => .ok (.lst (cutD ds l h)) S3
      | .str x => if x.length ≤ 1000000 then .ok (.str (L2.cutS x l h)) S3 else .bad
      | _ => .bad
  | .rev a => fun ρ S => (evE G a ρ S).bind fun x S1 => match x with
      | .tup ds => .ok (.tup ds.reverse) S1
      | _ => .bad
  | .upper a => fun ρ S => (evE G a ρ S).bind fun x S1 => match x with
      | .str z => if z.length ≤ 1000000 then .ok (.str (PySem.Txt.upper z)) S1 else .bad
      | _ => .bad
  | .call f es => fun ρ S => (evA G es ρ S).bind fun ds S1 => G.call f ds S1
  | .prim p es => fun ρ S => (evA G es ρ S).bind fun ds S1 => R.ofO (primD p (ds.map (view S1))) S1
  | .isi t a => fun ρ S => (evE G a ρ S).bind fun x S1 => (match view S1 x with
      | .fn _ => .bad
      | .cel _ => .bad
      | .scr _ => .bad
      | y => .ok (.bl (isTy t y)) S1)
  | .comp cl e tg it cond own => fun ρ S => (evI G it ρ S).bind fun ds S1 => (match compL (fun d => evG G tg d) (fun ρ S => tst (evE G cond ρ S)) (fun ρ S => evE G e ρ S) (wipeE ρ own) ds [] S1 with
      | .ok vs S2 => mkL cl vs S2
      | _ => .bad)
  | .callv i es => fun ρ S => (R.ofO (getV ρ i) S).bind fun v S0 => (match v with
      | .fn f => if f < G.nf then (evA G es ρ S0).bind fun ds S1 => G.call f ds S1 else .bad
      | _ => .bad)
  | .word _ hs dv e => fun ρ S => (match evE G e ρ S with
      | .ok _ S1 => .ok (.str dv) S1
      | .exc c S1 => (match handler c hs with
        | some x => .ok (.str x) S1
        | none => .bad)
      | .bad => .bad)
  | .lrng1 a => fun ρ S => (evE G a ρ S).bind fun d S1 => (match d with
      | .int j => if 0 ≤ j ∧ j ≤ 1000000 then .ok (.lst (rngL 0 1 j.toNat)) S1 else .bad
      | _ => .bad)
  | .lrng2 a b => fun ρ S => (evE G a ρ S).bind fun c S1 => (evE G b ρ S1).bind fun d S2 => (match c, d with
      | .int i, .int j => if 0 ≤ i ∧ i ≤ 1000000 ∧ 0 ≤ j ∧ j ≤ 1000000 then .ok (.lst (rngL i 1 (j - i).toNat)) S2 else .bad
      | _, _ => .bad)
  | .dnew => fun _ S => .ok (.cel S.length) (S ++ [.dT []])
  | .dz a b => fun ρ S => (evE G a ρ S).bind fun x S1 => (evE G b ρ S1).bind fun y S2 => (R.ofO (dzD x y) S2).bind fun kvs S3 => .ok (.cel S3.length) (S3 ++ [.dT kvs])
  | .dix a es => fun ρ S => (evE G a ρ S).bind fun x S1 => (evA G es ρ S1).bind fun ds S2 => R.ofO (dgetD S2 x ds) S2
  | .din neg es a => fun ρ S => (evA G es ρ S).bind fun ds S1 => (R.ofO (keyT ds) S1).bind fun ks S2 => (evE G a ρ S2).bind fun x S3 => R.ofO ((dicOf S3 x).map fun kvs => .bl (if neg then !(getK kvs ks).isSome else (getK kvs ks).isSome)) S3
  | _ => fun _ _ => .bad
/-- lists of expressions -/
def evA (G : Glb) : T → Env → Store → R (List D)
  | .nil => fun _ S => .ok [] S
  | .cons a l => fun ρ S => (evE G a ρ S).bind fun d S1 => (evA G l ρ S1).bind fun ds S2 => .ok (d :: ds) S2
  | _ => fun _ _ => .bad
/-- what is walked -/
def evI (G : Glb) : T → Env → Store → R (List D)
  | .one e => fun ρ S => (evE G e ρ S).bind fun d S1 => (match d with
      | .tup ds => .ok ds S1
      | .lst ds => .ok ds S1
      | .scr ns => .ok (ns.map D.int) S1
      | _ => .bad)
  | .rng1 a => fun ρ S => (evE G a ρ S).bind fun d S1 => (match d with
      | .int j => if small j then .ok (rngL 0 1 j.toNat) S1 else .bad
      | _ => .bad)
  | .rng2 a b => fun ρ S => (evE G a ρ S).bind fun c S1 => (evE G b ρ S1).bind fun d S2 => (match c, d with
      | .int i, .int j => if small i && small j then .ok (rngL i 1 (j - i).toNat) S2 else .bad
      | _, _ => .bad)
  | .rng3 a b => fun ρ S => (evE G a ρ S).bind fun c S1 => (evE G b ρ S1).bind fun d S2 => (match c, d with
      | .int i, .int j => if small i && small j then .ok (rngL i (-1) (i - j).toNat) S2 else .bad
      | _, _ => .bad)
  | .zip a b => fun ρ S => (evE G a ρ S).bind fun c S1 => (evE G b ρ S1).bind fun d S2 => (match c, d with
      | .tup xs, .tup ys => .ok (List.zipWith (fun x y => D.tup [x, y]) xs ys) S2
      | .lst xs, .lst ys => .ok (List.zipWith (fun x y => D.tup [x, y]) xs ys) S2
      | _, _ => .bad)
  | .enum a => fun ρ S => (evE G a ρ S).bind fun d S1 => (match d with
      | .lst xs => .ok (List.zipWith (fun x y => D.tup [x, y]) (rngL 0 1 xs.length) xs) S1
      | .tup xs => .ok (List.zipWith (fun x y => D.tup [x, y]) (rngL 0 1 xs.length) xs) S1
      | _ => .bad)
  | _ => fun _ _ => .bad
/-- targets -/
def evG (G : Glb) : T → D → Env → Store → R Env
  | .tv i => fun d ρ S => .ok (ρ.set i (some d)) S
  | .tt ts => fun d ρ S => (match d with
      | .tup ds => if ds.length = tlen ts then evGs G ts ds ρ S else .bad
      | _ => .bad)
  | .ts o i => fun d ρ S => (evE G o ρ S).bind fun x S1 => (evE G i ρ S1).bind fun y S2 => (R.ofO (setItemD x y d S2) S2).bind fun S3 _ => .ok ρ S3
  | _ => fun _ _ _ => .bad
def evGs (G : Glb) : T → List D → Env → Store → R Env
  | .nil => fun ds ρ S => (match ds with
      | [] => .ok ρ S
      | _ => .bad)
  | .cons t l => fun ds ρ S => (match ds with
      | d :: r => (evG G t d ρ S).bind fun ρ1 S1 => evGs G l r ρ1 S1
      | _ => .bad)
  | _ => fun _ _ _ => .bad
/-- statements, blocks -/
def evS (G : Glb) : T → Env → Store → R Fl
  | .asg tg e => fun ρ S => (evE G e ρ S).bind fun d S1 => (evG G tg d ρ S1).bind fun ρ1 S2 => .ok (.nx ρ1) S2
  | .asgc i e => fun ρ S => (evE G e ρ S).bind fun d S1 => .ok (.nx (ρ.set i (some d))) S1
  | .par is es => fun ρ S => (evA G es ρ S).bind fun ds S1 => (R.ofO (setL is ds ρ) S1).bind fun ρ1 S2 => .ok (.nx ρ1) S2
  | .expr e => fun ρ S => (evE G e ρ S).bind fun _ S1 => .ok (.nx ρ) S1
  | .app i e => fun ρ S => (R.ofO (getV ρ i) S).bind fun o S0 => (R.ofO (cellL o S0) S0).bind fun _ S0 => (evE G e ρ S0).bind fun d S1 => (R.ofO (appD o d S1) S1).bind fun S2 _ => .ok (.nx ρ) S2
  | .ret e => fun ρ S => (evE G e ρ S).bind fun d S1 => .ok (.rt d) S1
  | .ret0 => fun _ S => .ok (.rt .non) S
  | .ite c a b => fun ρ S => (tst (evE G c ρ S)).bind fun k S1 => if k then evS G a ρ S1 else evS G b ρ S1
  | .loop c b => fun ρ S => whileL (fun ρ S => tst (evE G c ρ S)) (fun ρ S => evS G b ρ S) G.fuel ρ S
  | .for_ tg it b => fun ρ S => (evI G it ρ S).bind fun ds S1 => forL (fun d => evG G tg d) (fun ρ S => evS G b ρ S) ds ρ S1
  | .raise c => fun _ S => .exc c S
  | .pass => fun ρ S => .ok (.nx ρ) S
  | .try1 b hs => fun ρ S => (match evS G b ρ S with
      | .exc c S1 => (match handler c hs with
        | some x => .ok (.rt (.str x)) S1
        | none => .exc c S1)
      | r => r)
  | .dset o es e => fun ρ S => (evE G e ρ S).bind fun v S1 => (evE G o ρ S1).bind fun x S2 => (evA G es ρ S2).bind fun ds S3 => (R.ofO (dputD x ds v S3) S3).bind fun S4 _ => .ok (.nx ρ) S4
  | .build i j b => fun ρ S => (evS G b (ρ.set i (some (.cel S.length))) (S ++ [.lst []])).bind fun f S2 => (match f with
      | .nx ρ2 => match frzL i j S.length ρ2 S2 with
        | some (ρ3, S3) => .ok (.nx ρ3) S3
        | none => .bad
      | .rt _ => .bad)
  | .nil => fun ρ S => .ok (.nx ρ) S
  | .cons a l => fun ρ S => (evS G a ρ S).bind fun f S1 => (match f with
      | .nx ρ1 => evS G l ρ1 S1
      | .rt d => .ok (.rt d) S1)
  | _ => fun _ _ => .bad
end
/-- a def: n parameters, m names -/
structure Fn where
  n : Nat
  m : Nat
  body : T
def Fn.run (F : Fn) (G : Glb) (ds : List D) (S : Store) : R D :=
  if ds.length = F.n then trunc S.length ((evS G F.body (ds.map some ++ List.replicate (F.m - F.n) none) S).bind fun f S1 => match f with
    | .nx _ => .ok .non S1
    | .rt d => .ok d S1) else .bad
end Ev
end
section
set_option Elab.async false
set_option linter.all false
set_option maxRecDepth 100000
namespace Ev
open PySem PySem.Spec PyProof.Rows L2
open LamX (Tabs TabS)

/-- what the world gives: where the defs stand, the classes of errors, the names -/
structure Wd where
  K : PySem.W.Frag
  fa : Nat → Addr
  cls : Nat → Value
  tabs : List (Addr × Str)

/-- a written tuple -/
def KTup (K : PySem.W.Frag) (a : Addr) (xs : List V) : Prop :=
  ∃ (o : Obj) (its : Array Value) (n : Nat), K.lookup a = some o ∧ o.cls = .type "tuple" ∧ o.data = .seq its n ∧ its.size ≤ sizeLine ∧ Vals xs its.toList
def KLst (K : PySem.W.Frag) (a : Addr) (xs : List V) : Prop :=
  ∃ (o : Obj) (its : Array Value) (n : Nat), K.lookup a = some o ∧ o.cls = .type "list" ∧ o.dict = none ∧ o.data = .seq its n ∧ its.size ≤ sizeLine ∧ Vals xs its.toList
def TupAt (K : PySem.W.Frag) (mu hid : List Addr) (H : Hp) (a : Addr) (xs : List V) : Prop :=
  (H a = some (.tup xs) ∧ a ∉ mu ∧ a ∉ hid) ∨ (False ∧ KTup K a xs)
def ScrAt (K : PySem.W.Frag) (mu hid : List Addr) (H : Hp) (a : Addr) (xs : List V) : Prop :=
  (Rd H a (.lst xs) ∧ a ∉ mu ∧ a ∉ hid) ∨ KLst K a xs
mutual
/-- a value bears a datum -/
def Rep (W : Wd) (mu hid : List Addr) (H : Hp) : D → V → Prop
  | .non, v => v = .non
  | .bl b, v => v = .bl b
  | .int i, v => v = .int i
  | .str x, v => v = .str x
  | .tup ds, v => ∃ a xs, v = .ref a ∧ TupAt W.K mu hid H a xs ∧ RepL W mu hid H ds xs
  | .lst ds, v => ∃ a xs, v = .ref a ∧ H a = some (.lst xs) ∧ a ∉ mu ∧ a ∉ hid ∧ RepL W mu hid H ds xs
  | .cel n, v => ∃ a, v = .ref a ∧ mu[n]? = some a
  | .fn f, v => v = .ref (W.fa f)
  | .scr ns, v => ∃ a, v = .ref a ∧ ScrAt W.K mu hid H a (ns.map V.int)
def RepL (W : Wd) (mu hid : List Addr) (H : Hp) : List D → List V → Prop
  | [], xs => xs = []
  | d :: ds, xs => ∃ v vs, xs = v :: vs ∧ Rep W mu hid H d v ∧ RepL W mu hid H ds vs
end
def RepO (W : Wd) (mu hid : List Addr) (H : Hp) (a : Addr) : O → Prop
  | .lst ds => ∃ xs, H a = some (.lst xs) ∧ RepL W mu hid H ds xs
  | .dT kvs => ∃ vs : List (List Key × V), H a = some (.dT vs) ∧ vs.map (·.1) = kvs.map (·.1) ∧ RepL W mu hid H (kvs.map (·.2)) (vs.map (·.2))
  | .dK kvs => ∃ vs : List (Key × V), H a = some (.dK vs) ∧ vs.map (·.1) = kvs.map (·.1) ∧ RepL W mu hid H (kvs.map (·.2)) (vs.map (·.2))
structure Good (W : Wd) (mu hid : List Addr) (S : Store) (H : Hp) : Prop where
  len : mu.length = S.length
  nd : mu.Nodup
  obj : ∀ (n : Nat) (o : O), S[n]? = some o → ∃ a, mu[n]? = some a ∧ RepO W mu hid H a o
  hidT : ∀ a ∈ hid, ∃ o, H a = some o ∧ ∀ ps, o ≠ .tbl ps
  dis : ∀ a ∈ hid, a ∉ mu
  tabs : Tabs W.tabs H
structure Ext (mu : List Addr) (H : Hp) (mu' : List Addr) (H' : Hp) : Prop where
  pre : ∃ t, mu' = mu ++ t
  new : ∀ a ∈ mu', a ∈ mu ∨ H a = none ∨ ∃ ps, H a = some (.tbl ps)
  keep : ∀ a o, H a = some o → a ∉ mu → (∀ ps, o ≠ .tbl ps) → H' a = some o
  there : ∀ a o, H a = some o → (∀ ps, o ≠ .tbl ps) → ∃ o', H' a = some o' ∧ ∀ ps, o' ≠ .tbl ps
def EnvR (W : Wd) (mu hid : List Addr) (H : Hp) (ρ : Env) (σ : L2.St) : Prop := ρ.length ≤ σ.length ∧ ∀ (i : Nat) (d : D), ρ[i]? = some (some d) → ∃ v, σ[i]? = some (some v) ∧ Rep W mu hid H d v

section
variable {W : Wd} {mu mu' mu2 hid hid' : List Addr} {H H' H2 : Hp} {S S' : Store}
theorem Ext.refl : Ext mu H mu H := ⟨⟨[], by simp⟩, fun _ h => .inl h, fun _ _ h _ _ => h, fun _ o h n => ⟨o, h, n⟩⟩
theorem Ext.trans (a : Ext mu H mu' H') (b : Ext mu' H' mu2 H2) : Ext mu H mu2 H2 := by
  obtain ⟨t, rfl⟩ := a.pre
  obtain ⟨u, rfl⟩ := b.pre
  refine ⟨⟨t ++ u, by simp⟩, fun x hx => ?_, fun x o h n z => ?_, fun x o h n => ?_⟩
  · have stand : ∀ o, H x = some o → (∀ ps, o ≠ .tbl ps) → ∃ o', H' x = some o' ∧ ∀ ps, o' ≠ .tbl ps := fun o h n => a.there x o h n
    rcases b.new x hx with q | q | ⟨ps, q⟩
    · exact a.new x q
    · right
      cases h : H x with
      | none => exact .inl rfl
      | some o =>
        right
        cases o with
        | tbl ps => exact ⟨ps, rfl⟩
        | _ =>
          obtain ⟨o', e1, _⟩ := stand _ h (fun _ z => nomatch z)
          rw [q] at e1; cases e1
    · right
      cases h : H x with
      | none => exact .inl rfl
      | some o =>
        right
        cases o with
        | tbl ps => exact ⟨ps, rfl⟩
        | _ =>
          obtain ⟨o', e1, n1⟩ := stand _ h (fun _ z => nomatch z)
          rw [q] at e1; cases e1
          exact absurd rfl (n1 ps)
  · refine b.keep x o (a.keep x o h n z) (fun hx => ?_) z
    rcases a.new x hx with q | q | ⟨ps, q⟩
    · exact n q
    · rw [h] at q; cases q
    · rw [h] at q; cases q; exact z ps rfl
  · obtain ⟨o1, h1, n1⟩ := a.there x o h n
    exact b.there x o1 h1 n1
theorem Ext.same (e : Same H H') : Ext mu H mu H' := ⟨⟨[], by simp⟩, fun _ h => .inl h, fun a o h _ _ => e a o h, fun a o h n => ⟨o, e a o h, n⟩⟩
theorem same_new {p : Addr} {o : HO} (h : H p = none) : Same H (upd H p o) := fun b u e => by rw [upd_ne (ne_of_none e h)]; exact e

mutual
theorem Rep.ext (e : Ext mu H mu' H') : ∀ (d : D) (v : V), Rep W mu hid H d v → Rep W mu' hid H' d v
  | .non, _, h => h
  | .bl _, _, h => h
  | .int _, _, h => h
  | .str _, _, h => h
  | .fn _, _, h => h
  | .tup ds, _, ⟨a, xs, e1, h, r⟩ => by
    refine ⟨a, xs, e1, ?_, RepL.ext e ds xs r⟩
    rcases h with ⟨h, n, n2⟩ | h
    · refine .inl ⟨e.keep a _ h n (fun _ z => nomatch z), fun z => ?_, n2⟩
      rcases e.new a z with q | q | ⟨ps, q⟩
      · exact n q
      · rw [h] at q; cases q
      · rw [h] at q; cases q
    · exact .inr h
  | .lst ds, _, ⟨a, xs, e1, h, n, n2, r⟩ => by
    refine ⟨a, xs, e1, e.keep a _ h n (fun _ z => nomatch z), fun z => ?_, n2, RepL.ext e ds xs r⟩
    rcases e.new a z with q | q | ⟨ps, q⟩
    · exact n q
    · rw [h] at q; cases q
    · rw [h] at q; cases q
  | .cel n, _, ⟨a, e1, h⟩ => by
    obtain ⟨t, rfl⟩ := e.pre
    refine ⟨a, e1, ?_⟩
    obtain ⟨hlt, q⟩ := List.getElem?_eq_some_iff.mp h
    rw [List.getElem?_append_left hlt]; exact h
  | .scr ns, _, ⟨a, e1, h⟩ => by
    refine ⟨a, e1, ?_⟩
    rcases h with ⟨h, n, n2⟩ | h
    · have hs : ∃ o, H a = some o ∧ ∀ ps, o ≠ .tbl ps := by
        rcases h with h | ⟨o, h⟩
        · exact ⟨_, h, fun _ z => nomatch z⟩
        · exact ⟨_, h, fun _ z => nomatch z⟩
      obtain ⟨o, ho, hn⟩ := hs
      refine .inl ⟨?_, fun z => ?_, n2⟩
      · rcases h with h | ⟨o', h⟩
        · exact .inl (e.keep a _ h n (fun _ z => nomatch z))
        · exact .inr ⟨o', e.keep a _ h n (fun _ z => nomatch z)⟩
      · rcases e.new a z with q | q | ⟨ps, q⟩
        · exact n q
        · rw [ho] at q; cases q
        · rw [ho] at q; cases q; exact hn ps rfl
    · exact .inr h
theorem RepL.ext (e : Ext mu H mu' H') : ∀ (ds : List D) (vs : List V), RepL W mu hid H ds vs → RepL W mu' hid H' ds vs
  | [], _, h => h
  | d :: ds, _, ⟨v, vs, e1, h1, h2⟩ => ⟨v, vs, e1, Rep.ext e d v h1, RepL.ext e ds vs h2⟩
end
mutual
/-- fewer hidden things, changes at hidden places -/
theorem Rep.weak {hid' : List Addr} (hh : ∀ a, a ∈ hid' → a ∈ hid) (k : ∀ a o, H a = some o → a ∉ hid → H' a = some o) : ∀ (d : D) (v : V), Rep W mu hid H d v → Rep W mu hid' H' d v
  | .non, _, h => h
  | .bl _, _, h => h
  | .int _, _, h => h
  | .str _, _, h => h
  | .fn _, _, h => h
  | .tup ds, _, ⟨a, xs, e1, h, r⟩ => by
    refine ⟨a, xs, e1, ?_, RepL.weak hh k ds xs r⟩
    rcases h with ⟨h, n, n2⟩ | h
    · exact .inl ⟨k a _ h n2, n, fun z => n2 (hh a z)⟩
    · exact .inr h
  | .lst ds, _, ⟨a, xs, e1, h, n, n2, r⟩ => ⟨a, xs, e1, k a _ h n2, n, fun z => n2 (hh a z), RepL.weak hh k ds xs r⟩
  | .cel n, _, h => h
  | .scr ns, _, ⟨a, e1, h⟩ => by
    refine ⟨a, e1, ?_⟩
    rcases h with ⟨h, n, n2⟩ | h
    · refine .inl ⟨?_, n, fun z => n2 (hh a z)⟩
      rcases h with h | ⟨o', h⟩
      · exact .inl (k a _ h n2)
      · exact .inr ⟨o', k a _ h n2⟩
    · exact .inr h
theorem RepL.weak {hid' : List Addr} (hh : ∀ a, a ∈ hid' → a ∈ hid) (k : ∀ a o, H a = some o → a ∉ hid → H' a = some o) : ∀ (ds : List D) (vs : List V), RepL W mu hid H ds vs → RepL W mu hid' H' ds vs
  | [], _, h => h
  | d :: ds, _, ⟨v, vs, e1, h1, h2⟩ => ⟨v, vs, e1, Rep.weak hh k d v h1, RepL.weak hh k ds vs h2⟩
end
/-- a new hidden place: all that stands is elsewhere -/
theorem not_hid {p a : Addr} {o : HO} (hp : H p = none) (h : H a = some o) (n : a ∉ hid) : a ∉ p :: hid := fun z => by
  rcases List.mem_cons.mp z with q | q
  · rw [q, hp] at h; cases h
  · exact n q
mutual
theorem Rep.hide {p : Addr} (hp : H p = none) : ∀ (d : D) (v : V), Rep W mu hid H d v → Rep W mu (p :: hid) H d v
  | .non, _, h => h
  | .bl _, _, h => h
  | .int _, _, h => h
  | .str _, _, h => h
  | .fn _, _, h => h
  | .tup ds, _, ⟨a, xs, e1, h, r⟩ => by
    refine ⟨a, xs, e1, ?_, RepL.hide hp ds xs r⟩
    rcases h with ⟨h, n, n2⟩ | h
    · exact .inl ⟨h, n, not_hid hp h n2⟩
    · exact .inr h
  | .lst ds, _, ⟨a, xs, e1, h, n, n2, r⟩ => ⟨a, xs, e1, h, n, not_hid hp h n2, RepL.hide hp ds xs r⟩
  | .cel n, _, h => h
  | .scr ns, _, ⟨a, e1, h⟩ => by
    refine ⟨a, e1, ?_⟩
    rcases h with ⟨h, n, n2⟩ | h
    · refine .inl ⟨h, n, ?_⟩
      rcases h with h | ⟨o', h⟩
      · exact not_hid hp h n2
      · exact not_hid hp h n2
    · exact .inr h
theorem RepL.hide {p : Addr} (hp : H p = none) : ∀ (ds : List D) (vs : List V), RepL W mu hid H ds vs → RepL W mu (p :: hid) H ds vs
  | [], _, h => h
  | d :: ds, _, ⟨v, vs, e1, h1, h2⟩ => ⟨v, vs, e1, Rep.hide hp d v h1, RepL.hide hp ds vs h2⟩
end
theorem RepO.ext (e : Ext mu H mu' H') {a : Addr} {o : O} (r : RepO W mu hid H a o) (ha : H' a = H a) : RepO W mu' hid H' a o := by
  cases o with
  | lst ds => obtain ⟨xs, h, q⟩ := r; exact ⟨xs, ha.trans h, RepL.ext e _ _ q⟩
  | dT kvs => obtain ⟨xs, h, k, q⟩ := r; exact ⟨xs, ha.trans h, k, RepL.ext e _ _ q⟩
  | dK kvs => obtain ⟨xs, h, k, q⟩ := r; exact ⟨xs, ha.trans h, k, RepL.ext e _ _ q⟩
theorem RepO.there {a : Addr} {o : O} (r : RepO W mu hid H a o) : H a ≠ none := by
  cases o with
  | lst ds => obtain ⟨xs, h, q⟩ := r; rw [h]; simp
  | dT kvs => obtain ⟨xs, h, k, q⟩ := r; rw [h]; simp
  | dK kvs => obtain ⟨xs, h, k, q⟩ := r; rw [h]; simp
theorem Good.there (g : Good W mu hid S H) : ∀ a ∈ mu, H a ≠ none := fun a ha => by
  obtain ⟨n, hn, e⟩ := List.getElem_of_mem ha
  have h2 : n < S.length := by rw [← g.len]; exact hn
  obtain ⟨b, hb, r⟩ := g.obj n S[n] (by simp [h2])
  rw [List.getElem?_eq_getElem hn] at hb
  have := Option.some.inj hb
  rw [← e, this]
  exact r.there
theorem Good.same (g : Good W mu hid S H) (e : Same H H') : Good W mu hid S H' := by
  refine ⟨g.len, g.nd, fun n o h => ?_, fun a ha => (g.hidT a ha).elim fun o h => ⟨o, e a o h.1, h.2⟩, g.dis, g.tabs.ext e⟩
  · obtain ⟨a, h1, r⟩ := g.obj n o h
    refine ⟨a, h1, r.ext (Ext.same e) ?_⟩
    cases q : H a with
    | none => exact absurd q r.there
    | some u => exact e a u q
theorem EnvR.ext {ρ : Env} {σ : L2.St} (r : EnvR W mu hid H ρ σ) (e : Ext mu H mu' H') : EnvR W mu' hid H' ρ σ :=
  ⟨r.1, fun i d h => let ⟨v, h1, h2⟩ := r.2 i d h; ⟨v, h1, h2.ext e⟩⟩
theorem EnvR.set {ρ : Env} {σ : L2.St} (r : EnvR W mu hid H ρ σ) {i : Nat} {d : D} {v : V} (h : Rep W mu hid H d v) : EnvR W mu hid H (ρ.set i (some d)) (σ.set i (some v)) := by
  refine ⟨by simpa using r.1, fun j e h2 => ?_⟩
  by_cases hj : i = j
  · subst hj
    by_cases hl : i < ρ.length
    · rw [List.getElem?_set_self hl] at h2
      cases h2
      exact ⟨v, by rw [List.getElem?_set_self (Nat.lt_of_lt_of_le hl r.1)], h⟩
    · rw [List.getElem?_eq_none (by simpa using hl)] at h2; cases h2
  · rw [List.getElem?_set_ne hj] at h2 ⊢
    exact r.2 j e h2
theorem EnvR.wipe {ρ : Env} {σ : L2.St} (r : EnvR W mu hid H ρ σ) : ∀ vs : List Nat, EnvR W mu hid H (wipeE ρ vs) (wipe σ vs)
  | [] => r
  | v :: vs => by
    have ih := EnvR.wipe r vs
    refine ⟨by show ((wipeE ρ vs).set v none).length ≤ ((L2.wipe σ vs).set v none).length; simpa using ih.1, fun j e h2 => ?_⟩
    have h2 : ((wipeE ρ vs).set v none)[j]? = some (some e) := h2
    show ∃ w, ((L2.wipe σ vs).set v none)[j]? = some (some w) ∧ _
    by_cases hj : v = j
    · subst hj
      by_cases hl : v < (wipeE ρ vs).length
      · rw [List.getElem?_set_self hl] at h2; cases h2
      · rw [List.getElem?_eq_none (by simpa using hl)] at h2; cases h2
    · rw [List.getElem?_set_ne hj] at h2 ⊢
      exact ih.2 j e h2
theorem EnvR.get {ρ : Env} {σ : L2.St} (r : EnvR W mu hid H ρ σ) {i : Nat} {d : D} (h : getV ρ i = some d) : ∃ v, σ[i]? = some (some v) ∧ Rep W mu hid H d v := by
  unfold getV at h
  split at h
  · cases h; exact r.2 i _ (by assumption)
  · cases h

theorem RepL.length : ∀ {ds : List D} {vs : List V}, RepL W mu hid H ds vs → vs.length = ds.length
  | [], _, h => by rw [show _ = [] from h]; rfl
  | d :: ds, _, ⟨v, vs, e1, h1, h2⟩ => by rw [e1, List.length_cons, List.length_cons, RepL.length h2]
theorem RepL.get : ∀ {ds : List D} {vs : List V} {i : Nat} {d : D}, RepL W mu hid H ds vs → ds[i]? = some d → ∃ v, vs[i]? = some v ∧ Rep W mu hid H d v
  | [], _, _, _, _, e => by simp at e
  | d :: ds, _, 0, _, ⟨v, vs, e1, h1, h2⟩, e => by simp at e; subst e; subst e1; exact ⟨v, rfl, h1⟩
  | d :: ds, _, i + 1, _, ⟨v, vs, e1, h1, h2⟩, e => by subst e1; simpa using RepL.get (i := i) h2 (by simpa using e)
theorem RepL.app : ∀ {ds es : List D} {vs ws : List V}, RepL W mu hid H ds vs → RepL W mu hid H es ws → RepL W mu hid H (ds ++ es) (vs ++ ws)
  | [], _, _, _, h, r => by rw [show _ = [] from h]; exact r
  | d :: ds, _, _, _, ⟨v, vs, e1, h1, h2⟩, r => ⟨v, vs ++ _, by rw [e1]; rfl, h1, RepL.app h2 r⟩
theorem RepL.take : ∀ {ds : List D} {vs : List V} (n : Nat), RepL W mu hid H ds vs → RepL W mu hid H (ds.take n) (vs.take n)
  | _, _, 0, _ => by simp [RepL]
  | [], _, n + 1, h => by rw [show _ = [] from h]; simp [RepL]
  | d :: ds, _, n + 1, ⟨v, vs, e1, h1, h2⟩ => ⟨v, vs.take n, by rw [e1]; rfl, h1, RepL.take n h2⟩
theorem RepL.drop : ∀ {ds : List D} {vs : List V} (n : Nat), RepL W mu hid H ds vs → RepL W mu hid H (ds.drop n) (vs.drop n)
  | _, _, 0, h => by simpa using h
  | [], _, n + 1, h => by rw [show _ = [] from h]; simp [RepL]
  | d :: ds, _, n + 1, ⟨v, vs, e1, h1, h2⟩ => by subst e1; simpa using RepL.drop n h2
theorem RepL.set : ∀ {ds : List D} {vs : List V} (n : Nat) {d : D} {v : V}, RepL W mu hid H ds vs → Rep W mu hid H d v → RepL W mu hid H (ds.set n d) (vs.set n v)
  | [], _, _, _, _, h, _ => by rw [show _ = [] from h]; simp [RepL]
  | _ :: ds, _, 0, d, v, ⟨v', vs, e1, h1, h2⟩, r => by subst e1; exact ⟨v, vs, rfl, r, h2⟩
  | _ :: ds, _, n + 1, d, v, ⟨v', vs, e1, h1, h2⟩, r => by subst e1; exact ⟨v', vs.set n v, rfl, h1, RepL.set n h2 r⟩
theorem RepL.rep {ds : List D} {vs : List V} (h : RepL W mu hid H ds vs) : ∀ k : Nat, RepL W mu hid H (List.replicate k ds).flatten (List.replicate k vs).flatten
  | 0 => by simp [RepL]
  | k + 1 => by rw [List.replicate_succ, List.flatten_cons, List.replicate_succ, List.flatten_cons]; exact h.app (RepL.rep h k)
theorem RepL.int : ∀ {is : List Int} {vs : List V}, RepL W mu hid H (is.map D.int) vs → vs = is.map V.int
  | [], _, h => h
  | i :: is, _, ⟨v, vs, e1, h1, h2⟩ => by rw [e1, show v = V.int i from h1, RepL.int h2]; rfl
theorem RepL.ofInts : ∀ (is : List Int), RepL W mu hid H (is.map D.int) (is.map V.int)
  | [] => rfl
  | i :: is => ⟨_, _, rfl, rfl, RepL.ofInts is⟩

/-! ### new things -/
theorem Good.cell (g : Good W mu hid S H) {p : Addr} (hp : H p = none) {ds : List D} {xs : List V} (r : RepL W mu hid H ds xs) :
    Ext mu H (mu ++ [p]) (upd H p (.lst xs)) ∧ Good W (mu ++ [p]) hid (S ++ [.lst ds]) (upd H p (.lst xs)) := by
  have e : Ext mu H (mu ++ [p]) (upd H p (.lst xs)) := ⟨⟨[p], rfl⟩, fun a ha => by
    rcases List.mem_append.mp ha with q | q
    · exact .inl q
    · rw [List.mem_singleton] at q; rw [q]; exact .inr (.inl hp), fun a o h _ _ => same_new hp a o h, fun a o h n => ⟨o, same_new hp a o h, n⟩⟩
  have np : p ∉ mu := fun z => g.there p z hp
  refine ⟨e, by simp [g.len], ?_, fun n o h => ?_, fun a ha => ?_, fun a ha z => ?_, g.tabs.ext (same_new hp)⟩
  · rw [List.nodup_append]
    refine ⟨g.nd, by simp, fun a ha b hb => ?_⟩
    rw [List.mem_singleton] at hb
    rintro rfl
    exact np (hb ▸ ha)
  · by_cases hn : n < S.length
    · rw [List.getElem?_append_left hn] at h
      obtain ⟨a, h1, q⟩ := g.obj n o h
      refine ⟨a, by rw [List.getElem?_append_left (by rw [g.len]; exact hn)]; exact h1, q.ext e ?_⟩
      rw [upd_ne]
      rintro rfl
      exact q.there hp
    · have hn2 : n = S.length := by
        have := (List.getElem?_eq_some_iff.mp h).1
        simp at this; omega
      subst hn2
      rw [List.getElem?_append_right (Nat.le_refl _)] at h
      simp at h
      subst h
      refine ⟨p, by rw [List.getElem?_append_right (by rw [g.len]; exact Nat.le_refl _)]; simp [g.len], xs, upd_same, RepL.ext e _ _ r⟩
  · obtain ⟨o, h1, h2⟩ := g.hidT a ha
    exact e.there a o h1 h2
  · rcases List.mem_append.mp z with q | q
    · exact g.dis a ha q
    · rw [List.mem_singleton] at q; rw [q] at ha; exact (g.hidT p ha).elim fun o h => by rw [hp] at h; cases h.1
theorem Good.put (g : Good W mu hid S H) {n : Nat} {ds ds' : List D} {a : Addr} {xs xs' : List V} (hS : S[n]? = some (.lst ds)) (hm : mu[n]? = some a) (hH : H a = some (.lst xs)) (r : RepL W mu hid H ds' xs') :
    Ext mu H mu (upd H a (.lst xs')) ∧ Good W mu hid (S.set n (.lst ds')) (upd H a (.lst xs')) := by
  have hnm := (List.getElem?_eq_some_iff.mp hm).1
  have ha : a ∈ mu := List.mem_of_getElem? hm
  have e : Ext mu H mu (upd H a (.lst xs')) := ⟨⟨[], by simp⟩, fun _ h => .inl h, fun b o h nb _ => by
    rw [upd_ne]; exact h
    rintro rfl; exact nb ha, fun b o h n => by
    by_cases q : b = a
    · exact ⟨.lst xs', by rw [q]; exact upd_same, fun _ z => nomatch z⟩
    · exact ⟨o, by rw [upd_ne q]; exact h, n⟩⟩
  refine ⟨e, by simpa using g.len, g.nd, fun m o h => ?_, fun b hb => (g.hidT b hb).elim fun o h => e.there b o h.1 h.2, g.dis, ?_⟩
  · by_cases q : n = m
    · subst q
      rw [List.getElem?_set_self (by rw [← g.len]; exact hnm)] at h
      cases h
      exact ⟨a, hm, xs', upd_same, RepL.ext e _ _ r⟩
    · rw [List.getElem?_set_ne q] at h
      obtain ⟨b, h1, z⟩ := g.obj m o h
      refine ⟨b, h1, z.ext e (upd_ne ?_)⟩
      rintro rfl
      obtain ⟨l1, q1⟩ := List.getElem?_eq_some_iff.mp h1
      obtain ⟨l2, q2⟩ := List.getElem?_eq_some_iff.mp hm
      exact q ((List.getElem_inj g.nd).mp (q2.trans q1.symm))
  · intro p hp
    obtain ⟨ps, h1, h2, h3⟩ := g.tabs p hp
    refine ⟨ps, ?_, h2, fun pos cv hc => ?_⟩
    · rw [upd_ne]; exact h1
      intro z; rw [z, hH] at h1; cases h1
    · obtain ⟨c, e1, e2⟩ := h3 pos cv hc
      refine ⟨c, e1, ?_⟩
      rw [upd_ne]; exact e2
      intro z; rw [z, hH] at e2
      unfold LamX.CodeO at e2; cases e2
end

/-! ### an outcome and what is wanted of it -/
def Fin {α : Type} (W : Wd) (mu hid : List Addr) (H : Hp) (x : R α) (K : α → Store → List Addr → Hp → Prop) (E : Nat → List Addr → Hp → Prop) : Prop := match x with
  | .ok a S' => ∀ H' mu', Ext mu H mu' H' → Good W mu' hid S' H' → K a S' mu' H'
  | .exc c S' => ∀ H' mu', Ext mu H mu' H' → Good W mu' hid S' H' → E c mu' H'
  | .bad => False
section
variable {α β : Type} {W : Wd} {mu hid : List Addr} {H : Hp} {S : Store}
theorem Fin.bind {x : R α} {f : α → Store → R β} {K : β → Store → List Addr → Hp → Prop} {E : Nat → List Addr → Hp → Prop} (h : Fin W mu hid H (x.bind f) K E) :
    Fin W mu hid H x (fun a S1 mu1 H1 => Ext mu H mu1 H1 ∧ Good W mu1 hid S1 H1 ∧ Fin W mu1 hid H1 (f a S1) K E) E := by
  cases x with
  | bad => exact h
  | exc c S1 => exact h
  | ok a S1 =>
    intro H1 mu1 e1 g1
    refine ⟨e1, g1, ?_⟩
    have h' : Fin W mu hid H (f a S1) K E := h
    revert h'
    cases f a S1 with
    | bad => exact fun h => h
    | exc c S2 => exact fun h' H' mu' e' g' => h' H' mu' (e1.trans e') g'
    | ok b S2 => exact fun h' H' mu' e' g' => h' H' mu' (e1.trans e') g'
theorem Fin.mono {x : R α} {K K' : α → Store → List Addr → Hp → Prop} {E E' : Nat → List Addr → Hp → Prop} (h : Fin W mu hid H x K E) (hk : ∀ a S' mu' H', Ext mu H mu' H' → Good W mu' hid S' H' → K a S' mu' H' → K' a S' mu' H') (he : ∀ c mu' H', E c mu' H' → E' c mu' H') : Fin W mu hid H x K' E' := by
  cases x with
  | bad => exact h
  | exc c S1 => exact fun H' mu' e g => he _ _ _ (h H' mu' e g)
  | ok a S1 => exact fun H' mu' e g => hk _ _ _ _ e g (h H' mu' e g)
theorem Fin.ok {a : α} {S' : Store} {K : α → Store → List Addr → Hp → Prop} {E : Nat → List Addr → Hp → Prop} (h : Fin W mu hid H (.ok a S') K E) {H' : Hp} {mu' : List Addr} (e : Ext mu H mu' H') (g : Good W mu' hid S' H') : K a S' mu' H' := h H' mu' e g
theorem Fin.here {a : α} {K : α → Store → List Addr → Hp → Prop} {E : Nat → List Addr → Hp → Prop} (h : Fin W mu hid H (.ok a S) K E) (g : Good W mu hid S H) : K a S mu H := h H mu .refl g
/-- the same from a later heap -/
theorem Fin.moved {x : R α} {mu1 : List Addr} {H1 : Hp} {K : α → Store → List Addr → Hp → Prop} {E : Nat → List Addr → Hp → Prop} (h : Fin W mu hid H x K E) (e : Ext mu H mu1 H1) : Fin W mu1 hid H1 x K E := by
  cases x with
  | bad => exact h
  | exc c S1 => exact fun H' mu' e' g => h H' mu' (e.trans e') g
  | ok a S1 => exact fun H' mu' e' g => h H' mu' (e.trans e') g
theorem Fin.ofO {x : Option α} {K : α → Store → List Addr → Hp → Prop} {E : Nat → List Addr → Hp → Prop} (h : Fin W mu hid H (R.ofO x S) K E) : ∃ a, x = some a ∧ Fin W mu hid H (.ok a S) K E := by
  cases x with
  | none => exact False.elim h
  | some a => exact ⟨a, rfl, h⟩
end
end Ev
end
section
set_option Elab.async false
set_option linter.all false
set_option maxRecDepth 100000
set_option maxHeartbeats 1000000
namespace Ev
open PySem PySem.Spec PyProof.Rows L2
/-! ### data as the library's -/
mutual
def toPy : D → PyData
  | .bl b => .bool b
  | .int i => .int i
  | .str x => .str x
  | .tup ds => .tuple (toPyL ds)
  | .lst ds => .list (toPyL ds)
  | _ => .none
def toPyL : List D → List PyData
  | [] => []
  | d :: ds => toPy d :: toPyL ds
end
mutual
theorem canLay_of : ∀ (k : Nat) (d : D), okD k d = true → (toPy d).canLay0 = true
  | _, .non, _ => by simp [toPy, PyData.canLay0]
  | _, .bl _, _ => by simp [toPy, PyData.canLay0]
  | _, .int _, _ => by simp [toPy, PyData.canLay0]
  | _, .str x, h => by simpa [toPy, PyData.canLay0, okD] using h
  | 0, .tup ds, h => by simp [okD] at h
  | k + 1, .tup ds, h => by simp only [toPy, PyData.canLay0]; exact canLayL_of k ds (by simpa [okD] using h)
  | 0, .lst ds, h => by simp [okD] at h
  | k + 1, .lst ds, h => by simp only [toPy, PyData.canLay0]; exact canLayL_of k ds (by simpa [okD] using h)
  | _, .cel _, h => by simp [okD] at h
  | _, .fn _, h => by simp [okD] at h
  | _, .scr _, h => by simp [okD] at h
theorem canLayL_of : ∀ (k : Nat) (ds : List D), okL k ds = true → PyData.canLayAll0 (toPyL ds) = true
  | _, [], _ => by simp [toPyL, PyData.canLayAll0]
  | k, d :: ds, h => by
    simp only [okL, Bool.and_eq_true] at h
    simp only [toPyL, PyData.canLayAll0, Bool.and_eq_true]
    exact ⟨canLay_of k d h.1, canLayL_of k ds h.2⟩
end
mutual
theorem depth_of : ∀ (k : Nat) (d : D), okD k d = true → (toPy d).depth ≤ k
  | _, .non, _ => by simp [toPy, PyData.depth]
  | _, .bl _, _ => by simp [toPy, PyData.depth]
  | _, .int _, _ => by simp [toPy, PyData.depth]
  | _, .str x, h => by simp [toPy, PyData.depth]
  | 0, .tup ds, h => by simp [okD] at h
  | k + 1, .tup ds, h => by simp only [toPy, PyData.depth]; exact Nat.succ_le_succ (depthL_of k ds (by simpa [okD] using h))
  | 0, .lst ds, h => by simp [okD] at h
  | k + 1, .lst ds, h => by simp only [toPy, PyData.depth]; exact Nat.succ_le_succ (depthL_of k ds (by simpa [okD] using h))
  | _, .cel _, h => by simp [okD] at h
  | _, .fn _, h => by simp [okD] at h
  | _, .scr _, h => by simp [okD] at h
theorem depthL_of : ∀ (k : Nat) (ds : List D), okL k ds = true → PyData.depthAll (toPyL ds) ≤ k
  | _, [], _ => by simp [toPyL, PyData.depthAll]
  | k, d :: ds, h => by
    simp only [okL, Bool.and_eq_true] at h
    simp only [toPyL, PyData.depthAll]
    have h1 := depth_of k d h.1
    have h2 := depthL_of k ds h.2
    omega
end
theorem shaped_of {d : D} (h : okD 16 d = true) : SeqAt.shaped (toPy d) = true := by
  unfold SeqAt.shaped
  rw [canLay_of 16 d h, decide_eq_true (Nat.le_trans (depth_of 16 d h) (by decide))]
  rfl
mutual
theorem eqv_of : ∀ (j k : Nat) (d e : D), okD j d = true → okD k e = true → PyData.eqv (toPy d) (toPy e) = eqD d e
  | _, _, .non, .non, _, _ => by simp [toPy, PyData.eqv, eqD]
  | _, _, .non, .bl _, _, _ => by simp [toPy, PyData.eqv, eqD]
  | _, _, .non, .int _, _, _ => by simp [toPy, PyData.eqv, eqD]
  | _, _, .non, .str _, _, _ => by simp [toPy, PyData.eqv, eqD]
  | _, _, .non, .tup _, _, _ => by simp [toPy, PyData.eqv, eqD]
  | _, _, .non, .lst _, _, _ => by simp [toPy, PyData.eqv, eqD]
  | _, _, .bl _, .non, _, _ => by simp [toPy, PyData.eqv, eqD]
  | _, _, .bl _, .bl _, _, _ => by simp [toPy, PyData.eqv, eqD]
  | _, _, .bl _, .int _, _, _ => by simp [toPy, PyData.eqv, eqD]
  | _, _, .bl _, .str _, _, _ => by simp [toPy, PyData.eqv, eqD]
  | _, _, .bl _, .tup _, _, _ => by simp [toPy, PyData.eqv, eqD]
  | _, _, .bl _, .lst _, _, _ => by simp [toPy, PyData.eqv, eqD]
  | _, _, .int _, .non, _, _ => by simp [toPy, PyData.eqv, eqD]
  | _, _, .int _, .bl _, _, _ => by simp [toPy, PyData.eqv, eqD]
  | _, _, .int _, .int _, _, _ => by simp [toPy, PyData.eqv, eqD]
  | _, _, .int _, .str _, _, _ => by simp [toPy, PyData.eqv, eqD]
  | _, _, .int _, .tup _, _, _ => by simp [toPy, PyData.eqv, eqD]
  | _, _, .int _, .lst _, _, _ => by simp [toPy, PyData.eqv, eqD]
  | _, _, .str _, .non, _, _ => by simp [toPy, PyData.eqv, eqD]
  | _, _, .str _, .bl _, _, _ => by simp [toPy, PyData.eqv, eqD]
  | _, _, .str _, .int _, _, _ => by simp [toPy, PyData.eqv, eqD]
  | _, _, .str _, .str _, _, _ => by simp [toPy, PyData.eqv, eqD]
  | _, _, .str _, .tup _, _, _ => by simp [toPy, PyData.eqv, eqD]
  | _, _, .str _, .lst _, _, _ => by simp [toPy, PyData.eqv, eqD]
  | _, _, .tup _, .non, _, _ => by simp [toPy, PyData.eqv, eqD]
  | _, _, .tup _, .bl _, _, _ => by simp [toPy, PyData.eqv, eqD]
  | _, _, .tup _, .int _, _, _ => by simp [toPy, PyData.eqv, eqD]
  | _, _, .tup _, .str _, _, _ => by simp [toPy, PyData.eqv, eqD]
  | 0, _, .tup xs, .tup ys, h, _ => by simp [okD] at h
  | _, 0, .tup xs, .tup ys, _, h => by simp [okD] at h
  | j + 1, k + 1, .tup xs, .tup ys, h1, h2 => by
    simp only [toPy, PyData.eqv, eqD]; exact eqvL_of j k xs ys (by simpa [okD] using h1) (by simpa [okD] using h2)
  | _, _, .tup _, .lst _, _, _ => by simp [toPy, PyData.eqv, eqD]
  | _, _, .lst _, .non, _, _ => by simp [toPy, PyData.eqv, eqD]
  | _, _, .lst _, .bl _, _, _ => by simp [toPy, PyData.eqv, eqD]
  | _, _, .lst _, .int _, _, _ => by simp [toPy, PyData.eqv, eqD]
  | _, _, .lst _, .str _, _, _ => by simp [toPy, PyData.eqv, eqD]
  | _, _, .lst _, .tup _, _, _ => by simp [toPy, PyData.eqv, eqD]
  | 0, _, .lst xs, .lst ys, h, _ => by simp [okD] at h
  | _, 0, .lst xs, .lst ys, _, h => by simp [okD] at h
  | j + 1, k + 1, .lst xs, .lst ys, h1, h2 => by
    simp only [toPy, PyData.eqv, eqD]; exact eqvL_of j k xs ys (by simpa [okD] using h1) (by simpa [okD] using h2)
  | _, _, .cel _, _, h, _ => by simp [okD] at h
  | _, _, .fn _, _, h, _ => by simp [okD] at h
  | _, _, .scr _, _, h, _ => by simp [okD] at h
  | _, _, .non, .cel _, _, h => by simp [okD] at h
  | _, _, .non, .fn _, _, h => by simp [okD] at h
  | _, _, .non, .scr _, _, h => by simp [okD] at h
  | _, _, .bl _, .cel _, _, h => by simp [okD] at h
  | _, _, .bl _, .fn _, _, h => by simp [okD] at h
  | _, _, .bl _, .scr _, _, h => by simp [okD] at h
  | _, _, .int _, .cel _, _, h => by simp [okD] at h
  | _, _, .int _, .fn _, _, h => by simp [okD] at h
  | _, _, .int _, .scr _, _, h => by simp [okD] at h
  | _, _, .str _, .cel _, _, h => by simp [okD] at h
  | _, _, .str _, .fn _, _, h => by simp [okD] at h
  | _, _, .str _, .scr _, _, h => by simp [okD] at h
  | _, _, .tup _, .cel _, _, h => by simp [okD] at h
  | _, _, .tup _, .fn _, _, h => by simp [okD] at h
  | _, _, .tup _, .scr _, _, h => by simp [okD] at h
  | _, _, .lst _, .cel _, _, h => by simp [okD] at h
  | _, _, .lst _, .fn _, _, h => by simp [okD] at h
  | _, _, .lst _, .scr _, _, h => by simp [okD] at h
theorem eqvL_of : ∀ (j k : Nat) (ds es : List D), okL j ds = true → okL k es = true → PyData.eqvAll (toPyL ds) (toPyL es) = eqL ds es
  | _, _, [], [], _, _ => by simp [toPyL, PyData.eqvAll, eqL]
  | _, _, [], _ :: _, _, _ => by simp [toPyL, PyData.eqvAll, eqL]
  | _, _, _ :: _, [], _, _ => by simp [toPyL, PyData.eqvAll, eqL]
  | j, k, d :: ds, e :: es, h1, h2 => by
    simp only [okL, Bool.and_eq_true] at h1 h2
    simp only [toPyL, PyData.eqvAll, eqL]
    rw [eqv_of j k d e h1.1 h2.1, eqvL_of j k ds es h1.2 h2.2]
end
section
variable {W : Wd} {mu hid : List Addr} {H : Hp} {S : Store}
theorem TupAt.sq {a : Addr} {xs : List V} (h : TupAt W.K mu hid H a xs) : SqT W.K H a xs := by
  rcases h with ⟨h, _, _⟩ | h
  · exact .inl (.inl h)
  · exact h.1.elim
mutual
/-- plain data read -/
theorem dp_of : ∀ (k : Nat) (d : D) (v : V), okD k d = true → Rep W mu hid H d v → Dp W.K H v (toPy d)
  | _, .non, _, _, h => by rw [show _ = _ from h]; exact .non
  | _, .bl _, _, _, h => by rw [show _ = _ from h]; exact .bl _
  | _, .int _, _, _, h => by rw [show _ = _ from h]; exact .int _
  | _, .str _, _, _, h => by rw [show _ = _ from h]; exact .str _
  | 0, .tup ds, _, o, _ => by simp [okD] at o
  | k + 1, .tup ds, _, o, ⟨a, xs, e1, h, r⟩ => by
    rw [e1]; exact .tup h.sq (dpL_of k ds xs (by simpa [okD] using o) r)
  | 0, .lst ds, _, o, _ => by simp [okD] at o
  | k + 1, .lst ds, _, o, ⟨a, xs, e1, h, _, _, r⟩ => by
    rw [e1]; exact .lst (.inl (.inl h)) (dpL_of k ds xs (by simpa [okD] using o) r)
  | _, .cel _, _, o, _ => by simp [okD] at o
  | _, .fn _, _, o, _ => by simp [okD] at o
  | _, .scr _, _, o, _ => by simp [okD] at o
theorem dpL_of : ∀ (k : Nat) (ds : List D) (vs : List V), okL k ds = true → RepL W mu hid H ds vs → DpAll W.K H vs (toPyL ds)
  | _, [], _, _, h => by rw [show _ = _ from h]; exact .nil
  | k, d :: ds, _, o, ⟨v, vs, e1, h1, h2⟩ => by
    simp only [okL, Bool.and_eq_true] at o
    rw [e1]; exact .cons (dp_of k d v o.1 h1) (dpL_of k ds vs o.2 h2)
end
mutual
/-- .. through cells -/
theorem dp_der (g : Good W mu hid S H) : ∀ (k : Nat) (d : D) (v : V), okD k (der S d) = true → Rep W mu hid H d v → Dp W.K H v (toPy (der S d))
  | k, .non, v, o, h => by simp only [der] at o ⊢; exact dp_of k _ v o h
  | k, .bl _, v, o, h => by simp only [der] at o ⊢; exact dp_of k _ v o h
  | k, .int _, v, o, h => by simp only [der] at o ⊢; exact dp_of k _ v o h
  | k, .str _, v, o, h => by simp only [der] at o ⊢; exact dp_of k _ v o h
  | 0, .tup ds, _, o, _ => by simp [der, okD] at o
  | k + 1, .tup ds, _, o, ⟨a, xs, e1, h, r⟩ => by
    simp only [der] at o ⊢
    rw [e1]; exact .tup h.sq (dpL_der g k ds xs (by simpa [okD] using o) r)
  | 0, .lst ds, _, o, _ => by simp [der, okD] at o
  | k + 1, .lst ds, _, o, ⟨a, xs, e1, h, _, _, r⟩ => by
    simp only [der] at o ⊢
    rw [e1]; exact .lst (.inl (.inl h)) (dpL_der g k ds xs (by simpa [okD] using o) r)
  | k, .cel n, v, o, ⟨a, e1, h⟩ => by
    simp only [der] at o ⊢
    cases q : S[n]? with
    | none => rw [q] at o; simp [okD] at o
    | some ob =>
      rw [q] at o
      cases ob with
      | lst ds =>
        simp only at o ⊢
        obtain ⟨b, hb, xs, hx, r⟩ := g.obj n _ q
        rw [h] at hb; cases hb
        cases k with
        | zero => simp [okD] at o
        | succ k => rw [e1]; exact .lst (.inl (.inl hx)) (dpL_of k ds xs (by simpa [okD] using o) r)
      | dT _ => simp [okD] at o
      | dK _ => simp [okD] at o
  | _, .fn _, _, o, _ => by simp [der, okD] at o
  | _, .scr _, _, o, _ => by simp [der, okD] at o
theorem dpL_der (g : Good W mu hid S H) : ∀ (k : Nat) (ds : List D) (vs : List V), okL k (derL S ds) = true → RepL W mu hid H ds vs → DpAll W.K H vs (toPyL (derL S ds))
  | _, [], _, _, h => by rw [show _ = _ from h]; exact .nil
  | k, d :: ds, _, o, ⟨v, vs, e1, h1, h2⟩ => by
    simp only [derL, okL, Bool.and_eq_true] at o
    rw [e1]; exact .cons (dp_der g k d v o.1 h1) (dpL_der g k ds vs o.2 h2)
end
/-- a list, whosever it is -/
def RepV (W : Wd) (mu hid : List Addr) (H : Hp) : D → V → Prop
  | .lst ds, v => ∃ a xs, v = .ref a ∧ H a = some (.lst xs) ∧ RepL W mu hid H ds xs
  | d, v => Rep W mu hid H d v
theorem Rep.view (g : Good W mu hid S H) {d : D} {v : V} (h : Rep W mu hid H d v) : RepV W mu hid H (view S d) v := by
  cases d with
  | cel n =>
    obtain ⟨a, e1, hm⟩ := h
    have keep : RepV W mu hid H (.cel n) v := ⟨a, e1, hm⟩
    cases q : S[n]? with
    | none => rw [show Ev.view S (.cel n) = .cel n by simp [Ev.view, q]]; exact keep
    | some ob =>
      cases ob with
      | lst ds =>
        obtain ⟨b, hb, xs, hx, r⟩ := g.obj n _ q
        rw [hm] at hb; cases hb
        rw [show Ev.view S (.cel n) = .lst ds by simp [Ev.view, q]]
        exact ⟨a, xs, e1, hx, r⟩
      | dT _ => rw [show Ev.view S (.cel n) = .cel n by simp [Ev.view, q]]; exact keep
      | dK _ => rw [show Ev.view S (.cel n) = .cel n by simp [Ev.view, q]]; exact keep
  | lst ds => obtain ⟨a, xs, e1, h, _, _, r⟩ := h; exact ⟨a, xs, e1, h, r⟩
  | non => exact h
  | bl _ => exact h
  | int _ => exact h
  | str _ => exact h
  | tup _ => exact h
  | fn _ => exact h
  | scr _ => exact h
theorem RepV.dp (g : Good W mu hid S H) {k : Nat} {d : D} {v : V} (h : RepV W mu hid H d v) (o : okD k (der S d) = true) : Dp W.K H v (toPy (der S d)) := by
  cases d with
  | lst ds =>
    obtain ⟨a, xs, e1, h, r⟩ := h
    cases k with
    | zero => simp [der, okD] at o
    | succ k =>
      simp only [der] at o ⊢
      rw [e1]; exact .lst (.inl (.inl h)) (dpL_der g k ds xs (by simpa [okD] using o) r)
  | non => exact dp_der g k _ v o h
  | bl _ => exact dp_der g k _ v o h
  | int _ => exact dp_der g k _ v o h
  | str _ => exact dp_der g k _ v o h
  | tup _ => exact dp_der g k _ v o h
  | cel _ => exact dp_der g k _ v o h
  | fn _ => exact dp_der g k _ v o h
  | scr _ => exact dp_der g k _ v o h
end
end Ev
end
section
set_option Elab.async false
set_option linter.all false
set_option maxRecDepth 100000
set_option maxHeartbeats 1000000
namespace Ev
open PySem PySem.Spec PyProof.Rows L2
mutual
theorem alk_of : ∀ (a b : D), alkD a b = true → PySem.W.alike (toPy a) (toPy b) = true
  | .non, b, h => by cases b <;> simp_all [alkD, toPy, PySem.W.alike]
  | .bl _, b, h => by cases b <;> simp_all [alkD, toPy, PySem.W.alike]
  | .int _, b, h => by cases b <;> simp_all [alkD, toPy, PySem.W.alike]
  | .str _, b, h => by cases b <;> simp_all [alkD, toPy, PySem.W.alike]
  | .tup xs, b, h => by
    cases b with
    | tup ys => simp only [toPy, PySem.W.alike]; exact alkL_of xs ys (by simpa [alkD] using h)
    | _ => simp [alkD] at h
  | .lst xs, b, h => by
    cases b with
    | lst ys => simp only [toPy, PySem.W.alike]; exact alkL_of xs ys (by simpa [alkD] using h)
    | _ => simp [alkD] at h
  | .cel _, b, h => by cases b <;> simp [alkD] at h
  | .fn _, b, h => by cases b <;> simp [alkD] at h
  | .scr _, b, h => by cases b <;> simp [alkD] at h
theorem alkL_of : ∀ (xs ys : List D), alkL xs ys = true → PySem.W.alikeAll (toPyL xs) (toPyL ys) = true
  | [], _, _ => by simp [toPyL, PySem.W.alikeAll]
  | _ :: _, [], _ => by simp [toPyL, PySem.W.alikeAll]
  | x :: xs, y :: ys, h => by
    simp only [alkL, Bool.and_eq_true] at h
    simp only [toPyL, PySem.W.alikeAll, Bool.and_eq_true]
    exact ⟨alk_of x y h.1, alkL_of xs ys h.2⟩
end
theorem toksL_nil_nil : PyProof.Rows.lexLt itemOrd (PySem.W.keyToksAll []) (PySem.W.keyToksAll []) = false := lex_irrefl _
theorem toksL_nil_cons (y : PyData) (ys : List PyData) : PyProof.Rows.lexLt itemOrd (PySem.W.keyToksAll []) (PySem.W.keyToksAll (y :: ys)) = true := by
  simp [PySem.W.keyToksAll, lex_cons, itemLt, itemOrd]
  try rfl
theorem toksL_cons_nil (y : PyData) (ys : List PyData) : PyProof.Rows.lexLt itemOrd (PySem.W.keyToksAll (y :: ys)) (PySem.W.keyToksAll []) = false := by
  simp [PySem.W.keyToksAll, lex_cons, itemLt, itemOrd]
  try rfl
mutual
theorem ltB_of : ∀ (k l : Nat) (a b : D), okD k a = true → okD l b = true → alkD a b = true → PySem.W.dataLt (toPy a) (toPy b) = ltB a b
  | _, _, .non, b, _, _, h => by
    cases b with
    | non => exact lex_irrefl _
    | _ => simp [alkD] at h
  | _, _, .bl x, b, _, _, h => by
    cases b with
    | bl y => simp only [toPy, ltB]; rw [PySem.W.dataLt_bool]; cases x <;> cases y <;> decide
    | _ => simp [alkD] at h
  | _, _, .int _, b, _, _, h => by
    cases b with
    | int y => simp only [toPy, ltB]; rw [PySem.W.dataLt_int]
    | _ => simp [alkD] at h
  | _, _, .str _, b, _, _, h => by
    cases b with
    | str y => simp only [toPy, ltB]; rw [PySem.W.dataLt_str]
    | _ => simp [alkD] at h
  | k, l, .tup xs, b, o1, o2, h => by
    cases b with
    | tup ys =>
      cases k with
      | zero => simp [okD] at o1
      | succ k =>
        cases l with
        | zero => simp [okD] at o2
        | succ l =>
          simp only [toPy, ltB]
          rw [PySem.W.dataLt_tuple]
          exact ltLB_of k l xs ys (by simpa [okD] using o1) (by simpa [okD] using o2) (by simpa [alkD] using h)
    | _ => simp [alkD] at h
  | k, l, .lst xs, b, o1, o2, h => by
    cases b with
    | lst ys =>
      cases k with
      | zero => simp [okD] at o1
      | succ k =>
        cases l with
        | zero => simp [okD] at o2
        | succ l =>
          simp only [toPy, ltB]
          rw [PySem.W.dataLt_list]
          exact ltLB_of k l xs ys (by simpa [okD] using o1) (by simpa [okD] using o2) (by simpa [alkD] using h)
    | _ => simp [alkD] at h
  | _, _, .cel _, b, _, _, h => by cases b <;> simp [alkD] at h
  | _, _, .fn _, b, _, _, h => by cases b <;> simp [alkD] at h
  | _, _, .scr _, b, _, _, h => by cases b <;> simp [alkD] at h
theorem ltLB_of : ∀ (k l : Nat) (xs ys : List D), okL k xs = true → okL l ys = true → alkL xs ys = true → PyProof.Rows.lexLt itemOrd (PySem.W.keyToksAll (toPyL xs)) (PySem.W.keyToksAll (toPyL ys)) = ltLB xs ys
  | _, _, [], [], _, _, _ => by simp only [toPyL, ltLB]; exact toksL_nil_nil
  | _, _, [], y :: ys, _, _, _ => by simp only [toPyL, ltLB]; exact toksL_nil_cons _ _
  | _, _, x :: xs, [], _, _, _ => by simp only [toPyL, ltLB]; exact toksL_cons_nil _ _
  | k, l, x :: xs, y :: ys, o1, o2, h => by
    simp only [okL, Bool.and_eq_true] at o1 o2
    simp only [alkL, Bool.and_eq_true] at h
    simp only [toPyL, ltLB]
    rw [PySem.W.dataLt_cons (alk_of x y h.1), eqv_of k l x y o1.1 o2.1]
    split
    · exact ltLB_of k l xs ys o1.2 o2.2 h.2
    · exact ltB_of k l x y o1.1 o2.1 h.1
end
section
variable {X : Cx}
/-- x op y of tuples -/
def rOrd (K : PySem.W.Frag) (f : PyData → PyData → Bool) : R2 := fun x y H Q => ∃ d e, Dp K H x d ∧ Dp K H y e ∧ PySem.W.alike d e = true ∧ d ≠ .none ∧ d.depth ≤ 16 ∧ Q (.bl (f d e)) H
theorem op_ltT (hu : X.A.units + 65 < cLine) : OpR X (compareOp .Lt) (rOrd X.K PySem.W.dataLt) := by
  intro pins s σ H x y v u Q I rx ry h
  obtain ⟨d, e, hd, he, al, nn, dp, q⟩ := h
  obtain ⟨as, r1⟩ := Dp.reads I d x v hd rx
  obtain ⟨bs, r2⟩ := Dp.reads I e y u he ry
  exact PySem.W.lt_data r1 r2 al nn (by have := Nat.min_le_left d.depth e.depth; omega) ⟨.bl _, H, I, rfl, q⟩
theorem op_leT (hu : X.A.units + 65 < cLine) : OpR X (compareOp .LtE) (rOrd X.K fun d e => !PySem.W.dataLt e d) := by
  intro pins s σ H x y v u Q I rx ry h
  obtain ⟨d, e, hd, he, al, nn, dp, q⟩ := h
  obtain ⟨as, r1⟩ := Dp.reads I d x v hd rx
  obtain ⟨bs, r2⟩ := Dp.reads I e y u he ry
  exact PySem.W.le_data r1 r2 al nn (by have := Nat.min_le_left d.depth e.depth; omega) ⟨.bl _, H, I, rfl, q⟩
def rInT (K : PySem.W.Frag) (f : Bool → Bool) : R2 := fun x y H Q => ∃ d ds, Dp K H x d ∧ Dp K H y (.tuple ds) ∧ SeqAt.shaped d = true ∧ SeqAt.shaped (.tuple ds) = true ∧ Q (.bl (f (ds.any fun z => PyData.eqv z d))) H
theorem op_inT (hu : X.A.units + 65 < cLine) : OpR X (compareOp .In) (rInT X.K id) := by
  intro pins s σ H x y v u Q I rx ry h
  obtain ⟨d, ds, hd, he, sd, se, q⟩ := h
  obtain ⟨as, r1⟩ := Dp.reads I d x v hd rx
  obtain ⟨bs, r2⟩ := Dp.reads I (.tuple ds) y u he ry
  exact SeqAt.in_tuple_reads r2 r1 (SeqAt.canLay_of_shaped se) (SeqAt.canLay_of_shaped sd) (room_in_shaped sd hu) ⟨.bl _, H, I, rfl, q⟩
theorem op_notInT (hu : X.A.units + 65 < cLine) : OpR X (compareOp .NotIn) (rInT X.K not) := by
  intro pins s σ H x y v u Q I rx ry h
  obtain ⟨d, ds, hd, he, sd, se, q⟩ := h
  obtain ⟨as, r1⟩ := Dp.reads I d x v hd rx
  obtain ⟨bs, r2⟩ := Dp.reads I (.tuple ds) y u he ry
  exact SeqAt.notIn_tuple_reads r2 r1 (SeqAt.canLay_of_shaped se) (SeqAt.canLay_of_shaped sd) (room_in_shaped sd hu) ⟨.bl _, H, I, rfl, q⟩
end
theorem alk_symm_tup {xs ys : List D} (h : alkD (.tup xs) (.tup ys) = true) : alkL xs ys = true := by simpa [alkD] using h
mutual
theorem alk_symm : ∀ (a b : D), alkD a b = true → alkD b a = true
  | .tup xs, b, h => by
    cases b with
    | tup ys => simp only [alkD] at h ⊢; exact alkL_symm xs ys h
    | _ => simp [alkD] at h
  | .lst xs, b, h => by
    cases b with
    | lst ys => simp only [alkD] at h ⊢; exact alkL_symm xs ys h
    | _ => simp [alkD] at h
  | .non, b, h => by cases b <;> simp_all [alkD]
  | .bl _, b, h => by cases b <;> simp_all [alkD]
  | .int _, b, h => by cases b <;> simp_all [alkD]
  | .str _, b, h => by cases b <;> simp_all [alkD]
  | .cel _, b, h => by cases b <;> simp [alkD] at h
  | .fn _, b, h => by cases b <;> simp [alkD] at h
  | .scr _, b, h => by cases b <;> simp [alkD] at h
theorem alkL_symm : ∀ (xs ys : List D), alkL xs ys = true → alkL ys xs = true
  | [], [], _ => by simp [alkL]
  | [], _ :: _, _ => by simp [alkL]
  | _ :: _, [], _ => by simp [alkL]
  | x :: xs, y :: ys, h => by
    simp only [alkL, Bool.and_eq_true] at h ⊢
    exact ⟨alk_symm x y h.1, alkL_symm xs ys h.2⟩
end
end Ev
end
section
set_option Elab.async false
set_option linter.all false
set_option maxRecDepth 100000
set_option maxHeartbeats 4000000
/-! a tuple once -/
namespace Ev
open PySem PySem.Spec PyProof.Rows L2
theorem tuple_mul1 (l : Addr) (items : Array Value) (n : Nat) (dd : Option Addr) (sl : Array (Option Value)) (u : Tok) :
    Meets (Builtin.«tuple.__mul__» ⟨[.ref l, .int 1 u], []⟩) (fun _ R s => s.heap.get? l = some { cls := .type "tuple", dict := dd, data := .seq items n, slots := sl } ∧
      R (.ok (.ret (Value.ref l))) s) :=
  .of_wp fun prog w A R s h => by
    obtain ⟨hp, g, d, tk, os⟩ := s
    obtain ⟨hl, h⟩ := h
    have f1 := AutoSeq1.idx_int
    have c0 : (decide ((1 : Int) < -(2 ^ 63)) || decide ((1 : Int) ≥ 2 ^ 63)) = false := by decide
    have c1 : (items.isEmpty || (1 : Int) == 1) = true := by simp
    wp_walk using wpAny_loadPart' hl
    repeat (first
      | (refine wpAny_ite_false (decide_eq_false (by rw [c0]; exact Bool.false_ne_true)) ?_; wp_walk using wpAny_loadPart' hl)
      | (refine wpAny_ite_true (decide_eq_true c1) ?_; wp_walk using wpAny_loadPart' hl))
    exact ⟨_, rfl, h⟩
def rRepT1 (K : PySem.W.Frag) : R2 := fun x y H Q => ∃ l xs, x = .ref l ∧ y = .int 1 ∧ SqT K H l xs ∧ Q (.ref l) H
theorem op_repT1 {X : Cx} : OpR X (binaryOp .Mult) (rRepT1 X.K) := by
  intro pins s σ H x y v u Q I rx ry h
  obtain ⟨l, xs, rfl, rfl, hT, q⟩ := h
  cases rx
  obtain ⟨t, rfl⟩ := ry
  obtain ⟨its, r, ⟨⟨cls, dd, data, sl⟩, ho, hc, n, hd⟩, hs⟩ := I.tuple hT
  simp only at hc hd
  subst hc hd
  refine wpAny_binaryOp_repeat_ref (T := "tuple") (U := "int") (by decide) ⟨_, ho, rfl⟩ (fun s' => typeIs_int s' 1 t) noFill_tuple_mul F.fills_int_mul F.slot_int_rmul repeat_tuple F.slot_int_index.lookup
    (call_meets F.slot_int_rmul (typeIs_int s 1 t) F.entry_int_rmul (F.args_int_rmul_2 _ _) (int_rmul_tuple 1 t l its.toArray n dd sl)
      ⟨ho, rfl, ⟨_, ho, rfl⟩, call_meets F.slot_tuple_mul ⟨_, ho, rfl⟩ F.entry_tuple_mul (F.args_tuple_mul_2 _ _) (tuple_mul1 l its.toArray n dd sl t) ⟨ho, ?_⟩⟩)
  exact ⟨.ref l, H, I, rfl, q⟩
end Ev
end
section
set_option Elab.async false
set_option linter.all false
set_option maxRecDepth 100000
set_option maxHeartbeats 1000000
namespace Ev
open PySem PySem.Spec PyProof.Rows L2
def Bop.op : Bop → Operator
  | .add => .Add | .sub => .Sub | .mul => .Mult | .fdiv => .FloorDiv | .mod => .Mod | .pow => .Pow
theorem line6 : 1000000 ≤ sizeLine := by rw [sizeLine_eq]; decide
section
variable {W : Wd} {mu hid : List Addr} {H : Hp} {S : Store} {X : Cx}
theorem Good.free (g : Good W mu hid S H) {p : Addr} (hp : H p = none) : p ∉ mu ∧ p ∉ hid := ⟨fun z => g.there p z hp, fun z => (g.hidT p z).elim fun o h => by rw [hp] at h; cases h.1⟩
theorem Rep.same {H' : Hp} (e : Same H H') {d : D} {v : V} (r : Rep W mu hid H d v) : Rep W mu hid H' d v := r.ext (Ext.same e)
theorem RepL.same {H' : Hp} (e : Same H H') {d : List D} {v : List V} (r : RepL W mu hid H d v) : RepL W mu hid H' d v := RepL.ext (Ext.same e) d v r
/-- a new list, a new tuple -/
theorem Rep.newL (g : Good W mu hid S H) {p : Addr} (hp : H p = none) {ds : List D} {xs : List V} (r : RepL W mu hid H ds xs) : Rep W mu hid (upd H p (.lst xs)) (.lst ds) (.ref p) :=
  ⟨p, xs, rfl, upd_same, (g.free hp).1, (g.free hp).2, r.same (same_new hp)⟩
theorem Rep.newT (g : Good W mu hid S H) {p : Addr} (hp : H p = none) {ds : List D} {xs : List V} (r : RepL W mu hid H ds xs) : Rep W mu hid (upd H p (.tup xs)) (.tup ds) (.ref p) :=
  ⟨p, xs, rfl, .inl ⟨upd_same, (g.free hp).1, (g.free hp).2⟩, r.same (same_new hp)⟩
def rB (W : Wd) (o : Bop) : R2 := fun x y H Q => ∃ dx dy d S mu hid, RepV W mu hid H dx x ∧ RepV W mu hid H dy y ∧ binD o dx dy = some d ∧ Good W mu hid S H ∧ ∀ H' v, Same H H' → Rep W mu hid H' d v → Q v H'
theorem mulOk_ok {i j : Int} (h : mulOk i j = true) : IntMulOk i j := by
  unfold mulOk at h
  simp only [Bool.or_eq_true, decide_eq_true_eq] at h
  rcases h with (h | h) | h
  · exact CMul.ok (.inl ⟨by omega, by omega⟩)
  · exact CMul.ok (.inr ⟨by omega, by omega⟩)
  · exact CMulW.ok h
theorem tup_inj {a : Addr} {xs : List V} {v : V} (h : V.ref a = v) : v = .ref a := h.symm
theorem RepL.nil_iff {ds : List D} {xs : List V} (r : RepL W mu hid H ds xs) : xs = [] ↔ ds = [] := by
  have := r.length
  constructor
  · intro h; rw [h] at this; exact List.length_eq_zero_iff.mp this.symm
  · intro h; rw [h] at this; exact List.length_eq_zero_iff.mp this
theorem op_bin (hK : X.K = W.K) (o : Bop) : OpR X (binaryOp o.op) (rB W o) := by
  intro pins s σ H x y v u Q I rx ry h
  obtain ⟨dx, dy, d, S, mu, hid, hx, hy, hb, g, k⟩ := h
  unfold binD at hb
  split at hb
  · cases hb
    rw [show x = _ from hx] at rx; rw [show y = _ from hy] at ry
    exact op_add pins s σ H _ _ v u Q I rx ry ⟨_, _, rfl, rfl, k _ _ (Same.refl H) rfl⟩
  · split at hb
    · rename_i hz
      cases hb
      rw [show x = _ from hx] at rx; rw [show y = _ from hy] at ry
      exact op_add_str pins s σ H _ _ v u Q I rx ry ⟨_, _, rfl, rfl, Nat.le_trans hz line6, k _ _ (Same.refl H) rfl⟩
    · cases hb
  · split at hb
    · rename_i xs ys hz
      cases hb
      obtain ⟨a, vs, e1, h1, r1⟩ := hx
      obtain ⟨b, ws, e2, h2, r2⟩ := hy
      subst e1; subst e2
      have l1 := r1.length
      have l2 := r2.length
      refine op_catA pins s σ H _ _ v u Q I rx ry ⟨a, b, vs, ws, rfl, rfl, by rw [hK]; exact h1.sq, by rw [hK]; exact h2.sq, by rw [l1, l2]; exact Nat.le_trans hz line6, fun e => ?_, fun _ e => ?_, fun _ _ p hp => ?_⟩
      · refine k _ _ (Same.refl H) ?_
        rw [r1.nil_iff.mp e, List.nil_append]
        exact ⟨b, ws, rfl, h2, r2⟩
      · refine k _ _ (Same.refl H) ?_
        rw [r2.nil_iff.mp e, List.append_nil]
        exact ⟨a, vs, rfl, h1, r1⟩
      · exact k _ _ (same_new hp) (Rep.newT g hp (r1.app r2))
    · cases hb
  · split at hb
    · rename_i xs ys hz
      cases hb
      obtain ⟨a, vs, e1, h1, r1⟩ := hx
      obtain ⟨b, ws, e2, h2, r2⟩ := hy
      subst e1; subst e2
      have l1 := r1.length
      have l2 := r2.length
      exact op_cat pins s σ H _ _ v u Q I rx ry ⟨a, b, vs, ws, rfl, rfl, h1, h2, by rw [l1, l2]; exact Nat.le_trans hz line6, fun p hp => k _ _ (same_new hp) (Rep.newL g hp (r1.app r2))⟩
    · cases hb
  · cases hb
    rw [show x = _ from hx] at rx; rw [show y = _ from hy] at ry
    exact op_sub pins s σ H _ _ v u Q I rx ry ⟨_, _, rfl, rfl, k _ _ (Same.refl H) rfl⟩
  · split at hb
    · rename_i hz
      cases hb
      rw [show x = _ from hx] at rx; rw [show y = _ from hy] at ry
      exact opI (C := fun i j => mulOk i j = true) (fun _ _ _ _ _ _ _ hc q => mul_int q (mulOk_ok hc)) pins s σ H _ _ v u Q I rx ry ⟨_, _, rfl, rfl, hz, k _ _ (Same.refl H) rfl⟩
    · cases hb
  · split at hb
    · rename_i xs j hz
      cases hb
      obtain ⟨a, vs, e1, h1, r1⟩ := hx
      subst e1
      rw [show y = _ from hy] at ry
      have l1 := r1.length
      refine op_rep pins s σ H _ _ v u Q I rx ry ⟨a, j, vs, rfl, rfl, h1, by omega, by omega, ?_, fun p hp => k _ _ (same_new hp) (Rep.newL g hp (r1.rep _))⟩
      rw [l1, sizeLine_eq]
      exact Nat.le_trans (Nat.mul_le_mul hz.2.2 (show j.toNat ≤ 1000 by omega)) (by decide)
    · cases hb
  · split at hb
    · rename_i xs j hz
      cases hb
      obtain ⟨a, vs, e1, h1, r1⟩ := hx
      subst e1
      rw [show y = _ from hy] at ry
      have l1 := r1.length
      exact op_repT pins s σ H _ _ v u Q I rx ry ⟨a, j, vs, rfl, rfl, by rw [hK]; exact h1.sq, fun z => hz.2.2.2 (r1.nil_iff.mp z), hz.1, hz.2.1, by rw [l1]; exact hz.2.2.1, fun p hp => k _ _ (same_new hp) (Rep.newT g hp (r1.rep _))⟩
    · split at hb
      · rename_i hz1
        cases hb
        obtain ⟨a, vs, e1, h1, r1⟩ := hx
        subst e1
        rw [show y = _ from hy] at ry
        subst hz1
        exact op_repT1 pins s σ H _ _ v u Q I rx ry ⟨a, vs, rfl, rfl, by rw [hK]; exact h1.sq, k _ _ (Same.refl H) ⟨a, vs, rfl, h1, r1⟩⟩
      · cases hb
  · split at hb
    · rename_i hz
      cases hb
      rw [show x = _ from hx] at rx; rw [show y = _ from hy] at ry
      unfold divOk at hz
      simp only [Bool.and_eq_true, decide_eq_true_eq] at hz
      exact op_fdivW pins s σ H _ _ v u Q I rx ry ⟨_, _, rfl, rfl, hz, k _ _ (Same.refl H) rfl⟩
    · cases hb
  · split at hb
    · rename_i hz
      cases hb
      rw [show x = _ from hx] at rx; rw [show y = _ from hy] at ry
      exact op_mod pins s σ H _ _ v u Q I rx ry ⟨_, _, rfl, rfl, hz, k _ _ (Same.refl H) rfl⟩
    · cases hb
  · split at hb
    · rename_i hz
      cases hb
      rw [show x = _ from hx] at rx; rw [show y = _ from hy] at ry
      exact op_pow pins s σ H _ _ v u Q I rx ry ⟨_, _, rfl, rfl, hz, k _ _ (Same.refl H) rfl⟩
    · cases hb
  · cases hb
    rw [show x = _ from hx] at rx; rw [show y = _ from hy] at ry
    obtain ⟨t', rfl⟩ := ry
    cases rx
    exact PySem.IntBool.add_bool_int ⟨.int _, H, I.tok _, ⟨_, rfl⟩, k _ _ (Same.refl H) rfl⟩
  · cases hb
    rw [show x = _ from hx] at rx; rw [show y = _ from hy] at ry
    obtain ⟨t', rfl⟩ := ry
    cases rx
    exact PySem.IntBool.sub_bool_int ⟨.int _, H, I.tok _, ⟨_, rfl⟩, k _ _ (Same.refl H) rfl⟩
  · cases hb
    rw [show x = _ from hx] at rx; rw [show y = _ from hy] at ry
    obtain ⟨t', rfl⟩ := ry
    cases rx
    exact PySem.IntBool.mul_bool_int ⟨.int _, H, I.tok _, ⟨_, rfl⟩, k _ _ (Same.refl H) rfl⟩
  · cases hb

/-! ### comparisons -/
def Cop.op : Cop → CmpOp
  | .eq => .Eq | .ne => .NotEq | .lt => .Lt | .le => .LtE | .gt => .Gt | .ge => .GtE | .isN => .Is | .notN => .IsNot | .in_ => .In | .notIn => .NotIn
def rC (W : Wd) (o : Cop) : R2 := fun x y H Q => ∃ dx dy b S mu hid, RepV W mu hid H dx x ∧ RepV W mu hid H dy y ∧ cmpD S o dx dy = some b ∧ Good W mu hid S H ∧ Q (.bl b) H
theorem any_eqv {d : D} (hd : okD 16 d = true) : ∀ (ds : List D), okL 15 ds = true → ((toPyL ds).any fun z => PyData.eqv z (toPy d)) = ds.any fun z => eqD z d
  | [], _ => rfl
  | e :: es, h => by
    simp only [okL, Bool.and_eq_true] at h
    simp only [toPyL, List.any_cons]
    rw [any_eqv hd es h.2, eqv_of 15 16 e d h.1 hd]
theorem non_of {d : D} {x : V} (h : RepV W mu hid H d x) : decide (x = .non) = isNon d := by
  cases d with
  | non => rw [show x = _ from h]; rfl
  | bl _ => rw [show x = _ from h]; rfl
  | int _ => rw [show x = _ from h]; rfl
  | str _ => rw [show x = _ from h]; rfl
  | fn _ => rw [show x = _ from h]; rfl
  | tup _ => obtain ⟨a, xs, e, _⟩ := h; rw [e]; rfl
  | lst _ => obtain ⟨a, xs, e, _⟩ := h; rw [e]; rfl
  | cel _ => obtain ⟨a, e, _⟩ := h; rw [e]; rfl
  | scr _ => obtain ⟨a, e, _⟩ := h; rw [e]; rfl
theorem op_isB : OpR X (compareOp .Is) (fun x y H Q => ∃ a b, x = .bl a ∧ y = .bl b ∧ Q (.bl (a == b)) H) := by
  intro pins s σ H x y v u Q I rx ry h
  obtain ⟨a, b, rfl, rfl, q⟩ := h
  cases rx; cases ry
  show wpAny _ _ ((isSame (Value.bool a) (Value.bool b)) >>= fun z => pure (Value.bool z)) _ _ s
  exact wpAny_bind (wpAny_isSame_plain rfl (wpAny_pure (fin_bl I q (by cases a <;> cases b <;> rfl))))
theorem op_notB : OpR X (compareOp .IsNot) (fun x y H Q => ∃ a b, x = .bl a ∧ y = .bl b ∧ Q (.bl (!(a == b))) H) := by
  intro pins s σ H x y v u Q I rx ry h
  obtain ⟨a, b, rfl, rfl, q⟩ := h
  cases rx; cases ry
  show wpAny _ _ ((isSame (Value.bool a) (Value.bool b)) >>= fun z => pure (Value.bool (!z))) _ _ s
  exact wpAny_bind (wpAny_isSame_plain rfl (wpAny_pure (fin_bl I q (by cases a <;> cases b <;> rfl))))
theorem op_cmp (hK : X.K = W.K) (hu : X.A.units + 65 < cLine) (o : Cop) : OpR X (compareOp o.op) (rC W o) := by
  intro pins s σ H x y v u Q I rx ry h
  obtain ⟨dx, dy, b, S, mu, hid, hx, hy, hb, g, k⟩ := h
  unfold cmpD at hb
  split at hb
  · simp only at hb
    split at hb
    · rename_i ho
      cases hb
      simp only [Bool.and_eq_true] at ho
      refine op_eqD (by omega) pins s σ H _ _ v u Q I rx ry ⟨_, _, by rw [hK]; exact hx.dp g ho.1, by rw [hK]; exact hy.dp g ho.2, shaped_of ho.1, shaped_of ho.2, ?_⟩
      rw [eqv_of 16 16 _ _ ho.1 ho.2]; exact k
    · cases hb
  · simp only at hb
    split at hb
    · rename_i ho
      cases hb
      simp only [Bool.and_eq_true] at ho
      refine op_neD (by omega) pins s σ H _ _ v u Q I rx ry ⟨_, _, by rw [hK]; exact hx.dp g ho.1, by rw [hK]; exact hy.dp g ho.2, shaped_of ho.1, shaped_of ho.2, ?_⟩
      rw [eqv_of 16 16 _ _ ho.1 ho.2]; exact k
    · cases hb
  · cases hb
    rw [show x = _ from hx] at rx; rw [show y = _ from hy] at ry
    exact op_lt pins s σ H _ _ v u Q I rx ry ⟨_, _, rfl, rfl, k⟩
  · cases hb
    rw [show x = _ from hx] at rx; rw [show y = _ from hy] at ry
    exact op_le pins s σ H _ _ v u Q I rx ry ⟨_, _, rfl, rfl, k⟩
  · cases hb
    rw [show x = _ from hx] at rx; rw [show y = _ from hy] at ry
    exact op_gt pins s σ H _ _ v u Q I rx ry ⟨_, _, rfl, rfl, k⟩
  · cases hb
    rw [show x = _ from hx] at rx; rw [show y = _ from hy] at ry
    exact op_ge pins s σ H _ _ v u Q I rx ry ⟨_, _, rfl, rfl, k⟩
  · simp only at hb
    split at hb
    · rename_i ho
      cases hb
      simp only [Bool.and_eq_true] at ho
      refine op_ltT hu pins s σ H _ _ v u Q I rx ry ⟨_, _, by rw [hK]; exact hx.dp g ho.1.1, by rw [hK]; exact hy.dp g ho.1.2, alk_of _ _ ho.2, by simp [der, toPy], depth_of 16 _ ho.1.1, ?_⟩
      rw [ltB_of 16 16 _ _ ho.1.1 ho.1.2 ho.2]; exact k
    · cases hb
  · simp only at hb
    split at hb
    · rename_i ho
      cases hb
      simp only [Bool.and_eq_true] at ho
      refine op_leT hu pins s σ H _ _ v u Q I rx ry ⟨_, _, by rw [hK]; exact hx.dp g ho.1.1, by rw [hK]; exact hy.dp g ho.1.2, alk_of _ _ ho.2, by simp [der, toPy], depth_of 16 _ ho.1.1, ?_⟩
      show Q (.bl (!PySem.W.dataLt _ _)) H
      rw [ltB_of 16 16 _ _ ho.1.2 ho.1.1 (alk_symm _ _ ho.2)]; exact k
    · cases hb
  · cases hb
    refine op_isN pins s σ H _ _ v u Q I rx ry ⟨hy, ?_⟩
    rw [non_of hx]; exact k
  · cases hb
    refine op_notN pins s σ H _ _ v u Q I rx ry ⟨hy, ?_⟩
    rw [non_of hx]; exact k
  · cases hb
    exact op_isB pins s σ H _ _ v u Q I rx ry ⟨_, _, hx, hy, k⟩
  · cases hb
    exact op_notB pins s σ H _ _ v u Q I rx ry ⟨_, _, hx, hy, k⟩
  · rename_i ds
    simp only at hb
    split at hb
    · rename_i ho
      cases hb
      simp only [Bool.and_eq_true] at ho
      have o2 : okD 16 (der S (.lst ds)) = true := by simp only [der]; exact ho.2
      have hd := hy.dp g o2
      simp only [der, toPy] at hd
      refine op_inD hu pins s σ H _ _ v u Q I rx ry ⟨_, _, by rw [hK]; exact hx.dp g ho.1, by rw [hK]; exact hd, shaped_of ho.1, ?_, ?_⟩
      · have := shaped_of o2; simpa only [der, toPy] using this
      · rw [any_eqv ho.1 _ (by have := ho.2; simpa [okD] using this)]; exact k
    · cases hb
  · rename_i ds
    simp only at hb
    split at hb
    · rename_i ho
      cases hb
      simp only [Bool.and_eq_true] at ho
      have o2 : okD 16 (der S (.lst ds)) = true := by simp only [der]; exact ho.2
      have hd := hy.dp g o2
      simp only [der, toPy] at hd
      refine op_notInD hu pins s σ H _ _ v u Q I rx ry ⟨_, _, by rw [hK]; exact hx.dp g ho.1, by rw [hK]; exact hd, shaped_of ho.1, ?_, ?_⟩
      · have := shaped_of o2; simpa only [der, toPy] using this
      · rw [any_eqv ho.1 _ (by have := ho.2; simpa [okD] using this)]; exact k
    · cases hb
  · rename_i ds
    simp only at hb
    split at hb
    · rename_i ho
      cases hb
      simp only [Bool.and_eq_true] at ho
      have o2 : okD 16 (der S (.tup ds)) = true := by simp only [der]; exact ho.2
      have hd := hy.dp g o2
      simp only [der, toPy] at hd
      refine op_inT hu pins s σ H _ _ v u Q I rx ry ⟨_, _, by rw [hK]; exact hx.dp g ho.1, by rw [hK]; exact hd, shaped_of ho.1, ?_, ?_⟩
      · have := shaped_of o2; simpa only [der, toPy] using this
      · rw [any_eqv ho.1 _ (by have := ho.2; simpa [okD] using this)]; exact k
    · cases hb
  · rename_i ds
    simp only at hb
    split at hb
    · rename_i ho
      cases hb
      simp only [Bool.and_eq_true] at ho
      have o2 : okD 16 (der S (.tup ds)) = true := by simp only [der]; exact ho.2
      have hd := hy.dp g o2
      simp only [der, toPy] at hd
      refine op_notInT hu pins s σ H _ _ v u Q I rx ry ⟨_, _, by rw [hK]; exact hx.dp g ho.1, by rw [hK]; exact hd, shaped_of ho.1, ?_, ?_⟩
      · have := shaped_of o2; simpa only [der, toPy] using this
      · rw [any_eqv ho.1 _ (by have := ho.2; simpa [okD] using this)]; exact k
    · cases hb
  · cases hb

/-! ### truth -/
theorem tru_of (hK : X.K = W.K) {d : D} {v : V} {b : Bool} (h : RepV W mu hid H d v) (e : truth d = some b) : TruV X.K v H b := by
  unfold truth at e
  split at e
  · cases e; rw [show v = _ from h]; rfl
  · cases e; rw [show v = _ from h]; rfl
  · cases e; rw [show v = _ from h]; rfl
  · split at e
    · cases e; rw [show v = _ from h]; exact ⟨Nat.le_trans (by assumption) line6, rfl⟩
    · cases e
  · cases e
    obtain ⟨a, xs, e1, h1, r1⟩ := h
    rw [e1]
    refine .inr (.inl ⟨xs, by rw [hK]; exact h1.sq, ?_⟩)
    rename_i ds
    cases ds with
    | nil => rw [show xs = [] from r1]; rfl
    | cons d ds => obtain ⟨_, _, q, _⟩ := r1; rw [q]; rfl
  · cases e
    obtain ⟨a, xs, e1, h1, r1⟩ := h
    rw [e1]
    refine .inl ⟨xs, .inl (.inl h1), ?_⟩
    rename_i ds
    cases ds with
    | nil => rw [show xs = [] from r1]; rfl
    | cons d ds => obtain ⟨_, _, q, _⟩ := r1; rw [q]; rfl
  · cases e
end
end Ev
end
section
set_option Elab.async false
set_option linter.all false
set_option maxRecDepth 100000
set_option maxHeartbeats 1000000
namespace Ev
open PySem PySem.Spec PyProof.Rows L2
/-- the names: of slots, defs, constants -/
structure Ck where
  N : List Str
  fname : Nat → Option Str
  gname : Nat → Option Str
  cname : Nat → Option Str
  wname : Nat → Option Str
  whs : Nat → List (Nat × Str) × Str
  lam : Bool
/-- the room that is kept for lambdas -/
def Ck.sl (C : Ck) : Nat := if C.lam then 3 else 0
def spF (W : Wd) (f : List D → Store → R D) : Sp := fun vs H Q E => ∃ ds S mu hid, RepL W mu hid H ds vs ∧ Good W mu hid S H ∧
  Fin W mu hid H (f ds S) (fun d S' mu' H' => ∀ v, Rep W mu' hid H' d v → Q v H') (fun c mu' H' => ∀ dx, E (W.cls c) dx H')
def Prim.name : Prim → Str
  | .len => "len" | .all => "all" | .any => "any" | .abs => "abs" | .int => "int" | .bool => "bool" | .str => "str" | .tuple => "tuple" | .list => "list"
  | .max => "max" | .min => "min" | .sorted => "sorted" | .rangeL => "range"
def bltNames : List Str := ["len", "all", "any", "abs", "int", "bool", "str", "tuple", "list", "max", "min", "sorted", "range", "zip", "enumerate", "isinstance", "dict"]
def okName (x : Str) : Bool := (x == ("__debug__" : Str)) == false && (x == ("__classdict__" : Str)) == false
def visB (sc : Scope) (x : Str) : Bool := match sc.names.lookup x with
  | some .local => true | some .cell => true | some .free => true | _ => false
def locB (sc : Scope) (x : Str) : Bool := match sc.names.lookup x with
  | some .local => true | some .cell => true | _ => false
def glB (sc : Scope) (x : Str) : Bool := match sc.names.lookup x with
  | some .globalImplicit => true | _ => false
theorem vis_of {sc : Scope} {x : Str} (h : visB sc x = true) : Vis sc x := by
  unfold visB at h
  split at h
  · exact .inl (by assumption)
  · exact .inr (.inl (by assumption))
  · exact .inr (.inr (by assumption))
  · cases h
theorem loc_of {sc : Scope} {x : Str} (h : locB sc x = true) : Loc sc x := by
  unfold locB at h
  split at h
  · exact .inl (by assumption)
  · exact .inr (by assumption)
  · cases h
theorem gl_of {X : Cx} {x : Str} (h : glB X.env.scope x = true) : Gl X x := by
  unfold glB at h
  split at h
  · assumption
  · cases h
theorem okName_of {x : Str} (h : okName x = true) : (x == ("__debug__" : Str)) = false ∧ (x == ("__classdict__" : Str)) = false := by
  unfold okName at h
  simp only [Bool.and_eq_true, beq_iff_eq] at h
  exact h

/-- the clauses of a word def: each returns a text -/
def hdsB (cn : Nat → Option Str) (sc : Scope) : List (Nat × Str) → List ExceptHandler → Bool
  | [], [] => true
  | (c, s) :: hs, .ExceptHandler (some (.Name x _)) none [.Return (some (.Constant (.str z) _ _)) _] _ :: hds => decide (cn c = some x) && glB sc x && okName x && decide (z = s) && hdsB cn sc hs hds
  | _, _ => false
/-- try: a() / except ..: return .. / return .. -/
def wordB (cn : Nat → Option Str) (sc : Scope) (a : Str) (hs : List (Nat × Str)) (dv : Str) : List Stmt → Bool
  | [.Try [.Expr (.Call (.Name b _) [] [] _) _] (h :: hds) [] [] _, .Return (some (.Constant (.str z) _ _)) _] => decide (b = a) && hdsB cn sc hs (h :: hds) && decide (z = dv)
  | _ => false
/-- the def that calls what it gets, and tells by a word how that ended -/
def WordAt (K : PySem.W.Frag) (mg : Str → Option Value) (cn : Nat → Option Str) (wh : List (Nat × Str) × Str) (x : Str) : Prop :=
  ∃ (g : Addr) (pg : Arguments) (bg : List Stmt) (sg : Scope) (dV kV doc pm cdv ct oc : Value) (an od : Option Addr) (osl : Array (Option Value)) (Ng : List Str) (a : Str),
    mg x = some (.ref g) ∧ PySem.W.keepIn K (.ref g) = true ∧ K.lookup g = some ⟨oc, od, .func (PySem.W.fnOf x x pg bg sg dV kV doc pm an cdv ct), osl⟩ ∧ PySem.W.codeIn K cdv x = true ∧
    L2.Binds K (PySem.W.fnOf x x pg bg sg dV kV doc pm an cdv ct) [a] [] ∧ FnScope Ng [a] sg ∧ Ng[0]? = some a ∧ Vis sg a ∧ okName a = true ∧ wordB cn sg a wh.1 wh.2 bg = true
structure XOk (W : Wd) (G : Glb) (C : Ck) (Wx : WX) (X : Cx) : Prop where
  hK : X.K = W.K
  hN : X.N = C.N
  nd : X.N.Nodup
  calm : X.calm = true
  room : Room (G.lv + C.sl) X.A
  tk : Takes X Wx
  fns : ∀ f x, C.fname f = some x → ∃ fd ps, FnOk X.prog X.w X.K X.mg X.base (L2.CX X.prog X.w) G.lv (W.fa f) fd ps (spF W (G.call f)) ∧ X.mg x = some (.ref (W.fa f)) ∧ PySem.W.keepIn X.K (.ref (W.fa f)) = true ∧ L2.Binds X.K fd ps []
  globs : ∀ g x d, C.gname g = some x → G.glob g = some d → ∃ v u, X.mg x = some u ∧ RelV v u ∧ ∀ mu hid H, Rep W mu hid H d v
  blt : ∀ x, x ∈ bltNames → X.mg x = none
  fnr : ∀ f, f < G.nf → ∃ x, C.fname f = some x
  cls : ∀ c x, C.cname c = some x → X.mg x = some (W.cls c)
  exm : ∀ c c' x x', C.cname c = some x → C.cname c' = some x' → PySem.W.exmOne X.K (W.cls c) (W.cls c') = some (decide (c' = c))
  wds : ∀ w x, C.wname w = some x → WordAt X.K X.mg C.cname (C.whs w) x
  lam : C.lam = true → ∃ c P, LamX.TabB X.base X.mg c P ∧ X.env.code = .ref c ∧ (P, X.env.qual ++ "<lambda>") ∈ W.tabs ∧ ∀ p ∈ W.tabs, p.1 = P → p.2 = X.env.qual ++ "<lambda>"

def tE (W : Wd) (G : Glb) (Wx : WX) (t : T) : TE := fun σ H Q => ∃ ρ S mu hid, EnvR W mu hid H ρ σ ∧ Good W mu hid S H ∧
  Fin W mu hid H (evE G t ρ S) (fun d S' mu' H' => ∀ v, Rep W mu' hid H' d v → Q v H') (fun c mu' H' => ∀ dx, Wx (W.cls c) dx σ H')
def tT (W : Wd) (G : Glb) (Wx : WX) (t : T) : TT := fun σ H Q => ∃ ρ S mu hid, EnvR W mu hid H ρ σ ∧ Good W mu hid S H ∧
  Fin W mu hid H (tst (evE G t ρ S)) (fun b S' mu' H' => Q b H') (fun c mu' H' => ∀ dx, Wx (W.cls c) dx σ H')
def tA (W : Wd) (G : Glb) (Wx : WX) (t : T) : TA := fun σ H Q => ∃ ρ S mu hid, EnvR W mu hid H ρ σ ∧ Good W mu hid S H ∧
  Fin W mu hid H (evA G t ρ S) (fun ds S' mu' H' => ∀ vs, RepL W mu' hid H' ds vs → Q vs H') (fun c mu' H' => ∀ dx, Wx (W.cls c) dx σ H')

theorem peImp {X : Cx} {e : Expr} {t t' : TE} (h : PE X e t) (k : ∀ σ H Q, t' σ H Q → t σ H Q) : PE X e t' := ⟨fun pins s σ H Q I q => h.run pins s σ H Q I (k σ H Q q)⟩
theorem ptImp {X : Cx} {e : Expr} {t t' : TT} (h : PT X e t) (k : ∀ σ H Q, t' σ H Q → t σ H Q) : PT X e t' := ⟨fun pins s σ H Q I q => h.run pins s σ H Q I (k σ H Q q)⟩
theorem pwImp {X : Cx} {e : Expr} {t t' : TT} (h : PW X e t) (k : ∀ σ H Q, t' σ H Q → t σ H Q) : PW X e t' := ⟨fun wh pins s σ H Q I q => h.run wh pins s σ H Q I (k σ H Q q)⟩
theorem paImp {X : Cx} {e : List Expr} {t t' : TA} (h : PA X e t) (k : ∀ σ H Q, t' σ H Q → t σ H Q) : PA X e t' := ⟨fun pos pins s σ H Q I q => h.run pos pins s σ H Q I (k σ H Q q)⟩

section
variable {W : Wd} {G : Glb} {C : Ck} {Wx : WX} {X : Cx} {pos : Pos} {ea eb ec : Expr} {a b c : T}
theorem s_var (K : XOk W G C Wx X) {i : Nat} {x : Str} (h1 : C.N[i]? = some x) (h2 : visB X.env.scope x = true) (h3 : okName x = true) : PE X (.Name x pos) (tE W G Wx (.var i)) := by
  refine peImp (pe_var (i := i) (by rw [K.hN]; exact h1) (vis_of h2) (okName_of h3).1 (okName_of h3).2) fun σ H Q ⟨ρ, S, mu, hid, he, hg, hf⟩ => ?_
  simp only [evE] at hf
  obtain ⟨d, e, hf⟩ := hf.ofO
  obtain ⟨v, h, r⟩ := he.get e
  exact ⟨v, h, hf.here hg v r⟩
theorem s_int {i : Int} {j : Nat} : PE X (.Constant (.int i) j pos) (tE W G Wx (.int i)) := peImp pe_int fun σ H Q ⟨ρ, S, mu, hid, he, hg, hf⟩ => by
  simp only [evE] at hf; exact hf.here hg _ rfl
theorem s_str {i : Str} {j : Nat} : PE X (.Constant (.str i) j pos) (tE W G Wx (.str i)) := peImp pe_str fun σ H Q ⟨ρ, S, mu, hid, he, hg, hf⟩ => by
  simp only [evE] at hf; exact hf.here hg _ rfl
theorem s_bl {i : Bool} {j : Nat} : PE X (.Constant (.bool i) j pos) (tE W G Wx (.bl i)) := peImp pe_bl fun σ H Q ⟨ρ, S, mu, hid, he, hg, hf⟩ => by
  simp only [evE] at hf; exact hf.here hg _ rfl
theorem s_non {j : Nat} : PE X (.Constant .none j pos) (tE W G Wx .non) := peImp pe_non fun σ H Q ⟨ρ, S, mu, hid, he, hg, hf⟩ => by
  simp only [evE] at hf; exact hf.here hg _ rfl
theorem s_glob (K : XOk W G C Wx X) {g : Nat} {x : Str} (h1 : C.gname g = some x) (h2 : glB X.env.scope x = true) (h3 : okName x = true) : PE X (.Name x pos) (tE W G Wx (.glob g)) := by
  refine ⟨fun pins s σ H Q I ⟨ρ, S, mu, hid, he, hg, hf⟩ => ?_⟩
  simp only [evE] at hf
  obtain ⟨d, e, hf⟩ := hf.ofO
  obtain ⟨v, u, hm, r, rp⟩ := K.globs g x d h1 e
  exact (pe_glob (gl_of h2) hm r (okName_of h3).1).run pins s σ H Q I (hf.here hg v (rp _ _ _))
theorem s_bin (K : XOk W G C Wx X) (o : Bop) (ha : PE X ea (tE W G Wx a)) (hb : PE X eb (tE W G Wx b)) : PE X (.BinOp ea o.op eb pos) (tE W G Wx (.bin o a b)) := by
  refine peImp (pe_op (op_bin (W := W) K.hK o) ha hb) fun σ H Q ⟨ρ, S, mu, hid, he, hg, hf⟩ => ?_
  simp only [evE] at hf
  refine ⟨ρ, S, mu, hid, he, hg, hf.bind.mono (fun x S1 mu1 H1 _ _ ⟨e1, g1, f1⟩ v rx => ?_) fun _ _ _ h => h⟩
  refine ⟨ρ, S1, mu1, hid, he.ext e1, g1, f1.bind.mono (fun y S2 mu2 H2 _ _ ⟨e2, g2, f2⟩ w ry => ?_) fun _ _ _ h => h⟩
  obtain ⟨d, e, f3⟩ := f2.ofO
  exact ⟨_, _, d, S2, mu2, hid, (rx.ext e2).view g2, ry.view g2, e, g2, fun H' z sm rz => f3.ok (Ext.same sm) (g2.same sm) z rz⟩
theorem s_neg (K : XOk W G C Wx X) (ha : PE X ea (tE W G Wx a)) : PE X (.UnaryOp .USub ea pos) (tE W G Wx (.neg a)) := by
  refine peImp (pe_un un_neg ha) fun σ H Q ⟨ρ, S, mu, hid, he, hg, hf⟩ => ?_
  simp only [evE] at hf
  refine ⟨ρ, S, mu, hid, he, hg, hf.bind.mono (fun x S1 mu1 H1 _ _ ⟨e1, g1, f1⟩ v rx => ?_) fun _ _ _ h => h⟩
  obtain ⟨d, e, f3⟩ := f1.ofO
  cases x with
  | int i => simp only [asInt, Option.map_some, Option.some.injEq] at e; subst e; exact ⟨i, rx, f3.here g1 _ rfl⟩
  | _ => cases e
theorem s_cmp (K : XOk W G C Wx X) (o : Cop) (ha : PE X ea (tE W G Wx a)) (hb : PE X eb (tE W G Wx b)) (hm : behindInMarks o.op eb = false) : PE X (.Compare ea [o.op] [eb] pos) (tE W G Wx (.cmp o a b)) := by
  refine peImp (pe_cmpR (op_cmp (W := W) K.hK (by have := K.room.un; omega) o) ha hb hm) fun σ H Q ⟨ρ, S, mu, hid, he, hg, hf⟩ => ?_
  simp only [evE] at hf
  refine ⟨ρ, S, mu, hid, he, hg, hf.bind.mono (fun x S1 mu1 H1 _ _ ⟨e1, g1, f1⟩ v rx => ?_) fun _ _ _ h => h⟩
  refine ⟨ρ, S1, mu1, hid, he.ext e1, g1, f1.bind.mono (fun y S2 mu2 H2 _ _ ⟨e2, g2, f2⟩ w ry => ?_) fun _ _ _ h => h⟩
  obtain ⟨d, e, f3⟩ := f2.ofO
  obtain ⟨k, e5, rfl⟩ := Option.map_eq_some_iff.mp e
  exact ⟨_, _, k, S2, mu2, hid, (rx.ext e2).view g2, ry.view g2, e5, g2, f3.here g2 _ rfl⟩
theorem bind_ok {α β : Type} {x : R α} {f : α → Store → R β} {b : β} {S : Store} (h : x.bind f = .ok b S) : ∃ a S1, x = .ok a S1 ∧ f a S1 = .ok b S := by
  cases x with
  | ok a S1 => exact ⟨a, S1, rfl, h⟩
  | exc c S1 => cases h
  | bad => cases h
theorem s_and (K : XOk W G C Wx X) {y : Expr} {r : List Expr} {p2 : Pos} (ha : PE X ea (tE W G Wx a)) (hb : PE X (.BoolOp .And (y :: r) pos) (tE W G Wx b)) : PE X (.BoolOp .And (ea :: y :: r) pos) (tE W G Wx (.and a b)) := by
  refine peImp (pe_andT ha hb) fun σ H Q ⟨ρ, S, mu, hid, he, hg, hf⟩ => ?_
  simp only [evE] at hf
  refine ⟨ρ, S, mu, hid, he, hg, hf.bind.mono (fun x S1 mu1 H1 _ _ ⟨e1, g1, f1⟩ v rx => ?_) fun _ _ _ h => h⟩
  have f2 := f1.bind
  obtain ⟨k, e, f3⟩ := f2.ofO
  obtain ⟨_, _, f4⟩ := f3.here g1
  refine ⟨k, tru_of K.hK (rx.view g1) e, ?_⟩
  cases k with
  | true => exact ⟨ρ, S1, mu1, hid, he.ext e1, g1, f4⟩
  | false => exact f4.here g1 v rx
theorem s_or (K : XOk W G C Wx X) {y : Expr} {r : List Expr} (ha : PE X ea (tE W G Wx a)) (hb : PE X (.BoolOp .Or (y :: r) pos) (tE W G Wx b)) : PE X (.BoolOp .Or (ea :: y :: r) pos) (tE W G Wx (.or a b)) := by
  refine peImp (pe_orT ha hb) fun σ H Q ⟨ρ, S, mu, hid, he, hg, hf⟩ => ?_
  simp only [evE] at hf
  refine ⟨ρ, S, mu, hid, he, hg, hf.bind.mono (fun x S1 mu1 H1 _ _ ⟨e1, g1, f1⟩ v rx => ?_) fun _ _ _ h => h⟩
  have f2 := f1.bind
  obtain ⟨k, e, f3⟩ := f2.ofO
  obtain ⟨_, _, f4⟩ := f3.here g1
  refine ⟨k, tru_of K.hK (rx.view g1) e, ?_⟩
  cases k with
  | true => exact f4.here g1 v rx
  | false => exact ⟨ρ, S1, mu1, hid, he.ext e1, g1, f4⟩
theorem s_one {op : BoolOp} (ha : PE X ea (tE W G Wx a)) : PE X (.BoolOp op [ea] pos) (tE W G Wx (.one a)) := by
  refine peImp (pe_one ha) fun σ H Q ⟨ρ, S, mu, hid, he, hg, hf⟩ => ⟨ρ, S, mu, hid, he, hg, ?_⟩
  simp only [evE] at hf; exact hf
theorem s_not (K : XOk W G C Wx X) (ha : PE X ea (tE W G Wx a)) : PE X (.UnaryOp .Not ea pos) (tE W G Wx (.not a)) := by
  refine peImp (pe_notT ha) fun σ H Q ⟨ρ, S, mu, hid, he, hg, hf⟩ => ?_
  simp only [evE, tst] at hf
  refine ⟨ρ, S, mu, hid, he, hg, hf.bind.bind.mono (fun x S1 mu1 H1 _ _ ⟨e1, g1, f1⟩ v rx => ?_) fun _ _ _ h => h⟩
  obtain ⟨k, e, f3⟩ := f1.ofO
  obtain ⟨_, _, f4⟩ := f3.here g1
  exact ⟨k, tru_of K.hK (rx.view g1) e, f4.here g1 _ rfl⟩
theorem s_ife (K : XOk W G C Wx X) (hc : PT X ec (tT W G Wx c)) (ha : PE X ea (tE W G Wx a)) (hb : PE X eb (tE W G Wx b)) : PE X (.IfExp ec ea eb pos) (tE W G Wx (.ife c a b)) := by
  refine peImp (pe_ifExp hc ha hb) fun σ H Q ⟨ρ, S, mu, hid, he, hg, hf⟩ => ?_
  simp only [evE] at hf
  refine ⟨ρ, S, mu, hid, he, hg, hf.bind.mono (fun k S1 mu1 H1 _ _ ⟨e1, g1, f1⟩ => ?_) fun _ _ _ h => h⟩
  cases k with
  | true => exact ⟨ρ, S1, mu1, hid, he.ext e1, g1, f1⟩
  | false => exact ⟨ρ, S1, mu1, hid, he.ext e1, g1, f1⟩

/-! ### tests -/
theorem t_val (K : XOk W G C Wx X) (ha : PE X ea (tE W G Wx a)) (hp : ∀ whole, isTrue ea X.env whole = (do let v ← whole; standAt ea.pos; holding [v] (truthy v))) : PT X ea (tT W G Wx a) := by
  refine ptImp (pt_truth ha hp) fun σ H Q ⟨ρ, S, mu, hid, he, hg, hf⟩ => ?_
  simp only [tst] at hf
  refine ⟨ρ, S, mu, hid, he, hg, hf.bind.mono (fun x S1 mu1 H1 _ _ ⟨e1, g1, f1⟩ v rx => ?_) fun _ _ _ h => h⟩
  obtain ⟨k, e, f3⟩ := f1.ofO
  exact ⟨k, tru_of K.hK (rx.view g1) e, f3.here g1⟩
theorem t_not (ha : PT X ea (tT W G Wx a)) : PT X (.UnaryOp .Not ea pos) (tT W G Wx (.not a)) := by
  refine ptImp (pt_not ha) fun σ H Q ⟨ρ, S, mu, hid, he, hg, hf⟩ => ?_
  simp only [tst, evE] at hf
  refine ⟨ρ, S, mu, hid, he, hg, hf.bind.bind.mono (fun k S1 mu1 H1 _ _ ⟨e1, g1, f1⟩ => ?_) fun _ _ _ h => h⟩
  have f2 := f1.here g1
  obtain ⟨_, _, f3⟩ := f2
  exact (show Fin W mu1 hid H1 (.ok (!k) S1) _ _ from f3).here g1
theorem t_cmp (K : XOk W G C Wx X) (o : Cop) (ha : PE X ea (tE W G Wx a)) (hb : PE X eb (tE W G Wx b)) (hm : behindInMarks o.op eb = false) : PT X (.Compare ea [o.op] [eb] pos) (tT W G Wx (.cmp o a b)) := by
  refine ptImp (pt_cmpR (op_cmp (W := W) K.hK (by have := K.room.un; omega) o) ha hb hm) fun σ H Q ⟨ρ, S, mu, hid, he, hg, hf⟩ => ?_
  simp only [tst, evE] at hf
  refine ⟨ρ, S, mu, hid, he, hg, hf.bind.bind.mono (fun x S1 mu1 H1 _ _ ⟨e1, g1, f1⟩ v rx => ?_) fun _ _ _ h => h⟩
  refine ⟨ρ, S1, mu1, hid, he.ext e1, g1, f1.bind.mono (fun y S2 mu2 H2 _ _ ⟨e2, g2, f2⟩ w ry => ?_) fun _ _ _ h => h⟩
  obtain ⟨d, e, f3⟩ := f2.ofO
  obtain ⟨k, e5, rfl⟩ := Option.map_eq_some_iff.mp e
  obtain ⟨_, _, f4⟩ := f3.here g2
  exact ⟨_, _, k, S2, mu2, hid, (rx.ext e2).view g2, ry.view g2, e5, g2, k, rfl, (show Fin W mu2 hid H2 (.ok k S2) _ _ from f4).here g2⟩
theorem w_one {op : BoolOp} (ha : PT X ea (tT W G Wx a)) : PW X (.BoolOp op [ea] pos) (tT W G Wx (.one a)) := by
  cases op with
  | And => exact pwImp (pw_and1 ha) fun σ H Q ⟨ρ, S, mu, hid, he, hg, hf⟩ => ⟨ρ, S, mu, hid, he, hg, by simp only [evE] at hf; exact hf⟩
  | Or => exact pwImp (pw_or1 ha) fun σ H Q ⟨ρ, S, mu, hid, he, hg, hf⟩ => ⟨ρ, S, mu, hid, he, hg, by simp only [evE] at hf; exact hf⟩
theorem tst_ok {x : D} {S : Store} : tst (.ok x S) = R.ofO (truth (view S x)) S := rfl
theorem w_and {y : Expr} {r : List Expr} (ha : PT X ea (tT W G Wx a)) (hb : PW X (.BoolOp .And (y :: r) pos) (tT W G Wx b)) : PW X (.BoolOp .And (ea :: y :: r) pos) (tT W G Wx (.and a b)) := by
  refine pwImp (pw_and ha hb) fun σ H Q ⟨ρ, S, mu, hid, he, hg, hf⟩ => ?_
  simp only [tst, evE] at hf
  refine ⟨ρ, S, mu, hid, he, hg, ?_⟩
  unfold tst
  cases q : evE G a ρ S with
  | bad => rw [q] at hf; exact hf
  | exc c S1 => rw [q] at hf; exact hf
  | ok x S1 =>
    rw [q] at hf
    have hf : Fin W mu hid H (((R.ofO (truth (view S1 x)) S1).bind fun k S2 => if k = true then evE G b ρ S2 else R.ok x S2).bind fun d S => R.ofO (truth (view S d)) S) _ _ := hf
    show Fin W mu hid H (R.ofO (truth (view S1 x)) S1) _ _
    cases t : truth (view S1 x) with
    | none => rw [t] at hf; exact hf
    | some k =>
      rw [t] at hf
      intro H' mu' e' g'
      cases k with
      | true =>
        rw [if_pos rfl]
        refine ⟨ρ, S1, mu', hid, he.ext e', g', ?_⟩
        have hf : Fin W mu hid H ((evE G b ρ S1).bind fun d S => R.ofO (truth (view S d)) S) _ _ := hf
        have z : Fin W mu hid H ((R.ok x S1).bind fun _ S1 => (evE G b ρ S1).bind fun d S => R.ofO (truth (view S d)) S) _ _ := hf
        exact (z.bind H' mu' e' g').2.2
      | false =>
        rw [if_neg Bool.false_ne_true]
        have hf : Fin W mu hid H (R.ofO (truth (view S1 x)) S1) _ _ := hf
        rw [t] at hf
        exact hf H' mu' e' g'
theorem w_or {y : Expr} {r : List Expr} (ha : PT X ea (tT W G Wx a)) (hb : PW X (.BoolOp .Or (y :: r) pos) (tT W G Wx b)) : PW X (.BoolOp .Or (ea :: y :: r) pos) (tT W G Wx (.or a b)) := by
  refine pwImp (pw_or ha hb) fun σ H Q ⟨ρ, S, mu, hid, he, hg, hf⟩ => ?_
  simp only [tst, evE] at hf
  refine ⟨ρ, S, mu, hid, he, hg, ?_⟩
  unfold tst
  cases q : evE G a ρ S with
  | bad => rw [q] at hf; exact hf
  | exc c S1 => rw [q] at hf; exact hf
  | ok x S1 =>
    rw [q] at hf
    have hf : Fin W mu hid H (((R.ofO (truth (view S1 x)) S1).bind fun k S2 => if k = true then R.ok x S2 else evE G b ρ S2).bind fun d S => R.ofO (truth (view S d)) S) _ _ := hf
    show Fin W mu hid H (R.ofO (truth (view S1 x)) S1) _ _
    cases t : truth (view S1 x) with
    | none => rw [t] at hf; exact hf
    | some k =>
      rw [t] at hf
      intro H' mu' e' g'
      cases k with
      | false =>
        rw [if_neg Bool.false_ne_true]
        refine ⟨ρ, S1, mu', hid, he.ext e', g', ?_⟩
        have hf : Fin W mu hid H ((evE G b ρ S1).bind fun d S => R.ofO (truth (view S d)) S) _ _ := hf
        have z : Fin W mu hid H ((R.ok x S1).bind fun _ S1 => (evE G b ρ S1).bind fun d S => R.ofO (truth (view S d)) S) _ _ := hf
        exact (z.bind H' mu' e' g').2.2
      | true =>
        rw [if_pos rfl]
        have hf : Fin W mu hid H (R.ofO (truth (view S1 x)) S1) _ _ := hf
        rw [t] at hf
        exact hf H' mu' e' g'
end
end Ev
end
section
set_option Elab.async false
set_option linter.all false
set_option maxRecDepth 100000
set_option maxHeartbeats 1000000
namespace Ev
open PySem PySem.Spec PyProof.Rows L2
def starred : Expr → Bool
  | .Starred _ _ => true
  | _ => false
theorem starEach_cons {e : Expr} {es : List Expr} {env : PySem.Env} (h : starred e = false) : starEach (e :: es) env = (false, eval e env) :: starEach es env := by
  cases e <;> first | rfl | (cases h)
def noStar : List Expr → Bool
  | [] => true
  | e :: es => !starred e && noStar es
theorem noStar_any {pos : Pos} {env : PySem.Env} : ∀ {es : List Expr}, noStar es = true → (backTo pos (starEach es env)).any (·.1) = false
  | [], _ => rfl
  | e :: es, h => by
    simp only [noStar, Bool.and_eq_true, Bool.not_eq_true'] at h
    rw [starEach_cons h.1]
    have ih := noStar_any (pos := pos) (env := env) h.2
    cases es with
    | nil => rfl
    | cons e2 es =>
      have h3 := h.2
      simp only [noStar, Bool.and_eq_true, Bool.not_eq_true'] at h3
      rw [starEach_cons h3.1] at ih ⊢
      simpa [backTo, List.any_cons] using ih
section
variable {W : Wd} {G : Glb} {C : Ck} {Wx : WX} {X : Cx} {pos : Pos} {ea eb ec : Expr} {a b c es : T} {xs : List Expr}
theorem s_chain' (K : XOk W G C Wx X) (o p : Cop) (ha : PE X ea (tE W G Wx a)) (hb : PE X eb (tE W G Wx b)) (hc : PE X ec (tE W G Wx c)) (hm : lastMarks [o.op, p.op] [eb, ec] = false) :
    PE X (.Compare ea [o.op, p.op] [eb, ec] pos) (tE W G Wx (.chain o p a b c)) := by
  have hu : X.A.units + 65 < cLine := by have := K.room.un; omega
  refine peImp (pe_chain (op_cmp (W := W) K.hK hu o) (op_cmp (W := W) K.hK hu p) ha hb hc hm) fun σ H Q ⟨ρ, S, mu, hid, he, hg, hf⟩ => ?_
  simp only [evE] at hf
  refine ⟨ρ, S, mu, hid, he, hg, hf.bind.mono (fun x S1 mu1 H1 _ _ ⟨e1, g1, f1⟩ v rx => ?_) fun _ _ _ h => h⟩
  refine ⟨ρ, S1, mu1, hid, he.ext e1, g1, f1.bind.mono (fun y S2 mu2 H2 _ _ ⟨e2, g2, f2⟩ w ry => ?_) fun _ _ _ h => h⟩
  have f3 := f2.bind
  obtain ⟨k, e5, f3⟩ := f3.ofO
  obtain ⟨_, _, f4⟩ := f3.here g2
  refine ⟨_, _, k, S2, mu2, hid, (rx.ext e2).view g2, ry.view g2, e5, g2, k, rfl, ?_⟩
  cases k with
  | false => exact f4.here g2 _ rfl
  | true =>
    rw [if_pos rfl] at f4 ⊢
    refine ⟨ρ, S2, mu2, hid, (he.ext e1).ext e2, g2, f4.bind.mono (fun z S3 mu3 H3 _ _ ⟨e3, g3, f5⟩ u rz => ?_) fun _ _ _ h => h⟩
    obtain ⟨d, e6, f6⟩ := f5.ofO
    obtain ⟨k, e7, rfl⟩ := Option.map_eq_some_iff.mp e6
    exact ⟨_, _, k, S3, mu3, hid, (ry.ext e3).view g3, rz.view g3, e7, g3, f6.here g3 _ rfl⟩
theorem t_chain (K : XOk W G C Wx X) (o p : Cop) (ha : PE X ea (tE W G Wx a)) (hb : PE X eb (tE W G Wx b)) (hc : PE X ec (tE W G Wx c)) (hm : lastMarks [o.op, p.op] [eb, ec] = false) :
    PT X (.Compare ea [o.op, p.op] [eb, ec] pos) (tT W G Wx (.chain o p a b c)) := by
  have hu : X.A.units + 65 < cLine := by have := K.room.un; omega
  refine ptImp (pt_chain (op_cmp (W := W) K.hK hu o) (op_cmp (W := W) K.hK hu p) ha hb hc hm) fun σ H Q ⟨ρ, S, mu, hid, he, hg, hf⟩ => ?_
  simp only [evE, tst] at hf
  refine ⟨ρ, S, mu, hid, he, hg, hf.bind.bind.mono (fun x S1 mu1 H1 _ _ ⟨e1, g1, f1⟩ v rx => ?_) fun _ _ _ h => h⟩
  refine ⟨ρ, S1, mu1, hid, he.ext e1, g1, f1.bind.mono (fun y S2 mu2 H2 _ _ ⟨e2, g2, f2⟩ w ry => ?_) fun _ _ _ h => h⟩
  have f3 := f2.bind
  obtain ⟨k, e5, f3⟩ := f3.ofO
  obtain ⟨_, _, f4⟩ := f3.here g2
  refine ⟨_, _, k, S2, mu2, hid, (rx.ext e2).view g2, ry.view g2, e5, g2, k, rfl, ?_⟩
  cases k with
  | false =>
    obtain ⟨_, _, f5⟩ := f4.here g2
    exact ⟨false, rfl, (show Fin W mu2 hid H2 (.ok false S2) _ _ from f5).here g2⟩
  | true =>
    rw [if_pos rfl] at f4 ⊢
    refine ⟨ρ, S2, mu2, hid, (he.ext e1).ext e2, g2, f4.bind.mono (fun z S3 mu3 H3 _ _ ⟨e3, g3, f5⟩ u rz => ?_) fun _ _ _ h => h⟩
    obtain ⟨d, e6, f6⟩ := f5.ofO
    obtain ⟨k, e7, rfl⟩ := Option.map_eq_some_iff.mp e6
    obtain ⟨_, _, f7⟩ := f6.here g3
    exact ⟨_, _, k, S3, mu3, hid, (ry.ext e3).view g3, rz.view g3, e7, g3, k, rfl, (show Fin W mu3 hid H3 (.ok k S3) _ _ from f7).here g3⟩

/-! ### lists of expressions -/
theorem a_nil : PA X [] (tA W G Wx .nil) := paImp pa_nil fun σ H Q ⟨ρ, S, mu, hid, he, hg, hf⟩ => by
  simp only [evA] at hf; exact hf.here hg _ rfl
theorem a_cons (ha : PE X ea (tE W G Wx a)) (hs : PA X xs (tA W G Wx es)) (h : starred ea = false) : PA X (ea :: xs) (tA W G Wx (.cons a es)) := by
  refine paImp (pa_cons ha hs (starEach_cons h)) fun σ H Q ⟨ρ, S, mu, hid, he, hg, hf⟩ => ?_
  simp only [evA] at hf
  refine ⟨ρ, S, mu, hid, he, hg, hf.bind.mono (fun x S1 mu1 H1 _ _ ⟨e1, g1, f1⟩ v rx => ?_) fun _ _ _ h => h⟩
  refine ⟨ρ, S1, mu1, hid, he.ext e1, g1, f1.bind.mono (fun ys S2 mu2 H2 _ _ ⟨e2, g2, f2⟩ w ry => ?_) fun _ _ _ h => h⟩
  exact f2.here g2 _ ⟨v, w, rfl, rx.ext e2, ry⟩

/-! ### displays -/
theorem s_tup {k : Nat} (ha : PA X xs (tA W G Wx es)) : PE X (.Tuple xs k pos) (tE W G Wx (.tup es)) := by
  refine peImp (pe_tup ha) fun σ H Q ⟨ρ, S, mu, hid, he, hg, hf⟩ => ?_
  simp only [evE] at hf
  refine ⟨ρ, S, mu, hid, he, hg, hf.bind.mono (fun ds S1 mu1 H1 _ _ ⟨e1, g1, f1⟩ vs rx => ?_) fun _ _ _ h => h⟩
  split at f1
  · rename_i hl
    exact ⟨by rw [rx.length]; exact Nat.le_trans hl line6, fun p hp => f1.ok (Ext.same (same_new hp)) (g1.same (same_new hp)) _ (Rep.newT g1 hp rx)⟩
  · exact f1.elim
theorem mkL_fin {cl : Bool} {mu hid : List Addr} {H : Hp} {S : Store} {ds : List D} {vs : List V} {p : Addr} {K : D → Store → List Addr → Hp → Prop} {E : Nat → List Addr → Hp → Prop}
    (h : Fin W mu hid H (mkL cl ds S) K E) (g : Good W mu hid S H) (hp : H p = none) (r : RepL W mu hid H ds vs) : ∃ d S' mu', Rep W mu' hid (upd H p (.lst vs)) d (.ref p) ∧ K d S' mu' (upd H p (.lst vs)) := by
  cases cl with
  | true =>
    obtain ⟨e, g'⟩ := g.cell hp r
    refine ⟨.cel S.length, _, _, ⟨p, rfl, ?_⟩, (show Fin W mu hid H (.ok (.cel S.length) (S ++ [.lst ds])) K E from h).ok e g'⟩
    rw [List.getElem?_append_right (by rw [g.len]; exact Nat.le_refl _), g.len]
    simp
  | false => exact ⟨.lst ds, S, mu, Rep.newL g hp r, (show Fin W mu hid H (.ok (.lst ds) S) K E from h).ok (Ext.same (same_new hp)) (g.same (same_new hp))⟩
theorem s_lst {cl : Bool} (ha : PA X xs (tA W G Wx es)) : PE X (.List xs pos) (tE W G Wx (.lst cl es)) := by
  refine peImp (pe_lst ha) fun σ H Q ⟨ρ, S, mu, hid, he, hg, hf⟩ => ?_
  simp only [evE] at hf
  refine ⟨ρ, S, mu, hid, he, hg, hf.bind.mono (fun ds S1 mu1 H1 _ _ ⟨e1, g1, f1⟩ vs rx => ?_) fun _ _ _ h => h⟩
  split at f1
  · rename_i hl
    refine ⟨by rw [rx.length]; exact Nat.le_trans hl line6, fun p hp => ?_⟩
    obtain ⟨d, S', mu', r, k⟩ := mkL_fin f1 g1 hp rx
    exact k _ r
  · exact f1.elim
theorem mul_lst {x y : D} {ds : List D} (h : binD .mul x y = some (.lst ds)) : ∃ xs k, x = .lst xs ∧ y = .int k ∧ (0 ≤ k ∧ k ≤ 1000 ∧ xs.length ≤ 1000) ∧ ds = (List.replicate k.toNat xs).flatten := by
  cases x <;> cases y <;> simp only [binD, reduceCtorEq] at h
  · cases h
  · split at h <;> cases h
  · split at h
    · cases h
    · split at h <;> cases h
  · split at h
    · cases h; exact ⟨_, _, rfl, rfl, by assumption, rfl⟩
    · cases h
theorem s_rep (K : XOk W G C Wx X) {cl : Bool} (ha : PE X ea (tE W G Wx a)) (hb : PE X eb (tE W G Wx b)) : PE X (.BinOp ea .Mult eb pos) (tE W G Wx (.rep cl a b)) := by
  refine peImp (pe_op op_rep ha hb) fun σ H Q ⟨ρ, S, mu, hid, he, hg, hf⟩ => ?_
  simp only [evE] at hf
  refine ⟨ρ, S, mu, hid, he, hg, hf.bind.mono (fun x S1 mu1 H1 _ _ ⟨e1, g1, f1⟩ v rx => ?_) fun _ _ _ h => h⟩
  refine ⟨ρ, S1, mu1, hid, he.ext e1, g1, f1.bind.mono (fun y S2 mu2 H2 _ _ ⟨e2, g2, f2⟩ w ry => ?_) fun _ _ _ h => h⟩
  have f3 := f2.bind
  obtain ⟨z, e5, f3⟩ := f3.ofO
  obtain ⟨_, _, f4⟩ := f3.here g2
  have rv := (rx.ext e2).view g2
  cases z with
  | lst ds =>
    obtain ⟨vs, k, hx, rfl, hz, rfl⟩ := mul_lst e5
    rw [hx] at rv
    obtain ⟨p, us, e6, h1, r1⟩ := rv
    have l1 := r1.length
    refine ⟨p, k, us, e6, ry, h1, by omega, by omega, ?_, fun q hq => ?_⟩
    · rw [l1, sizeLine_eq]
      exact Nat.le_trans (Nat.mul_le_mul hz.2.2 (show k.toNat ≤ 1000 by omega)) (by decide)
    · obtain ⟨d, S', mu', r, kk⟩ := mkL_fin f4 g2 hq (r1.rep k.toNat)
      exact kk _ r
  | _ => exact f4.elim
end
end Ev
end
section
set_option Elab.async false
set_option linter.all false
set_option maxRecDepth 100000
set_option maxHeartbeats 1000000
namespace Ev
open PySem PySem.Spec PyProof.Rows L2
section
variable {W : Wd} {G : Glb} {C : Ck} {Wx : WX} {X : Cx} {pos : Pos} {ea eb ec : Expr} {a b c es : T} {xs : List Expr} {mu hid : List Addr} {H : Hp} {S : Store}
/-! ### items -/
def notSlice : Expr → Bool
  | .Slice .. => false
  | _ => true
theorem plainIx_of {e : Expr} (h : notSlice e = true) : PlainIx e := by
  intro o i
  cases e <;> first | rfl | (cases h)
theorem atI_rep {ds : List D} {vs : List V} {i : Int} {d : D} (r : RepL W mu hid H ds vs) (h : atI ds i = some d) : ∃ v, atI vs i = some v ∧ Rep W mu hid H d v := by
  unfold atI at h ⊢
  rw [r.length]
  obtain ⟨j, e1, e2⟩ := Option.bind_eq_some_iff.mp h
  obtain ⟨v, h1, h2⟩ := r.get e2
  exact ⟨v, by rw [e1]; exact h1, h2⟩
theorem s_ix (K : XOk W G C Wx X) (ha : PE X ea (tE W G Wx a)) (hb : PE X eb (tE W G Wx b)) (hs : notSlice eb = true) : PE X (.Subscript ea eb pos) (tE W G Wx (.ix a b)) := by
  refine peImp (pe_ix ix_seq ha hb (plainIx_of hs)) fun σ H Q ⟨ρ, S, mu, hid, he, hg, hf⟩ => ?_
  simp only [evE] at hf
  refine ⟨ρ, S, mu, hid, he, hg, hf.bind.mono (fun x S1 mu1 H1 _ _ ⟨e1, g1, f1⟩ v rx => ?_) fun _ _ _ h => h⟩
  refine ⟨ρ, S1, mu1, hid, he.ext e1, g1, f1.bind.mono (fun y S2 mu2 H2 _ _ ⟨e2, g2, f2⟩ w ry => ?_) fun _ _ _ h => h⟩
  obtain ⟨d, e5, f3⟩ := f2.ofO
  have rv := (rx.ext e2).view g2
  generalize view S2 x = x' at e5 rv
  unfold ixD at e5
  split at e5
  · obtain ⟨p, vs, e6, h1, r1⟩ := rv
    obtain ⟨z, h2, r2⟩ := atI_rep r1 e5
    exact .inr (.inl ⟨p, vs, _, z, e6, ry, by rw [K.hK]; exact h1.sq, h2, f3.here g2 z r2⟩)
  · obtain ⟨p, vs, e6, h1, r1⟩ := rv
    obtain ⟨z, h2, r2⟩ := atI_rep r1 e5
    exact .inl ⟨p, vs, _, z, e6, ry, SqL.of h1, h2, f3.here g2 z r2⟩
  · rename_i ns iz _
    obtain ⟨p, e6, h1⟩ := rv
    obtain ⟨i, e7, rfl⟩ := Option.map_eq_some_iff.mp e5
    refine .inl ⟨p, ns.map V.int, iz, .int i, e6, ry, ?_, ?_, f3.here g2 _ rfl⟩
    · rw [K.hK]
      rcases h1 with ⟨h1, _, _⟩ | h1
      · exact .inl h1
      · exact .inr h1
    · unfold atI at e7 ⊢
      rw [List.length_map]
      obtain ⟨j, e1, e2⟩ := Option.bind_eq_some_iff.mp e7
      rw [e1, Option.bind_some, List.getElem?_map, e2]; rfl
  · split at e5
    · rename_i hz
      obtain ⟨c, e7, rfl⟩ := Option.map_eq_some_iff.mp e5
      exact .inr (.inr ⟨_, _, c, rv, ry, Nat.le_trans hz line6, e7, f3.here g2 _ rfl⟩)
    · cases e5
  · cases e5

/-! ### slices -/
def tO (W : Wd) (G : Glb) (Wx : WX) (t : T) : TO := fun σ H Q => ∃ ρ S mu hid, EnvR W mu hid H ρ σ ∧ Good W mu hid S H ∧
  Fin W mu hid H (optInt t (evE G t) ρ S) (fun o S' mu' H' => Q o H') (fun c mu' H' => ∀ dx, Wx (W.cls c) dx σ H')
theorem poImp {e : Option Expr} {t t' : TO} (h : PO X e t) (k : ∀ σ H Q, t' σ H Q → t σ H Q) : PO X e t' := ⟨fun pins s σ H Q I q => h.run pins s σ H Q I (k σ H Q q)⟩
theorem o_none : PO X none (tO W G Wx .nil) := poImp po_none fun σ H Q ⟨ρ, S, mu, hid, he, hg, hf⟩ => (show Fin W mu hid H (.ok none S) _ _ from hf).here hg
theorem o_some (ha : PE X ea (tE W G Wx a)) (hn : a ≠ .nil) : PO X (some ea) (tO W G Wx a) := by
  refine poImp (po_some ha) fun σ H Q ⟨ρ, S, mu, hid, he, hg, hf⟩ => ?_
  have e : optInt a (evE G a) ρ S = (evE G a ρ S).bind fun d S1 => R.ofO ((asInt d).map some) S1 := by
    cases a <;> first | rfl | exact absurd rfl hn
  rw [e] at hf
  refine ⟨ρ, S, mu, hid, he, hg, hf.bind.mono (fun x S1 mu1 H1 _ _ ⟨e1, g1, f1⟩ v rx => ?_) fun _ _ _ h => h⟩
  obtain ⟨d, e5, f3⟩ := f1.ofO
  cases x with
  | int i => simp only [asInt, Option.map_some, Option.some.injEq] at e5; subst e5; exact ⟨i, rx, f3.here g1⟩
  | _ => cases e5
theorem cut_rep {ds : List D} {vs : List V} {lo hi : Option Int} (r : RepL W mu hid H ds vs) : RepL W mu hid H (cutD ds lo hi) (cutV vs lo hi) := by
  unfold cutD cutV
  rw [r.length]
  exact (r.drop _).take _
theorem s_sl (K : XOk W G C Wx X) {lo hi : T} {l h : Option Expr} {p2 : Pos} (ha : PE X ea (tE W G Wx a)) (hl : PO X l (tO W G Wx lo)) (hh : PO X h (tO W G Wx hi)) : PE X (.Subscript ea (.Slice l h none p2) pos) (tE W G Wx (.sl a lo hi)) := by
  refine peImp (pe_slice (sl_tupA.or (sl_list.or sl_str)) ha hl hh) fun σ H Q ⟨ρ, S, mu, hid, he, hg, hf⟩ => ?_
  simp only [evE] at hf
  refine ⟨ρ, S, mu, hid, he, hg, hf.bind.mono (fun x S1 mu1 H1 _ _ ⟨e1, g1, f1⟩ v rx => ?_) fun _ _ _ h => h⟩
  refine ⟨ρ, S1, mu1, hid, he.ext e1, g1, f1.bind.mono (fun lv S2 mu2 H2 _ _ ⟨e2, g2, f2⟩ => ?_) fun _ _ _ h => h⟩
  refine ⟨ρ, S2, mu2, hid, (he.ext e1).ext e2, g2, f2.bind.mono (fun hv S3 mu3 H3 _ _ ⟨e3, g3, f3⟩ => ?_) fun _ _ _ h => h⟩
  have rv := ((rx.ext e2).ext e3).view g3
  generalize view S3 x = x' at f3 rv
  split at f3
  · obtain ⟨p, vs, e6, h1, r1⟩ := rv
    refine .inl ⟨p, vs, e6, by rw [K.hK]; exact h1.sq, fun hw => ?_, fun _ q hq => f3.ok (Ext.same (same_new hq)) (g3.same (same_new hq)) _ (Rep.newT g3 hq (cut_rep r1))⟩
    refine f3.here g3 _ ?_
    rename_i ds
    have hw2 : cutD ds lv hv = ds := by
      unfold cutD
      rw [← r1.length, hw.1, hw.2, List.drop_zero, Nat.sub_zero, r1.length, List.take_length]
    rw [hw2]
    exact ⟨p, vs, rfl, h1, r1⟩
  · obtain ⟨p, vs, e6, h1, r1⟩ := rv
    exact .inr (.inl ⟨p, vs, e6, SqL.of h1, fun q hq => f3.ok (Ext.same (same_new hq)) (g3.same (same_new hq)) _ (Rep.newL g3 hq (cut_rep r1))⟩)
  · split at f3
    · rename_i hz
      exact .inr (.inr ⟨_, rv, Nat.le_trans hz line6, f3.here g3 _ rfl⟩)
    · exact f3.elim
  · exact f3.elim

/-! ### calls -/
theorem s_call (K : XOk W G C Wx X) {f : Nat} {x : Str} {p : Pos} (hf : C.fname f = some x) (hg : glB X.env.scope x = true) (hd : okName x = true) (ha : PA X xs (tA W G Wx es)) (hs : noStar xs = true) (h0 : xs = [] → es = .nil) :
    PE X (.Call (.Name x p) xs [] pos) (tE W G Wx (.call f es)) := by
  obtain ⟨fd, ps, F, hm, hk, hb⟩ := K.fns f x hf
  have hr := K.room.mono (Nat.le_add_right G.lv C.sl)
  refine peImp (t := tCallS (spF W (G.call f)) (WE Wx) (tA W G Wx es)) ?_ fun σ H Q ⟨ρ, S, mu, hid, he, hg, hf⟩ => ?_
  · cases xs with
    | nil =>
      refine ⟨fun pins s σ H Q I h => ?_⟩
      have h2 : spF W (G.call f) [] H Q (WE Wx σ) := by
        have h : tA W G Wx es σ H (fun vs H1 => spF W (G.call f) vs H1 Q (WE Wx σ)) := h
        rw [h0 rfl] at h
        obtain ⟨ρ, S, mu, hid, he, hg, hf⟩ := h
        simp only [evA] at hf
        exact hf.here hg [] rfl
      refine wpAny_Call_Name_kw (ld_glob I (gl_of hg) hm ?_ (okName_of hd).1)
      exact PySem.W.callWith_K0 I.kIn hk (run_fnS (us := []) (vs := []) F hr hb (passAt K.tk σ) I .nil h2)
    | cons e l =>
      simp only [noStar, Bool.and_eq_true, Bool.not_eq_true'] at hs
      exact pe_callS F hr (gl_of hg) hm hk hb (fun σ => passAt K.tk σ) ha (okName_of hd).1 (starEach_cons hs.1) (noStar_any hs.2)
  · simp only [evE] at hf
    refine ⟨ρ, S, mu, hid, he, hg, hf.bind.mono (fun ds S1 mu1 H1 _ _ ⟨e1, g1, f1⟩ vs rx => ?_) fun _ _ _ h => h⟩
    exact ⟨ds, S1, mu1, hid, rx, g1, f1⟩
end
end Ev
end
section
set_option Elab.async false
set_option linter.all false
set_option maxRecDepth 100000
set_option maxHeartbeats 1000000
namespace Ev
open PySem PySem.Spec PyProof.Rows L2
/-! ### sorted -/
section
variable {prog : Program} {w : World} {A : Around} {E : Value → Shared → Prop} {s : Shared}
theorem sorted_seq {l : Addr} {T : String} {o : Obj} {n : Nat} {vs : List Value} {Q : Value → Shared → Prop} {enc : D → PyData} {R : Value → D → Prop} {bs : List D} (hT : T = "list" ∨ T = "tuple") (ho : s.heap.get? l = some o) (hc : o.cls = .type T) (hd : o.data = .seq vs.toArray n)
    (e : PySem.W.EachIs R vs bs) (er : PySem.W.EachIs (fun v b => ∃ as, PySem.Reads s.heap v (enc b) as) vs bs) (hal : PySem.W.AllAlike (bs.map enc)) (hk : PySem.W.Sortable (bs.map enc)) (hL : vs.length ≤ sizeLine) (hu : ∀ b, b ∈ bs → A.units + 2 + (enc b).depth < cLine)
    (h : ∀ (out : List Value) (h' : Heap) (a : Addr) (c : Nat), out.length = bs.length → PySem.W.EachIs R out (bs.mergeSort (PySem.W.dataLe false enc)) → (∀ b o, s.heap.get? b = some o → h'.get? b = some o) → s.heap.get? a = none → (∀ b o, s.heap.get? b = some o → b ≠ a) →
      h'.get? a = some (seqObj "list" out.toArray c) → Q (.ref a) { s with heap := h' }) :
    wpAny (model prog w) A (call (.builtin "sorted") [.ref l]) Q E s := by
  refine PyProof.Rows.call_function_entry_kw kind_sorted plain_sorted entry_sorted (args_sorted1 _) ?_
  unfold Builtin.«sorted»
  refine wpAny_bind (m := checkCount "sorted" 1 1 _) (wpAny_pure ?_)
  refine wpAny_bind (wpAny_collect_seq l hT ho hc hd (fun h1 k1 => ?_) (by rw [List.size_toArray]; exact hL))
  rw [List.toList_toArray]
  refine wpAny_bind (wpAny_newList ?_ hL)
  have hat : (h1.push (seqObj "list" vs.toArray 0)).get? h1.objs.size = some (seqObj "list" vs.toArray 0) := Heap.get?_push_size _ rfl
  have k2 : ∀ b o, s.heap.get? b = some o → (h1.push (seqObj "list" vs.toArray 0)).get? b = some o := fun b o q => Heap.get?_push_of_some _ (k1 b o q)
  have hlt : ∀ b o, s.heap.get? b = some o → b < h1.objs.size := fun b o q => Heap.lt_size (k1 b o q)
  have hnone : s.heap.get? h1.objs.size = none := by
    cases q : s.heap.get? h1.objs.size with
    | none => rfl
    | some o => exact absurd (hlt _ _ q) (Nat.lt_irrefl _)
  show wpAny _ _ _ _ _ { s with heap := h1.push (seqObj "list" vs.toArray 0) }
  refine wpAny_bind (wpAny_holding (wpAny_call_entry_kw slot_list_sort ⟨_, hat, rfl⟩ entry_list_sort ?body (args_list_sort _)))
  case body =>
    show wpAny (model prog w) A.in1.in1 (Builtin.«list.sort» ⟨[.ref h1.objs.size], []⟩) _ _ _
    have er' : PySem.W.EachIs (fun v b => ∃ as, PySem.Reads (PySem.W.sortingHeap (h1.push (seqObj "list" vs.toArray 0)) h1.objs.size vs) v (enc b) as) vs bs :=
      er.mono fun _ _ ⟨as, r⟩ => ⟨as, PyProof.Rows.Reads.keeps (fun b o q => PySem.W.sortingHeap_old (Nat.ne_of_lt (hlt b o q)) (k2 b o q)) r⟩
    refine PySem.W.list_sort_vals (s := { s with heap := h1.push (seqObj "list" vs.toArray 0) }) hat (PySem.W.SortsAt.data (s := { s with heap := PySem.W.sortingHeap (h1.push (seqObj "list" vs.toArray 0)) h1.objs.size vs }) (PySem.W.each_map (R := fun v d => ∃ as, PySem.Reads (PySem.W.sortingHeap (h1.push (seqObj "list" vs.toArray 0)) h1.objs.size vs) v d as) enc er') hal hk (PySem.W.bound_map hu)) hL ?_
    refine ⟨_, rfl, wpAny_pure ⟨_, rfl, ?_⟩⟩
    obtain ⟨c, hc2⟩ := PyProof.Rows.sortedHeap_at (out := (PySem.W.sortVals (PySem.W.dataKind (PySem.W.sortingHeap (h1.push (seqObj "list" vs.toArray 0)) h1.objs.size vs) (bs.map enc)) false vs vs).toArray) hat
    refine h _ _ _ c ?_ (PySem.W.sortVals_data false e er' hal) (fun b o q => ?_) hnone (fun b o q => Nat.ne_of_lt (hlt b o q)) hc2
    · rw [PySem.W.sortVals_length false rfl]; exact e.length
    · rw [PyProof.Rows.sortedHeap_old (Nat.ne_of_lt (hlt b o q)) (Nat.lt_of_lt_of_le (hlt b o q) (by rw [Heap.size_push]; exact Nat.le_succ _))]
      exact k2 b o q
end
/-! the sort, as a function -/
theorem le_trans_of {enc : D → PyData} (a b c : D) (h1 : PySem.W.dataLe false enc a b = true) (h2 : PySem.W.dataLe false enc b c = true) : PySem.W.dataLe false enc a c = true := by
  rw [PySem.W.dataLe_eq] at h1 h2 ⊢
  simp only [cond_false, Bool.not_eq_true'] at h1 h2 ⊢
  cases h : PySem.W.dataLt (enc c) (enc a) with
  | false => rfl
  | true =>
    rcases lex_negTrans _ (PySem.W.keyToks (enc b)) _ h with q | q
    · rw [show PySem.W.dataLt (enc c) (enc b) = true from q] at h2; cases h2
    · rw [show PySem.W.dataLt (enc b) (enc a) = true from q] at h1; cases h1
theorem le_total_of {enc : D → PyData} (a b : D) : (PySem.W.dataLe false enc a b || PySem.W.dataLe false enc b a) = true := by
  rw [PySem.W.dataLe_eq]
  simp only [cond_false]
  cases h1 : PySem.W.dataLt (enc b) (enc a) with
  | false => rfl
  | true =>
    cases h2 : PySem.W.dataLt (enc a) (enc b) with
    | false => rfl
    | true =>
      have h3 : PySem.W.dataLt (enc a) (enc a) = true := lex_trans _ _ _ h2 h1
      rw [show PySem.W.dataLt (enc a) (enc a) = false from lex_irrefl _] at h3
      cases h3
def insBy (le : D → D → Bool) (d : D) : List D → List D
  | [] => [d]
  | e :: es => if le d e then d :: e :: es else e :: insBy le d es
def sortBy (le : D → D → Bool) : List D → List D
  | [] => []
  | d :: ds => insBy le d (sortBy le ds)
theorem insBy_app {le : D → D → Bool} {d : D} : ∀ {l1 l2 : List D}, (∀ b ∈ l1, (!le d b) = true) → (∀ b ∈ l2, le d b = true) → insBy le d (l1 ++ l2) = l1 ++ d :: l2
  | [], [], _, _ => rfl
  | [], e :: es, _, h => by
    show (if le d e then d :: e :: es else e :: insBy le d es) = _
    rw [if_pos (h e List.mem_cons_self)]; rfl
  | e :: l1, l2, h, h2 => by
    have q := h e List.mem_cons_self
    simp only [Bool.not_eq_true'] at q
    show (if le d e then d :: e :: (l1 ++ l2) else e :: insBy le d (l1 ++ l2)) = _
    rw [if_neg (by rw [q]; exact Bool.false_ne_true), insBy_app (fun b hb => h b (List.mem_cons_of_mem _ hb)) h2]; rfl
theorem sortBy_eq {le : D → D → Bool} (ht : ∀ a b c, le a b = true → le b c = true → le a c = true) (hl : ∀ a b, (le a b || le b a) = true) : ∀ ds : List D, ds.mergeSort le = sortBy le ds
  | [] => by simp [sortBy]
  | d :: ds => by
    obtain ⟨l1, l2, e1, e2, e3⟩ := List.mergeSort_cons ht hl d ds
    have e4 : sortBy le (d :: ds) = insBy le d (l1 ++ l2) := by rw [← e2, sortBy_eq ht hl ds]; rfl
    rw [e4, e1, insBy_app e3 ?_]
    intro b hb
    have hs := List.pairwise_mergeSort (le := le) ht hl (d :: ds)
    rw [e1] at hs
    exact (List.pairwise_cons.mp (List.pairwise_append.mp hs).2.1).1 b hb
theorem insBy_congr {le le' : D → D → Bool} {d : D} : ∀ {l : List D}, (∀ b ∈ l, le d b = le' d b) → insBy le d l = insBy le' d l
  | [], _ => rfl
  | e :: es, h => by
    simp only [insBy]
    rw [h e List.mem_cons_self, insBy_congr fun b hb => h b (List.mem_cons_of_mem _ hb)]
theorem mem_insBy {le : D → D → Bool} {d x : D} : ∀ {l : List D}, x ∈ insBy le d l → x = d ∨ x ∈ l
  | [], h => by simpa [insBy] using h
  | e :: es, h => by
    simp only [insBy] at h
    split at h
    · simpa using h
    · rcases List.mem_cons.mp h with h | h
      · exact .inr (by rw [h]; exact List.mem_cons_self)
      · rcases mem_insBy h with h | h
        · exact .inl h
        · exact .inr (List.mem_cons_of_mem _ h)
theorem mem_sortBy {le : D → D → Bool} {x : D} : ∀ {l : List D}, x ∈ sortBy le l → x ∈ l
  | [], h => h
  | d :: ds, h => by
    rcases mem_insBy h with h | h
    · rw [h]; exact List.mem_cons_self
    · exact List.mem_cons_of_mem _ (mem_sortBy h)
theorem sortBy_congr {le le' : D → D → Bool} : ∀ {l : List D}, (∀ a ∈ l, ∀ b ∈ l, le a b = le' a b) → sortBy le l = sortBy le' l
  | [], _ => rfl
  | d :: ds, h => by
    simp only [sortBy]
    rw [sortBy_congr (le' := le') fun a ha b hb => h a (List.mem_cons_of_mem _ ha) b (List.mem_cons_of_mem _ hb)]
    exact insBy_congr fun b hb => h d List.mem_cons_self b (List.mem_cons_of_mem _ (mem_sortBy hb))
theorem ins_eq {d : D} : ∀ {l : List D}, ins d l = insBy (fun a b => !ltB b a) d l
  | [] => rfl
  | e :: es => by
    show (if !ltB e d then d :: e :: es else e :: ins d es) = _
    rw [ins_eq (l := es)]; rfl
theorem isort_eq : ∀ {l : List D}, isort l = sortBy (fun a b => !ltB b a) l
  | [] => rfl
  | d :: ds => by
    show ins d (isort ds) = _
    rw [isort_eq (l := ds), ins_eq]; rfl
theorem okL_mem {k : Nat} : ∀ {ds : List D} {d : D}, okL k ds = true → d ∈ ds → okD k d = true
  | e :: es, d, h, hd => by
    simp only [okL, Bool.and_eq_true] at h
    rcases List.mem_cons.mp hd with e1 | e1
    · rw [e1]; exact h.1
    · exact okL_mem h.2 e1
theorem isort_merge {ds : List D} (h : sortable ds = true) : ds.mergeSort (PySem.W.dataLe false toPy) = isort ds := by
  unfold sortable at h
  simp only [Bool.and_eq_true, List.all_eq_true] at h
  obtain ⟨⟨⟨h1, h2⟩, _⟩, _⟩ := h
  rw [sortBy_eq le_trans_of le_total_of, isort_eq]
  refine sortBy_congr fun a ha b hb => ?_
  rw [PySem.W.dataLe_eq]
  show (!PySem.W.dataLt (toPy b) (toPy a)) = !ltB b a
  rw [ltB_of 15 15 b a (okL_mem h1 hb) (okL_mem h1 ha) (h2 b hb a ha)]
section
variable {W : Wd} {mu hid : List Addr} {H : Hp} {S : Store} {X : Cx} {pins : List (Addr × Obj)} {σ : L2.St} {s : Shared}
theorem each_rep : ∀ {ds : List D} {ws : List V} {its : List Value}, RepL W mu hid H ds ws → Vals ws its → PySem.W.EachIs (fun v d => ∃ x, RelV x v ∧ Rep W mu hid H d x) its ds
  | [], _, _, h, r => by cases h; cases r; exact .nil
  | d :: ds, _, _, ⟨v, vs, e, h1, h2⟩, r => by
    subst e
    cases r with
    | cons r1 r2 => exact .cons ⟨v, r1, h1⟩ (each_rep h2 r2)
theorem rep_each : ∀ {ds : List D} {its : List Value}, PySem.W.EachIs (fun v d => ∃ x, RelV x v ∧ Rep W mu hid H d x) its ds → ∃ ws, RepL W mu hid H ds ws ∧ Vals ws its
  | _, _, .nil => ⟨[], rfl, .nil⟩
  | _, _, .cons ⟨x, r1, r2⟩ t => by
    obtain ⟨ws, h1, h2⟩ := rep_each t
    exact ⟨x :: ws, ⟨x, ws, rfl, r2, h1⟩, .cons r1 h2⟩
theorem each_reads (hK : X.K = W.K) (I : Inv X pins σ H s) : ∀ {ds : List D} {ws : List V} {its : List Value}, okL 15 ds = true → RepL W mu hid H ds ws → Vals ws its → PySem.W.EachIs (fun v b => ∃ as, PySem.Reads s.heap v (toPy b) as) its ds
  | [], _, _, _, h, r => by cases h; cases r; exact .nil
  | d :: ds, _, _, o, ⟨v, vs, e, h1, h2⟩, r => by
    subst e
    simp only [okL, Bool.and_eq_true] at o
    cases r with
    | cons r1 r2 => exact .cons (Dp.reads I (toPy d) v _ (by rw [hK]; exact dp_of 15 d v o.1 h1) r1) (each_reads hK I o.2 h2 r2)
theorem alike_all {ds : List D} (h : (ds.all fun a => ds.all fun b => alkD a b) = true) : PySem.W.AllAlike (ds.map toPy) := by
  simp only [List.all_eq_true] at h
  intro d hd d' hd'
  obtain ⟨b, hb, rfl⟩ := List.mem_map.mp hd
  obtain ⟨b', hb', rfl⟩ := List.mem_map.mp hd'
  exact alk_of b b' (h b hb b' hb')
theorem sortable_all {ds : List D} (h : (ds.all isTup1 || ds.all isPlain) = true) : PySem.W.Sortable (ds.map toPy) := by
  simp only [Bool.or_eq_true, List.all_eq_true] at h
  rcases h with h | h
  · refine .inl fun d hd => ?_
    obtain ⟨b, hb, rfl⟩ := List.mem_map.mp hd
    have := h b hb
    cases b with
    | tup xs =>
      cases xs with
      | nil => cases this
      | cons x xs => exact ⟨toPy x, toPyL xs, by simp only [toPy, toPyL]⟩
    | _ => cases this
  · refine .inr fun d hd => ?_
    obtain ⟨b, hb, rfl⟩ := List.mem_map.mp hd
    have := h b hb
    cases b <;> first | (cases this; done) | (simp [toPy]; done)
theorem run_sorted (hK : X.K = W.K) (hu : X.A.units + 65 < cLine) {l : Addr} {T : String} {o : Obj} {n : Nat} {its : List Value} {ws : List V} {ds : List D} {Q : VK} (hT : T = "list" ∨ T = "tuple") (I : Inv X pins σ H s) (ho : s.heap.get? l = some o) (hc : o.cls = .type T) (hd : o.data = .seq its.toArray n)
    (r : RepL W mu hid H ds ws) (rv : Vals ws its) (g : Good W mu hid S H) (h : sortable ds = true) (k : ∀ H' v, Same H H' → Rep W mu hid H' (.lst (isort ds)) v → Q v H') :
    wpAny (model X.prog X.w) X.A (call (.builtin "sorted") [.ref l]) (EP X pins σ Q) X.xe s := by
  have h' := h
  unfold sortable at h'
  simp only [Bool.and_eq_true, decide_eq_true_eq] at h'
  obtain ⟨⟨⟨o1, o2⟩, o3⟩, o4⟩ := h'
  have hl : its.length = ds.length := by rw [← rv.length, r.length]
  refine sorted_seq (enc := toPy) hT ho hc hd (each_rep r rv) (each_reads hK I o1 r rv) (alike_all o2) (sortable_all o3) (by rw [hl]; exact Nat.le_trans o4 line6) (fun b hb => ?_) fun out h1 a c hlen ho1 k1 hn hne hat => ?_
  · have := depth_of 15 b (okL_mem o1 hb); omega
  · rw [isort_merge h] at ho1
    obtain ⟨zs, q1, q2⟩ := rep_each ho1
    have hHn : H a = none := HOk.gone I.hok hn
    refine ⟨.ref a, upd H a (.lst zs), I.laidN (t' := s.toks) k1 hn hHn ⟨by rw [q2.length, hlen]; exact Nat.le_trans o4 line6, out, c, q2, hat⟩, rfl, k _ _ (same_new hHn) (Rep.newL g hHn q1)⟩
end
end Ev
end
section
set_option Elab.async false
set_option linter.all false
set_option maxRecDepth 100000
set_option maxHeartbeats 1000000
namespace Ev
open PySem PySem.Spec PyProof.Rows L2
def Prim.val : Prim → Value
  | .len => .builtin "len" | .all => .builtin "all" | .any => .builtin "any" | .abs => .builtin "abs" | .int => .type "int" | .bool => .type "bool" | .str => .type "str" | .tuple => .type "tuple" | .list => .type "list"
  | .max => .builtin "max" | .min => .builtin "min" | .sorted => .builtin "sorted" | .rangeL => .type "range"
theorem Prim.boot : ∀ p : Prim, bootBuiltins p.name = some p.val
  | .len => by decide +kernel
  | .all => by decide +kernel
  | .any => by decide +kernel
  | .abs => by decide +kernel
  | .int => by decide +kernel
  | .bool => by decide +kernel
  | .str => by decide +kernel
  | .tuple => by decide +kernel
  | .list => by decide +kernel
  | .max => by decide +kernel
  | .min => by decide +kernel
  | .sorted => by decide +kernel
  | .rangeL => by decide +kernel
theorem Prim.mem : ∀ p : Prim, p.name ∈ bltNames := fun p => by cases p <;> decide +kernel
theorem Prim.ok : ∀ p : Prim, p.name ≠ ("__name__" : Str) ∧ (p.name == ("__debug__" : Str)) = false := fun p => by cases p <;> decide +kernel
section
variable {W : Wd} {G : Glb} {C : Ck} {Wx : WX} {X : Cx} {pos : Pos} {ea eb ec : Expr} {a b c es : T} {xs : List Expr} {mu hid : List Addr} {H : Hp} {S : Store}
def RepVL (W : Wd) (mu hid : List Addr) (H : Hp) : List D → List V → Prop
  | [], xs => xs = []
  | d :: ds, xs => ∃ v vs, xs = v :: vs ∧ RepV W mu hid H d v ∧ RepVL W mu hid H ds vs
theorem RepL.view (g : Good W mu hid S H) : ∀ {ds : List D} {vs : List V}, RepL W mu hid H ds vs → RepVL W mu hid H (ds.map (Ev.view S)) vs
  | [], _, h => h
  | d :: ds, _, ⟨v, vs, e, h1, h2⟩ => ⟨v, vs, e, h1.view g, RepL.view g h2⟩
def rP (W : Wd) (p : Prim) : List V → Hp → VK → Prop := fun xs H Q => ∃ ds S mu hid d, RepVL W mu hid H ds xs ∧ primD p ds = some d ∧ Good W mu hid S H ∧ ∀ H' v, Same H H' → Rep W mu hid H' d v → Q v H'
theorem bools_rep : ∀ {ds : List D} {bs : List Bool} {vs : List V}, bools ds = some bs → RepL W mu hid H ds vs → vs = bs.map V.bl
  | [], bs, vs, h, r => by simp only [bools, Option.some.injEq] at h; subst h; exact r
  | .bl b :: ds, bs, vs, h, ⟨v, vs', e, h1, h2⟩ => by
    simp only [bools] at h
    obtain ⟨bs', h', rfl⟩ := Option.map_eq_some_iff.mp h
    rw [e, show v = V.bl b from h1, bools_rep h' h2]; rfl
  | .non :: _, _, _, h, _ => by simp [bools] at h
  | .int _ :: _, _, _, h, _ => by simp [bools] at h
  | .str _ :: _, _, _, h, _ => by simp [bools] at h
  | .tup _ :: _, _, _, h, _ => by simp [bools] at h
  | .lst _ :: _, _, _, h, _ => by simp [bools] at h
  | .cel _ :: _, _, _, h, _ => by simp [bools] at h
  | .fn _ :: _, _, _, h, _ => by simp [bools] at h
  | .scr _ :: _, _, _, h, _ => by simp [bools] at h
theorem ints_rep : ∀ {ds : List D} {is : List Int} {vs : List V}, intsOf ds = some is → RepL W mu hid H ds vs → vs = is.map V.int
  | [], bs, vs, h, r => by simp only [intsOf, Option.some.injEq] at h; subst h; exact r
  | .int b :: ds, bs, vs, h, ⟨v, vs', e, h1, h2⟩ => by
    simp only [intsOf] at h
    obtain ⟨bs', h', rfl⟩ := Option.map_eq_some_iff.mp h
    rw [e, show v = V.int b from h1, ints_rep h' h2]; rfl
  | .non :: _, _, _, h, _ => by simp [intsOf] at h
  | .bl _ :: _, _, _, h, _ => by simp [intsOf] at h
  | .str _ :: _, _, _, h, _ => by simp [intsOf] at h
  | .tup _ :: _, _, _, h, _ => by simp [intsOf] at h
  | .lst _ :: _, _, _, h, _ => by simp [intsOf] at h
  | .cel _ :: _, _, _, h, _ => by simp [intsOf] at h
  | .fn _ :: _, _, _, h, _ => by simp [intsOf] at h
  | .scr _ :: _, _, _, h, _ => by simp [intsOf] at h
theorem maxL_spec : ∀ (is : List Int) (i : Int), (maxL i is = i ∨ maxL i is ∈ is) ∧ i ≤ maxL i is ∧ ∀ y ∈ is, y ≤ maxL i is
  | [], i => by simp [maxL]
  | j :: is, i => by
    simp only [maxL]
    have hm : i ≤ (if j > i then j else i) ∧ j ≤ (if j > i then j else i) ∧ ((if j > i then j else i) = i ∨ (if j > i then j else i) = j) := by split <;> omega
    generalize (if j > i then j else i) = m at hm ⊢
    obtain ⟨h1, h2, h3⟩ := maxL_spec is m
    refine ⟨?_, by omega, ?_⟩
    · rcases h1 with h | h
      · rw [h]
        rcases hm.2.2 with q | q
        · exact .inl q
        · exact .inr (by rw [q]; exact List.mem_cons_self)
      · exact .inr (List.mem_cons_of_mem _ h)
    · intro y hy
      rcases List.mem_cons.mp hy with rfl | hy
      · omega
      · exact h3 y hy
theorem minL_spec : ∀ (is : List Int) (i : Int), (minL i is = i ∨ minL i is ∈ is) ∧ minL i is ≤ i ∧ ∀ y ∈ is, minL i is ≤ y
  | [], i => by simp [minL]
  | j :: is, i => by
    simp only [minL]
    have hm : (if j < i then j else i) ≤ i ∧ (if j < i then j else i) ≤ j ∧ ((if j < i then j else i) = i ∨ (if j < i then j else i) = j) := by split <;> omega
    generalize (if j < i then j else i) = m at hm ⊢
    obtain ⟨h1, h2, h3⟩ := minL_spec is m
    refine ⟨?_, by omega, ?_⟩
    · rcases h1 with h | h
      · rw [h]
        rcases hm.2.2 with q | q
        · exact .inl q
        · exact .inr (by rw [q]; exact List.mem_cons_self)
      · exact .inr (List.mem_cons_of_mem _ h)
    · intro y hy
      rcases List.mem_cons.mp hy with rfl | hy
      · omega
      · exact h3 y hy
theorem max_only {is : List Int} {i m : Int} (h : m ∈ i :: is) (h2 : ∀ y, y ∈ i :: is → y ≤ m) : m = maxL i is := by
  obtain ⟨a, b, c⟩ := maxL_spec is i
  have h3 : m ≤ maxL i is := by
    rcases List.mem_cons.mp h with e | e
    · rw [e]; exact b
    · exact c m e
  have h4 : maxL i is ≤ m := h2 _ (by rcases a with e | e; rw [e]; exact List.mem_cons_self; exact List.mem_cons_of_mem _ e)
  omega
theorem min_only {is : List Int} {i m : Int} (h : m ∈ i :: is) (h2 : ∀ y, y ∈ i :: is → m ≤ y) : m = minL i is := by
  obtain ⟨a, b, c⟩ := minL_spec is i
  have h3 : minL i is ≤ m := by
    rcases List.mem_cons.mp h with e | e
    · rw [e]; exact b
    · exact c m e
  have h4 : m ≤ minL i is := h2 _ (by rcases a with e | e; rw [e]; exact List.mem_cons_self; exact List.mem_cons_of_mem _ e)
  omega
theorem scr_sq {K : PySem.W.Frag} {p : Addr} {vs : List V} (h : ScrAt K mu hid H p vs) : SqL K H p vs := by
  rcases h with ⟨h, _, _⟩ | h
  · exact .inl h
  · exact .inr h
theorem ints_ok : ∀ {ds : List D} {is : List Int}, intsOf ds = some is → okL 1 ds = true ∧ toPyL ds = is.map PyData.int
  | [], is, h => by simp only [intsOf, Option.some.injEq] at h; subst h; exact ⟨rfl, rfl⟩
  | .int i :: ds, is, h => by
    simp only [intsOf] at h
    obtain ⟨is', h', rfl⟩ := Option.map_eq_some_iff.mp h
    obtain ⟨h1, h2⟩ := ints_ok h'
    exact ⟨by simp only [okL, okD, Bool.true_and]; exact h1, by simp only [toPyL, toPy, h2, List.map_cons]⟩
  | .non :: _, _, h => by simp [intsOf] at h
  | .bl _ :: _, _, h => by simp [intsOf] at h
  | .str _ :: _, _, h => by simp [intsOf] at h
  | .tup _ :: _, _, h => by simp [intsOf] at h
  | .lst _ :: _, _, h => by simp [intsOf] at h
  | .cel _ :: _, _, h => by simp [intsOf] at h
  | .fn _ :: _, _, h => by simp [intsOf] at h
  | .scr _ :: _, _, h => by simp [intsOf] at h
theorem maxL_fold : ∀ (is : List Int) (i : Int), is.foldl max i = maxL i is
  | [], _ => rfl
  | j :: is, i => by
    rw [List.foldl_cons, maxL_fold is, maxL]
    congr 1
    split <;> omega
theorem run_maxT (hK : X.K = W.K) (hc : X.calm = true) (hu : X.A.units + 65 < cLine) {pins : List (Addr × Obj)} {σ : L2.St} {s : Shared} {p : Addr} {ws : List V} {ds : List D} {i : Int} {is : List Int} {Q : VK} (I : Inv X pins σ H s) (h1 : TupAt W.K mu hid H p ws) (r : RepL W mu hid H ds ws) (hi : intsOf ds = some (i :: is)) (k : Q (.int (maxL i is)) H) :
    wpAny (model X.prog X.w) X.A (call (.builtin "max") [.ref p]) (EP X pins σ Q) X.xe s := by
  obtain ⟨o1, o2⟩ := ints_ok hi
  obtain ⟨its, rv, ht, _⟩ := I.tuple (show SqT X.K H p ws by rw [hK]; exact h1.sq)
  obtain ⟨as, hr⟩ := Dp.readsAll I (toPyL ds) ws its (by rw [hK]; exact dpL_of 1 ds ws o1 r) rv
  rw [o2] at hr
  refine PySem.W.max_tuple_data (x := .int i) (xs := is.map .int) (I.ok.hd hc) ht (by simpa using hr) ⟨?_, ?_⟩ ?_ fun j v h' tk bs hv hrd hk => ?_
  · intro x hx y hy
    obtain ⟨a, _, rfl⟩ := List.mem_map.mp (show x ∈ (i :: is).map PyData.int from hx)
    obtain ⟨b, _, rfl⟩ := List.mem_map.mp (show y ∈ (i :: is).map PyData.int from hy)
    simp [PySem.W.alike]
  · intro x hx
    obtain ⟨a, _, rfl⟩ := List.mem_map.mp (show x ∈ (i :: is).map PyData.int from hx)
    exact fun z => by cases z
  · have : PyData.depthAll ((i :: is).map PyData.int) = 0 := PySem.W.depth_ints _
    rw [show (PyData.int i :: is.map PyData.int) = (i :: is).map PyData.int from rfl, this]; omega
  · rw [PySem.W.maxD_ints, maxL_fold] at hrd
    cases hrd
    exact ⟨.int _, H, I.kept hk, ⟨_, rfl⟩, k⟩
theorem op_prim (hK : X.K = W.K) (hc : X.calm = true) (hu : X.A.units + 65 < cLine) (p : Prim) : CallR X p.val (rP W p) := by
  intro pins s σ H xs us Q I rs h
  obtain ⟨ds, S, mu, hid, d, hv, hp, g, k⟩ := h
  unfold primD at hp
  split at hp
  · rename_i d0
    obtain ⟨v, vs, rfl, r1, rfl⟩ := hv
    obtain ⟨n, hn, rfl⟩ := Option.map_eq_some_iff.mp hp
    unfold lenD at hn
    split at hn
    · cases hn
      obtain ⟨p, ws, rfl, h1, r⟩ := r1
      exact call_len_seq pins s σ H _ us Q I rs ⟨p, ws, rfl, .inr (by rw [hK]; exact h1.sq), by rw [r.length]; exact k _ _ (Same.refl H) rfl⟩
    · cases hn
      obtain ⟨p, ws, rfl, h1, r⟩ := r1
      exact call_len_seq pins s σ H _ us Q I rs ⟨p, ws, rfl, .inl (SqL.of h1), by rw [r.length]; exact k _ _ (Same.refl H) rfl⟩
    · cases hn
      obtain ⟨p, rfl, h1⟩ := r1
      exact call_len_seq pins s σ H _ us Q I rs ⟨p, _, rfl, .inl (by rw [hK]; exact scr_sq h1), by rw [List.length_map]; exact k _ _ (Same.refl H) rfl⟩
    · split at hn
      · rename_i hz
        cases hn
        rw [show v = _ from r1] at rs
        exact call_len_str pins s σ H _ us Q I rs ⟨_, rfl, Nat.le_trans hz line6, k _ _ (Same.refl H) rfl⟩
      · cases hn
    · cases hn
  · obtain ⟨v, vs, rfl, ⟨p, ws, rfl, h1, r⟩, rfl⟩ := hv
    obtain ⟨bs, hb, rfl⟩ := Option.map_eq_some_iff.mp hp
    have e := bools_rep hb r
    subst e
    exact cr_all hc pins s σ H _ us Q I rs ⟨p, bs, rfl, SqL.of h1, k _ _ (Same.refl H) rfl⟩
  · obtain ⟨v, vs, rfl, ⟨p, ws, rfl, h1, r⟩, rfl⟩ := hv
    obtain ⟨bs, hb, rfl⟩ := Option.map_eq_some_iff.mp hp
    have e := bools_rep hb r
    subst e
    exact cr_any hc pins s σ H _ us Q I rs ⟨p, bs, rfl, SqL.of h1, k _ _ (Same.refl H) rfl⟩
  · cases hp
    obtain ⟨v, vs, rfl, r1, rfl⟩ := hv
    rw [show v = _ from r1] at rs
    exact call_abs pins s σ H _ us Q I rs ⟨_, rfl, k _ _ (Same.refl H) rfl⟩
  · cases hp
    obtain ⟨v, vs, rfl, r1, rfl⟩ := hv
    rw [show v = _ from r1] at rs
    exact call_int1 pins s σ H _ us Q I rs (.inl ⟨_, rfl, k _ _ (Same.refl H) rfl⟩)
  · cases hp
    obtain ⟨v, vs, rfl, r1, rfl⟩ := hv
    rw [show v = _ from r1] at rs
    exact call_int1 pins s σ H _ us Q I rs (.inr ⟨_, rfl, k _ _ (Same.refl H) rfl⟩)
  · cases hp
    obtain ⟨v, vs, rfl, r1, rfl⟩ := hv
    rw [show v = _ from r1] at rs
    exact call_bool1 pins s σ H _ us Q I rs (.inl ⟨_, rfl, k _ _ (Same.refl H) rfl⟩)
  · cases hp
    obtain ⟨v, vs, rfl, r1, rfl⟩ := hv
    rw [show v = _ from r1] at rs
    exact call_bool1 pins s σ H _ us Q I rs (.inr ⟨_, rfl, k _ _ (Same.refl H) rfl⟩)
  · cases hp
    obtain ⟨v, vs, rfl, ⟨p, ws, rfl, h1, r⟩, rfl⟩ := hv
    exact call_tuple_of pins s σ H _ us Q I rs ⟨p, ws, rfl, .inl ⟨SqL.of h1, fun l hl => k _ _ (same_new hl) (Rep.newT g hl r)⟩⟩
  · cases hp
    obtain ⟨v, vs, rfl, ⟨p, ws, rfl, h1, r⟩, rfl⟩ := hv
    exact call_tuple_of pins s σ H _ us Q I rs ⟨p, ws, rfl, .inr ⟨by rw [hK]; exact h1.sq, k _ _ (Same.refl H) ⟨p, ws, rfl, h1, r⟩⟩⟩
  · cases hp
    obtain ⟨v, vs, rfl, ⟨p, ws, rfl, h1, r⟩, rfl⟩ := hv
    exact call_list_of pins s σ H _ us Q I rs ⟨p, ws, rfl, .inl (SqL.of h1), fun l hl => k _ _ (same_new hl) (Rep.newL g hl r)⟩
  · cases hp
    obtain ⟨v, vs, rfl, ⟨p, ws, rfl, h1, r⟩, rfl⟩ := hv
    exact call_list_of pins s σ H _ us Q I rs ⟨p, ws, rfl, .inr (by rw [hK]; exact h1.sq), fun l hl => k _ _ (same_new hl) (Rep.newL g hl r)⟩
  · split at hp
    · rename_i hi
      cases hp
      obtain ⟨v, vs, rfl, ⟨p, ws, rfl, h1, r⟩, rfl⟩ := hv
      have e := ints_rep hi r
      subst e
      exact cr_max hc pins s σ H _ us Q I rs ⟨p, _, rfl, SqL.of h1, by simp, fun m hm hy => k _ _ (Same.refl H) (by rw [max_only hm hy]; rfl)⟩
    · cases hp
  · split at hp
    · rename_i hi
      cases hp
      obtain ⟨v, vs, rfl, ⟨p, ws, rfl, h1, r⟩, rfl⟩ := hv
      have e := ints_rep hi r
      subst e
      exact cr_min hc pins s σ H _ us Q I rs ⟨p, _, rfl, SqL.of h1, by simp, fun m hm hy => k _ _ (Same.refl H) (by rw [min_only hm hy]; rfl)⟩
    · cases hp
  · split at hp
    · rename_i hi
      cases hp
      obtain ⟨v, vs, rfl, ⟨p, ws, rfl, h1, r⟩, rfl⟩ := hv
      rw [Vals.ref1 rs]
      exact run_maxT hK hc hu I h1 r hi (k _ _ (Same.refl H) rfl)
    · cases hp
  · split at hp
    · rename_i hz
      cases hp
      obtain ⟨v, vs, rfl, ⟨p, ws, rfl, h1, r⟩, rfl⟩ := hv
      rw [Vals.ref1 rs]
      obtain ⟨its, rv, ⟨o, n, ho, hcl, hdc, hd⟩, _⟩ := I.list (SqL.of h1)
      exact run_sorted hK hu (.inl rfl) I ho hcl hd r rv g hz k
    · cases hp
  · split at hp
    · rename_i hz
      cases hp
      obtain ⟨v, vs, rfl, ⟨p, ws, rfl, h1, r⟩, rfl⟩ := hv
      rw [Vals.ref1 rs]
      obtain ⟨its, rv, ⟨o, ho, hcl, n, hd⟩, _⟩ := I.tuple (show SqT X.K H p ws by rw [hK]; exact h1.sq)
      exact run_sorted hK hu (.inr rfl) I ho hcl hd r rv g hz k
    · cases hp
  · split at hp
    · rename_i hz
      cases hp
      obtain ⟨v, vs, rfl, r1, rfl⟩ := hv
      rw [show v = _ from r1] at rs
      exact call_str_int pins s σ H _ us Q I rs ⟨_, rfl, hz, k _ _ (Same.refl H) rfl⟩
    · cases hp
  · cases hp
    obtain ⟨v, vs, rfl, r1, rfl⟩ := hv
    rw [show v = _ from r1] at rs
    exact SkE.call_str_str pins s σ H _ us Q I rs ⟨_, rfl, k _ _ (Same.refl H) rfl⟩
  · split at hp
    · rename_i hz
      obtain ⟨n, hn, rfl⟩ := Option.map_eq_some_iff.mp hp
      obtain ⟨v, vs, rfl, r1, rfl⟩ := hv
      rw [show v = _ from r1] at rs
      exact call_int_str pins s σ H _ us Q I rs ⟨_, n, rfl, hn, hz, k _ _ (Same.refl H) rfl⟩
    · cases hp
  · cases hp
    obtain ⟨v, vs, rfl, r1, w, ws, rfl, r2, rfl⟩ := hv
    rw [show v = _ from r1, show w = _ from r2] at rs
    exact call_max2 hc pins s σ H _ us Q I rs ⟨_, _, rfl, k _ _ (Same.refl H) rfl⟩
  · cases hp
    obtain ⟨v, vs, rfl, r1, w, ws, rfl, r2, rfl⟩ := hv
    rw [show v = _ from r1, show w = _ from r2] at rs
    exact call_min2 hc pins s σ H _ us Q I rs ⟨_, _, rfl, k _ _ (Same.refl H) rfl⟩
  · cases hp
theorem s_prim (K : XOk W G C Wx X) {p : Prim} {q : Pos} (hg : glB X.env.scope p.name = true) (ha : PA X (ea :: xs) (tA W G Wx es)) (hs : noStar (ea :: xs) = true) :
    PE X (.Call (.Name p.name q) (ea :: xs) [] pos) (tE W G Wx (.prim p es)) := by
  simp only [noStar, Bool.and_eq_true, Bool.not_eq_true'] at hs
  have hm := K.blt _ p.mem
  refine peImp (t := tCB (rP W p) (tA W G Wx es)) ?_ fun σ H Q ⟨ρ, S, mu, hid, he, hg, hf⟩ => ?_
  · have h := op_prim (W := W) K.hK K.calm (by have := K.room.un; omega) p
    have hb := p.boot
    cases p <;> first
      | exact pe_callB h (gl_of hg) hm hb ha (Prim.ok _).1 (Prim.ok _).2 (starEach_cons hs.1) (noStar_any hs.2)
      | exact pe_callTy h (gl_of hg) hm hb ha (Prim.ok _).1 (Prim.ok _).2 (starEach_cons hs.1) (noStar_any hs.2)
  · simp only [evE] at hf
    refine ⟨ρ, S, mu, hid, he, hg, hf.bind.mono (fun ds S1 mu1 H1 _ _ ⟨e1, g1, f1⟩ vs rx => ?_) fun _ _ _ h => h⟩
    obtain ⟨d, e5, f3⟩ := f1.ofO
    exact ⟨_, S1, mu1, hid, d, rx.view g1, e5, g1, fun H' v sm r => f3.ok (Ext.same sm) (g1.same sm) v r⟩

/-! ### isinstance -/
def Ty.name : Ty → String
  | .int => "int" | .bool => "bool" | .str => "str" | .tuple => "tuple" | .list => "list"
def Ty.nm (t : Ty) : Str := Str.ofString t.name
theorem Ty.boot : ∀ t : Ty, bootBuiltins t.nm = some (.type t.name) := fun t => by cases t <;> decide +kernel
theorem Ty.mem : ∀ t : Ty, t.nm ∈ bltNames := fun t => by cases t <;> decide +kernel
theorem Ty.ok : ∀ t : Ty, t.nm ≠ ("__name__" : Str) ∧ (t.nm == ("__debug__" : Str)) = false := fun t => by cases t <;> decide +kernel
def tyOf : D → String
  | .non => "NoneType" | .bl _ => "bool" | .int _ => "int" | .str _ => "str" | .tup _ => "tuple" | .lst _ => "list" | .scr _ => "list" | _ => "dict"
def plainTy : D → Bool
  | .cel _ => false | .fn _ => false | .scr _ => false | _ => true
theorem kit_isTy : ∀ (t : Ty) (d : D), plainTy d = true → kitB (tyOf d) t.name = some (isTy t d) := by
  intro t d h
  cases d <;> cases t <;> first | (cases h; done) | (simp only [tyOf, Ty.name, isTy]; decide +kernel)
theorem tyx_of (hK : X.K = W.K) {d : D} {v : V} (h : RepV W mu hid H d v) (hd : plainTy d = true) : TyX X.K H v (.type (tyOf d)) := by
  cases d with
  | non => rw [show v = _ from h]; exact .base .non
  | bl _ => rw [show v = _ from h]; exact .base (.bl _)
  | int _ => rw [show v = _ from h]; exact .base (.int _)
  | str _ => rw [show v = _ from h]; exact .base (.str _)
  | tup _ =>
    obtain ⟨p, ws, rfl, h1, r⟩ := h
    rcases h1 with ⟨h1, _, _⟩ | h1
    · exact .base (.tup h1)
    · exact h1.1.elim
  | lst _ => obtain ⟨p, ws, rfl, h1, r⟩ := h; exact .base (.lst h1)
  | cel _ => cases hd
  | fn _ => cases hd
  | scr _ => cases hd
theorem s_isi (K : XOk W G C Wx X) {t : Ty} {q q2 : Pos} (hg : glB X.env.scope "isinstance" = true) (hg2 : glB X.env.scope t.nm = true) (ha : PE X ea (tE W G Wx a)) (hs : starred ea = false) :
    PE X (.Call (.Name "isinstance" q) [ea, .Name t.nm q2] [] pos) (tE W G Wx (.isi t a)) := by
  have h2 : PE X (.Name t.nm q2) (tC (.ty t.name)) := pe_bltn (gl_of hg2) (K.blt _ t.mem) t.boot rfl t.ok.1 t.ok.2
  have hA := pa_cons ha (pa_cons h2 pa_nil) (starEach_cons hs)
  refine peImp (pe_callB call_isi (gl_of hg) (K.blt _ (by decide +kernel)) PyProof.Rows.boot_isinstance hA (by decide) (by decide) (starEach_cons hs) (noStar_any rfl)) fun σ H Q ⟨ρ, S, mu, hid, he, hg, hf⟩ => ?_
  simp only [evE] at hf
  refine ⟨ρ, S, mu, hid, he, hg, hf.bind.mono (fun x S1 mu1 H1 _ _ ⟨e1, g1, f1⟩ v rx => ?_) fun _ _ _ h => h⟩
  have rv := rx.view g1
  generalize Ev.view S1 x = y at f1 rv
  have fin : plainTy y = true → Fin W mu1 hid H1 (.ok (.bl (isTy t y)) S1) (fun d S' mu' H' => ∀ v, Rep W mu' hid H' d v → Q v H') (fun c mu' H' => ∀ dx, Wx (W.cls c) dx σ H') := fun hp => by
    cases y <;> first | exact f1 | cases hp
  have hp : plainTy y = true := by cases y <;> first | rfl | exact f1.elim
  exact ⟨v, .ty t.name, .type (tyOf y), .type t.name, isTy t y, rfl, .ty _, tyx_of K.hK rv hp, kit_ty (kit_isTy t y hp), (fin hp).here g1 _ rfl⟩
end
end Ev
end
section
set_option Elab.async false
set_option linter.all false
set_option maxRecDepth 100000
set_option maxHeartbeats 1000000
namespace Ev
open PySem PySem.Spec PyProof.Rows L2
section
variable {prog : Program} {w : World} {A : Around} {E : Value → Shared → Prop} {s : Shared}
theorem sliceApplied_rev {sl : Addr} {vl vu vs : Value} {n : Nat} {Q : Int × Int × Nat → Shared → Prop} (hs : s.heap.IsSliceOf sl vl vu vs) (pl : IsPart vl none) (pu : IsPart vu none) (ps : IsPart vs (some (-1)))
    (h : Q ((n : Int) - 1, -1, n) s) : wpAny (model prog w) A (Builtin.Slice.sliceApplied (.ref sl) (pure (n : Int))) Q E s := by
  obtain ⟨os, hos, hcs, hds⟩ := id hs
  unfold Builtin.Slice.sliceApplied Builtin.Slice.sliceFields
  refine wpAny_bind (wpAny_bind (wpAny_field hos hds (x := vl) rfl (wpAny_bind (wpAny_field hos hds (x := vu) rfl (wpAny_bind (wpAny_field hos hds (x := vs) rfl (wpAny_pure ?_)))))))
  refine wpAny_bind (HT.slicePart_ ps ?_)
  show wpAny _ _ (if ((-1 : Int) == 0) = true then _ else _) _ _ s
  rw [if_neg (by decide)]
  refine wpAny_bind (HT.slicePart_ pl (wpAny_bind (HT.slicePart_ pu (wpAny_bind (wpAny_pure ?_)))))
  show wpAny _ _ (match Builtin.Slice.sliceAdjust none none (-1) (n : Int) with | (lo, hi) => pure (lo, (-1 : Int), Builtin.Slice.slicePlaces lo hi (-1))) _ _ s
  have e1 : Builtin.Slice.sliceAdjust none none (-1) (n : Int) = ((n : Int) - 1, -1) := by
    unfold Builtin.Slice.sliceAdjust
    simp
  rw [e1]
  show wpAny _ _ (pure ((n : Int) - 1, (-1 : Int), Builtin.Slice.slicePlaces ((n : Int) - 1) (-1) (-1))) _ _ s
  have e2 : Builtin.Slice.slicePlaces ((n : Int) - 1) (-1) (-1) = n := by
    unfold Builtin.Slice.slicePlaces
    have h1 : ¬ ((-1 : Int) > 0) := by decide
    rw [if_neg h1]
    by_cases h : (n : Int) - 1 > -1
    · rw [if_pos h, show (- -1 : Int) = 1 by decide, Int.ediv_one]; omega
    · rw [if_neg h]; omega
  rw [e2]
  exact wpAny_pure h
theorem pick_rev (xs : Array Value) : ((List.range xs.size).filterMap fun (m : Nat) => xs[(((xs.size : Int) - 1) + (m : Int) * (-1)).toNat]?).toArray = xs.toList.reverse.toArray := by
  have e : (fun (m : Nat) => xs[(((xs.size : Int) - 1) + (m : Int) * (-1)).toNat]?) = fun m => xs[xs.size - 1 - m]? := by
    funext m
    have : (((xs.size : Int) - 1) + (m : Int) * (-1)).toNat = xs.size - 1 - m := by omega
    rw [this]
  rw [e]
  have h2 : (List.range xs.size).filterMap (fun m => xs[xs.size - 1 - m]?) = ((List.range xs.size).map fun k => xs.size - 1 - k).filterMap (xs[·]?) := by rw [List.filterMap_map]; rfl
  rw [h2, PySem.W.krv_range, List.filterMap_reverse, PySem.W.krv_all]
theorem getItem_tuple_rev {t sl : Addr} {items : Array Value} {vl vu vs : Value} {Q : Value → Shared → Prop} (ht : IsTup s.heap t items) (hs : s.heap.IsSliceOf sl vl vu vs) (pl : IsPart vl none) (pu : IsPart vu none) (ps : IsPart vs (some (-1)))
    (h : Q (.ref s.heap.objs.size) { s with heap := s.heap.push { cls := .type "tuple", data := .seq items.toList.reverse.toArray } })
    (hsz : items.size ≤ sizeLine) : wpAny (model prog w) A (getItem (.ref t) (.ref sl)) Q E s := by
  have htake : sizeOk (.seq items.toList.reverse.toArray) := by
    show items.toList.reverse.toArray.size ≤ sizeLine
    rw [List.size_toArray, List.length_reverse, Array.length_toList]
    exact hsz
  obtain ⟨os, hos, hcs, hds⟩ := id hs
  have hTs : s.TypeIs (.ref sl) "slice" := ⟨os, hos, hcs⟩
  unfold getItem
  try with_reducible refine wpAny_holding ?_
  first | refine wpAny_bind (wpAny_pure ?_) | skip
  refine wpAny_bind (wpAny_sequenceKey ht.typeIs (by decide) ?_)
  refine wpAny_bind (wpAny_callSpecial?_slot (name := Str.ofString "__getitem__") ht.typeIs PyProof.Rows.slot_tuple_getitem
    (wpAny_call_entry PyProof.Rows.slot_tuple_getitem ht.typeIs entry_tuple_getitem ?_ (args_tuple_getitem _ _)))
  show wpAny _ _ (Builtin.Tuple.tupleItemsOf (.ref t) >>= _) _ _ s
  refine wpAny_bind (tupleItemsOf_ ht ?_)
  refine wpAny_bind (wpAny_typeOf hTs ?_)
  rw [if_pos (by decide)]
  refine wpAny_bind (sliceApplied_rev hs pl pu ps ?_)
  have hno : ¬ ((((items.size : Int) - 1 == 0 && (-1 : Int) == 1 && items.size == items.size)) = true) := by
    intro q
    rw [Bool.and_eq_true, Bool.and_eq_true] at q
    exact absurd q.1.2 (by decide)
  show wpAny _ _ (if ((items.size : Int) - 1 == 0 && (-1 : Int) == 1 && items.size == items.size) = true then _ else _) _ _ s
  rw [if_neg hno, pick_rev]
  first
    | exact wpAny_bind (m := Builtin.Tuple.tupleExact _) (wpAny_newObj_type (wpAny_pure ⟨_, rfl, wpAny_pure h⟩) htake)
    | exact wpAny_bind (m := Builtin.Tuple.tupleExact _) (wpAny_newObj_type (wpAny_bind (wpAny_pure (wpAny_pure ⟨_, rfl, wpAny_pure h⟩))) htake)
    | exact wpAny_bind (wpAny_bind (m := Builtin.Tuple.tupleExact _) (wpAny_newObj_type (wpAny_pure (wpAny_pure ⟨_, rfl, wpAny_pure h⟩)) htake))
    | exact wpAny_bind (wpAny_bind (m := Builtin.Tuple.tupleExact _) (wpAny_newObj_type (wpAny_pure ⟨_, rfl, wpAny_pure h⟩) htake))
end
section
variable {W : Wd} {G : Glb} {C : Ck} {Wx : WX} {X : Cx} {pos : Pos} {ea : Expr} {a : Ev.T}
/-- t[::-1] of a tuple -/
def tRevT (K : PySem.W.Frag) (te : TE) : TE := fun σ H Q => te σ H fun x H1 => ∃ a xs, x = .ref a ∧ SqT K H1 a xs ∧ ∀ p, H1 p = none → Q (.ref p) (upd H1 p (.tup xs.reverse))
theorem pe_revT {e : Expr} {te : TE} {k : Nat} {p1 p2 p3 pos : Pos} (he : PE X e te) : PE X (.Subscript e (.Slice none none (some (.UnaryOp .USub (.Constant (.int 1) k p1) p2)) p3) pos) (tRevT X.K te) := by
  refine ⟨fun pins s σ H Q I h => ?_⟩
  refine Subscript_ (thn (he.run pins s σ H _ I h) fun v s1 ⟨x, H1, I1, r1, q1⟩ => ?_)
  obtain ⟨a, xs, ex, hx, q⟩ := q1
  subst ex
  cases r1
  have hst : PO X (some (.UnaryOp .USub (.Constant (.int 1) k p1) p2)) (tPart (tUn (rU fun i => .int (-i)) (tC (.int 1)))) := po_some (pe_un un_neg pe_int)
  refine wpAny_Slice (thn (po_none.run pins s1 σ H1 (fun o H2 => o = none ∧ H2 = H1) I1 ⟨rfl, rfl⟩) fun vl s2 ⟨l, H2, I2, pl, el, e2⟩ => ?_)
  subst el e2
  refine thn (po_none.run pins s2 σ H2 (fun o H3 => o = none ∧ H3 = H2) I2 ⟨rfl, rfl⟩) fun vu s3 ⟨u, H3, I3, pu, eu, e3⟩ => ?_
  subst eu e3
  refine thn (hst.run pins s3 σ H3 (fun o H4 => o = some (-1) ∧ H4 = H3) I3 ⟨1, rfl, -1, rfl, rfl, rfl⟩) fun vs s4 ⟨o, H4, I4, ps, eo, e4⟩ => ?_
  subst eo e4
  have I5 : Inv X pins σ H4 { s4 with heap := s4.heap.push { cls := .type "slice", data := .fields #[vl, vu, vs] } } := I4.kept (t' := s4.toks) fun b ob q => Heap.get?_push_of_some _ q
  obtain ⟨its, r, ht, hz⟩ := I5.tuple hx
  have hlen := r.length
  show wpAny (model X.prog X.w) X.A (subscriptTail e (.Slice none none (some (.UnaryOp .USub (.Constant (.int 1) k p1) p2)) p3) (.ref a) (.ref s4.heap.objs.size)) (EP X pins σ Q) X.xe { s4 with heap := s4.heap.push { cls := .type "slice", data := .fields #[vl, vu, vs] } }
  refine tail_any (ops := [.ref a, .ref s4.heap.objs.size]) ht.typeIs (PyProof.Rows.slot_tuple_getitem.lookup) ?_ (by with_unfolding_all rfl)
  refine getItem_tuple_rev ht (Heap.IsSliceOf.new _ vl vu vs) pl pu ps ?_ (by rw [List.size_toArray]; omega)
  refine ⟨.ref _, _, I5.laid (t' := s4.toks) (o := .tup xs.reverse) (fun b ob q => Heap.get?_push_of_some _ q) (Nat.le_refl _) ?_, rfl, q _ (I5.hok.fresh (Nat.le_refl _))⟩
  exact ⟨by rw [List.length_reverse]; exact hz, _, r.reverse, ⟨_, Heap.get?_push_size _ rfl, rfl, _, rfl⟩⟩
theorem RepL.snoc {mu hid : List Addr} {H : Hp} {d : D} {v : V} : ∀ {ds : List D} {vs : List V}, RepL W mu hid H ds vs → Rep W mu hid H d v → RepL W mu hid H (ds ++ [d]) (vs ++ [v])
  | [], _, h, r => by cases h; exact ⟨v, [], rfl, r, rfl⟩
  | e :: es, _, ⟨u, us, e1, h1, h2⟩, r => by subst e1; exact ⟨u, us ++ [v], rfl, h1, RepL.snoc h2 r⟩
theorem RepL.rev {mu hid : List Addr} {H : Hp} : ∀ {ds : List D} {vs : List V}, RepL W mu hid H ds vs → RepL W mu hid H ds.reverse vs.reverse
  | [], _, h => by cases h; exact rfl
  | d :: ds, _, ⟨v, vs, e, h1, h2⟩ => by
    subst e
    rw [List.reverse_cons, List.reverse_cons]
    exact RepL.snoc (RepL.rev h2) h1
theorem s_rev (K : XOk W G C Wx X) {k : Nat} {p1 p2 p3 : Pos} (ha : PE X ea (tE W G Wx a)) : PE X (.Subscript ea (.Slice none none (some (.UnaryOp .USub (.Constant (.int 1) k p1) p2)) p3) pos) (tE W G Wx (.rev a)) := by
  refine peImp (pe_revT ha) fun σ H Q ⟨ρ, S, mu, hid, he, hg, hf⟩ => ?_
  simp only [evE] at hf
  refine ⟨ρ, S, mu, hid, he, hg, hf.bind.mono (fun x S1 mu1 H1 _ _ ⟨e1, g1, f1⟩ v rx => ?_) fun _ _ _ h => h⟩
  cases x with
  | tup ds =>
    obtain ⟨p, vs, e6, h1, r1⟩ := rx
    exact ⟨p, vs, e6, by rw [K.hK]; exact h1.sq, fun q hq => f1.ok (Ext.same (same_new hq)) (g1.same (same_new hq)) _ (Rep.newT g1 hq (RepL.rev r1))⟩
  | _ => exact f1.elim
def notCall : Expr → Bool
  | .Call .. => false | _ => true
theorem base_of {o : Expr} {at_ : Str} {env : PySem.Env} {wh : Sem Value} (h : notCall o = true) : attributeBase o at_ env wh = wh := by
  cases o <;> first | rfl | (cases h; done)
theorem s_upper (K : XOk W G C Wx X) {p1 : Pos} (ha : PE X ea (tE W G Wx a)) (hn : notCall ea = true) (hl : (p1.endLine == pos.line) = true) : PE X (.Call (.Attribute ea "upper" p1) [] [] pos) (tE W G Wx (.upper a)) := by
  refine peImp (pe_upper ha (base_of hn) hl) fun σ H Q ⟨ρ, S, mu, hid, he, hg, hf⟩ => ?_
  simp only [evE] at hf
  refine ⟨ρ, S, mu, hid, he, hg, hf.bind.mono (fun x S1 mu1 H1 _ _ ⟨e1, g1, f1⟩ v rx => ?_) fun _ _ _ h => h⟩
  cases x with
  | str z =>
    have f1 : Fin W mu1 hid H1 (if z.length ≤ 1000000 then R.ok (Ev.D.str (PySem.Txt.upper z)) S1 else .bad) _ _ := f1
    split at f1
    · rename_i hz
      exact ⟨⟨z, rx⟩, z, rx, rfl, by omega, f1.here g1 _ rfl⟩
    · exact f1.elim
  | _ => exact f1.elim
end
end Ev
end
section
set_option Elab.async false
set_option linter.all false
set_option maxRecDepth 100000
/-! enumerate of a list or of a tuple. -/
namespace Ev
open PySem PySem.Spec PyProof.Rows L2
set_option maxHeartbeats 1000000 in
theorem meets_enum1 {v : Value} {o : Obj} {H : Heap → Prop} (B : Begins v o H) :
    Meets (Builtin.«enumerate.__new__» ⟨[.type "enumerate", v], []⟩) (fun _ R s => H s.heap ∧
      R (.ok (.ret (.ref (s.heap.push o).objs.size))) { s with heap := (s.heap.push o).push { cls := .type "enumerate", data := .fields #[.none, .bool false, .ref s.heap.objs.size, rawInt 0, .none, .none] } }) :=
  .of_wp fun prog w A R s h => by
    obtain ⟨hp, g, d, tk, os⟩ := s; obtain ⟨h1, h⟩ := h
    have hsub := sub_enumerate
    have q1 : ∀ {A' : Around} {E : Value → Shared → Prop} {Q : Value → Shared → Prop}, Q (.ref hp.objs.size) ⟨hp.push o, g, d, tk, os⟩ → wpAny (model prog w) A' (pyIter v) Q E ⟨hp, g, d, tk, os⟩ :=
      fun q => B.iter prog w _ _ ⟨hp, g, d, tk, os⟩ _ h1 q
    wp_walk using q1
    refine wpAny_stack_any fun st => wpAny_pure ?_
    split
    · rename_i c _ _ _ _ _
      cases (c == Value.type "enumerate")
      · wp_walk using q1
        exact ⟨_, rfl, h⟩
      · wp_walk using q1
        exact ⟨_, rfl, h⟩
    · wp_walk using q1
      exact ⟨_, rfl, h⟩
theorem call_enumT {prog : Program} {w : World} {A : Around} {E : Value → Shared → Prop} {s : Shared} {l : Addr} {items : Array Value} {Q : Value → Shared → Prop} (hL : s.heap.IsTuple l items)
    (h : ∀ h', IsEnum h' (s.heap.objs.size + 1) s.heap.objs.size 0 .none → h'.IsTupleIter s.heap.objs.size l 0 → h'.objs.size = s.heap.objs.size + 2 →
      (∀ b o, s.heap.get? b = some o → h'.get? b = some o) → Q (.ref (s.heap.objs.size + 1)) { s with heap := h' }) :
    wpAny (model prog w) A (call (.type "enumerate") [.ref l]) Q E s := by
  refine callType_new F.called_enumerate (by decide) (F.typeCall_enumerate_1 _) (F.newCall_enumerate_1 _) (fun obj => F.args_object_init_2 obj _) F.entry_enumerate_new
    (meets_enum1 (begins_tuple l items)) ⟨hL, ?_⟩
  have hz : (s.heap.push { cls := .type "tuple_iterator", data := .fields #[.ref l, .int 0 0] }).objs.size = s.heap.objs.size + 1 := Heap.size_push ..
  show _ ∧ _
  rw [hz]
  have he : IsEnum ((s.heap.push { cls := .type "tuple_iterator", data := .fields #[.ref l, .int 0 0] }).push
      { cls := .type "enumerate", data := .fields #[.none, .bool false, .ref s.heap.objs.size, rawInt 0, .none, .none] }) (s.heap.objs.size + 1) s.heap.objs.size 0 .none := by
    have := Heap.get?_push_size (s.heap.push { cls := .type "tuple_iterator", data := .fields #[.ref l, .int 0 0] })
      (o := { cls := .type "enumerate", data := .fields #[.none, .bool false, .ref s.heap.objs.size, rawInt 0, .none, .none] }) rfl
    rw [hz] at this; exact this
  refine ⟨⟨_, he, rfl⟩, h _ he ⟨_, Heap.get?_push_of_some _ (Heap.get?_push_size _ rfl), rfl, rfl⟩ (by rw [Heap.size_push, hz]) fun b o x => Heap.get?_push_of_some _ (Heap.get?_push_of_some _ x)⟩
theorem pyNext_enumT_end {prog : Program} {w : World} {A : Around} {E : Value → Shared → Prop} {s : Shared} {e it l : Addr} {i : Nat} {items : Array Value} {old : Value} {Q : Option Value → Shared → Prop} (hh : A.handled = none)
    (he : IsEnum s.heap e it i old) (hit : s.heap.IsTupleIter it l i) (hl : s.heap.IsTuple l items) (hx : items[i]? = none)
    (hQ : ∀ h', Heap.ExtBut it s.heap h' → Q none { s with heap := h' }) : wpAny (model prog w) A (pyNext (.ref e)) Q E s := by
  have hT : s.TypeIs (.ref e) "enumerate" := ⟨_, he, rfl⟩
  unfold pyNext
  refine wpAny_bind (wpAny_attempt (wpAny_callSpecial?_slot (name := Str.ofString "__next__") hT F.slot_enumerate_next
    (wpAny_call_entry F.slot_enumerate_next hT F.entry_enumerate_next ?_ (F.args_enumerate_next_1 _))))
  show wpAny _ _ (field (.ref e) 2 >>= _) _ _ _
  refine wpAny_bind (wpAny_field he rfl (x := .ref it) rfl ?_)
  refine wpAny_bind (wpAny_nextOf_tuple_end hh hit hl hx fun h' x he' hx' => ?_)
  obtain ⟨o, ho, hc⟩ := hx'
  refine wpAny_bind (wpAny_isInstance (T := "StopIteration") (b := true) ⟨o, ho, hc⟩ isSubtype_stop ?_)
  exact wpAny_pure (hQ _ he')
def IteT (K : PySem.W.Frag) (a : Addr) : It :=
  ⟨fun i H => ∃ (xs : List V) (x : V), SqT K H a xs ∧ xs[i]? = some x, fun i H v H' => ∃ T x, v = .ref T ∧ H T = none ∧ H' = upd H T (.tup [.int (i : Nat), x]) ∧ ∀ xs, SqT K H a xs → xs[i]? = some x, fun i H => ∃ xs : List V, SqT K H a xs ∧ xs.length ≤ i⟩
theorem turn_enumT {P : Program} {w : World} {K : PySem.W.Frag} {elts : List Expr} {kk : Nat} {tpos : Pos} (a e it : Addr) :
    Turn P w K (.Tuple elts kk tpos) (IteT K a) [e, it] e (fun i h => (∃ old, IsEnum h e it ((i : Nat) : Int) old) ∧ h.IsTupleIter it a i ∧ e ≠ it ∧ a ≠ it ∧ e ≠ a) where
  mem := by simp
  obj := fun i h st b hb => by
    obtain ⟨⟨old, he⟩, ⟨o, ho, hc, hd⟩, _⟩ := st
    have e' : b = e ∨ b = it := by simpa using hb
    rcases e' with z | z
    · rw [z]; exact ⟨_, he, fun v q => nomatch q⟩
    · rw [z]; exact ⟨o, ho, fun v q => by rw [hd] at q; cases q⟩
  keep := fun i h h' st k => let ⟨⟨old, he⟩, hi, hne⟩ := st; ⟨⟨old, k e (by simp) _ he⟩, hi.at fun o q => k it (by simp) o q, hne⟩
  item := by
    intro X hP hw hK hc i pins s σ H E I hf st hg
    subst hP hw hK
    obtain ⟨⟨old, he⟩, hit, hne, hae, hea⟩ := st
    obtain ⟨xs, x, hq, hx⟩ := hg
    obtain ⟨its, rv, p, hz⟩ := I.tuple hq
    obtain ⟨u, hu, ru⟩ := rv.get hx
    have hel : e < s.heap.objs.size := Heap.lt_size he
    have hil : it < s.heap.objs.size := by obtain ⟨_, q, _⟩ := hit; exact Heap.lt_size q
    have hln : i < its.toArray.size := by
      have := (List.getElem?_eq_some_iff.1 hu).1
      simpa using this
    refine wpAny_pyNext_enum_itemD (Draws.tuple (show X.A.in1.handled = none from I.ok.hd hc) it a hae its.toArray) he ⟨hit, p⟩ hln hne (by simp [hne, hea]) fun y h' tk hy ho hst' hT hsz hk => ?_
    obtain rfl : y = u := by
      have : its.toArray[i]? = some y := hy
      rw [List.getElem?_toArray, hu] at this
      exact (Option.some.inj this).symm
    obtain ⟨hit', _⟩ := hst'
    refine ⟨_, rfl, wpAny_letOwnedTupleGo_enum (s := { s with heap := h', toks := tk + 1 }) ho fun h'' he' sb => ?_⟩
    have hT2 : h''.get? s.heap.objs.size = some { cls := .type "tuple", data := .seq #[.int i tk, y] } := (sb.2 _ (Nat.ne_of_gt hel)).trans hT
    have new : ObjOk X.prog X.w (upd H s.heap.objs.size (.tup [.int (i : Nat), x])) h'' s.heap.objs.size (.tup [.int (i : Nat), x]) :=
      ⟨by show 2 ≤ sizeLine; decide, [.int i tk, y], .cons ⟨_, rfl⟩ (.cons ru .nil), ⟨_, hT2, rfl, _, rfl⟩⟩
    have I1 : Inv X pins σ (upd H s.heap.objs.size (.tup [.int (i : Nat), x])) { s with heap := h'', toks := tk + 1 } :=
      I.turnedNew (ch := [e, it]) (fun b ob hb q => (sb.2 b (fun z => hb (by simp [z]))).trans (hk b ob (fun z => hb (by simp [z])) (fun z => hb (by simp [z])) q)) hf (Nat.le_refl _) new
    refine ⟨.ref s.heap.objs.size, _, I1, rfl, ⟨_, x, rfl, I.hok.fresh (Nat.le_refl _), rfl, fun ys hy => by rw [I.tuple_inj hy hq]; exact hx⟩, ⟨⟨y, ?_⟩, hit'.at fun o q => (sb.2 it (Ne.symm hne)).trans q, hne, hae, hea⟩, fun b hb => ?_⟩
    · have e1 : ((i + 1 : Nat) : Int) = (i : Int) + 1 := by omega
      rw [e1]; exact he'
    · have hb' : b < s.heap.objs.size := by
        have e' : b = e ∨ b = it := by simpa using hb
        rcases e' with z | z
        · rw [z]; exact hel
        · rw [z]; exact hil
      rw [upd_ne (Nat.ne_of_lt hb')]
      exact (hf b hb).1
  done := by
    intro X hP hw hK hc i pins s σ H E I hf st hg
    subst hP hw hK
    obtain ⟨⟨old, he⟩, hit, hne, hae, hea⟩ := st
    obtain ⟨xs, hq, hx⟩ := hg
    obtain ⟨its, rv, p, hz⟩ := I.tuple hq
    obtain ⟨f0, f1, f2, f3, f4, f5⟩ := hf it (by simp)
    have hl := rv.length
    refine pyNext_enumT_end (I.ok.hd hc) he hit p (by simp; omega) fun h' eb => ⟨rfl, I.turned (t' := s.toks) (fun b o hb q => eb b o hb q) f0 f1 f3 f4 f5⟩
  self := fun A i s Q E st h => let ⟨⟨_, he⟩, _⟩ := st; wpAny_pyIter_enum he h
def iEnumA (K : PySem.W.Frag) (ta : TA) : TI := fun σ H R => ta σ H fun vs H1 => ∃ a xs, vs = [.ref a] ∧ ((SqL K H1 a xs ∧ R (Ite K a) H1) ∨ (SqT K H1 a xs ∧ R (IteT K a) H1))
theorem pi_enumA {X : Cx} {e : Expr} {ta : TA} {p pos tpos : Pos} {elts : List Expr} {kk : Nat} (hg : Gl X "enumerate") (hm : X.mg "enumerate" = none) (ha : PA X [e] ta) (hs : starEach [e] X.env = [(false, eval e X.env)] := by rfl) :
    PI X (.Tuple elts kk tpos) (.Call (.Name "enumerate" p) [e] [] pos) (iEnumA X.K ta) := by
  refine ⟨fun pins s σ H R I h => ?_⟩
  refine Call_ (ld_blt I hg hm boot_enumerate (PyProof.Rows.callWith_type1 (thn (ha.run pos pins s σ H _ I h) fun us s1 ⟨vs, H1, I1, r1, q1⟩ => ?_) hs rfl))
  obtain ⟨a, xs, ex, q1⟩ := q1
  subst ex
  cases r1 with
  | cons r rr =>
    cases rr
    cases r
    have fresh2 : ∀ b, b ∈ [s1.heap.objs.size + 1, s1.heap.objs.size] → FpOk X pins H1 b := fun b hb => by
      have e' : b = s1.heap.objs.size + 1 ∨ b = s1.heap.objs.size := by simpa using hb
      have hle : s1.heap.objs.size ≤ b := by
        rcases e' with z | z
        · rw [z]; exact Nat.le_add_right _ _
        · rw [z]; exact Nat.le_refl _
      exact I1.fpOk hle (I1.hok.fresh hle)
    rcases q1 with ⟨hq, q⟩ | ⟨hq, q⟩
    · obtain ⟨its, rv, p', hz⟩ := I1.list hq
      refine call_enumerate_list p'.isList fun h' he hit hsz hk => wpAny_pyIter_enum he ?_
      have I2 : Inv X pins σ H1 { s1 with heap := h' } := I1.kept (t' := s1.toks) hk
      exact ⟨s1.heap.objs.size + 1, [s1.heap.objs.size + 1, s1.heap.objs.size], _, _, H1, rfl, I2, turn_enum a (s1.heap.objs.size + 1) s1.heap.objs.size, ⟨⟨.none, he⟩, hit, Nat.succ_ne_self _⟩, fresh2, q⟩
    · obtain ⟨its, rv, p', hz⟩ := I1.tuple hq
      obtain ⟨o1, ho1, _⟩ := id p'
      have hlt : a < s1.heap.objs.size := Heap.lt_size ho1
      refine call_enumT p' fun h' he hit hsz hk => wpAny_pyIter_enum he ?_
      have I2 : Inv X pins σ H1 { s1 with heap := h' } := I1.kept (t' := s1.toks) hk
      exact ⟨s1.heap.objs.size + 1, [s1.heap.objs.size + 1, s1.heap.objs.size], _, _, H1, rfl, I2, turn_enumT a (s1.heap.objs.size + 1) s1.heap.objs.size, ⟨⟨.none, he⟩, hit, Nat.succ_ne_self _, Nat.ne_of_lt hlt, Nat.ne_of_gt (Nat.lt_succ_of_lt hlt)⟩, fresh2, q⟩
end Ev
end
section
set_option Elab.async false
set_option linter.all false
set_option maxRecDepth 100000
set_option maxHeartbeats 1000000
namespace Ev
open PySem PySem.Spec PyProof.Rows L2
section
variable {W : Wd} {G : Glb} {C : Ck} {Wx : WX} {X : Cx} {pos : Pos} {ea eb ec tg : Expr} {a b c es : T} {xs : List Expr} {mu hid : List Addr} {H : Hp} {S : Store}
/-- an iterator that yields these -/
def Walks (W : Wd) (hid : List Addr) (J : It) (ds : List D) (mu1 : List Addr) (H1 : Hp) : Prop :=
  ∃ Gd Y, Walk J ds.length Gd Y ∧ ∀ mu' H', Ext mu1 H1 mu' H' → Gd H' ∧ ∀ hid' S' (i : Nat) v H'', (hid' = hid ∨ ∃ p, H1 p = none ∧ hid' = p :: hid) → Good W mu' hid' S' H' → i < ds.length → Y i H' v H'' →
    Same H' H'' ∧ ∃ d, ds[i]? = some d ∧ Rep W mu' hid' H'' d v
def tI (W : Wd) (G : Glb) (Wx : WX) (t : T) : TI := fun σ H R => ∃ ρ S mu hid, EnvR W mu hid H ρ σ ∧ Good W mu hid S H ∧
  Fin W mu hid H (evI G t ρ S) (fun ds S' mu' H' => ∀ J, Walks W hid J ds mu' H' → R J H') (fun c mu' H' => ∀ dx, Wx (W.cls c) dx σ H')
theorem piImp {e : Expr} {t t' : TI} (h : PI X tg e t) (k : ∀ σ H Q, t' σ H Q → t σ H Q) : PI X tg e t' := ⟨fun pins s σ H Q I q => h.run pins s σ H Q I (k σ H Q q)⟩
theorem RepL.hid_of {hid' : List Addr} {H1 : Hp} {ds : List D} {vs : List V} (r : RepL W mu hid H1 ds vs) (h : hid' = hid ∨ ∃ p, H1 p = none ∧ hid' = p :: hid) : RepL W mu hid' H1 ds vs := by
  rcases h with rfl | ⟨p, hp, rfl⟩
  · exact r
  · exact RepL.hide hp _ _ r
theorem Rep.hid_of {hid' : List Addr} {H1 : Hp} {d : D} {v : V} (r : Rep W mu hid H1 d v) (h : hid' = hid ∨ ∃ p, H1 p = none ∧ hid' = p :: hid) : Rep W mu hid' H1 d v := by
  rcases h with rfl | ⟨p, hp, rfl⟩
  · exact r
  · exact Rep.hide hp _ _ r
theorem walks_list (hK : X.K = W.K) {p : Addr} {vs : List V} {ds : List D} (h1 : H p = some (.lst vs)) (n1 : p ∉ mu) (r : RepL W mu hid H ds vs) : Walks W hid (Itl X.K p) ds mu H := by
  refine ⟨_, _, by rw [← r.length]; exact walk_list (K := X.K) (a := p) (xs := vs), fun mu' H' e => ⟨SqL.of (e.keep p _ h1 n1 fun _ z => nomatch z), fun hid' S' i v H'' hh g hi y => ?_⟩⟩
  obtain ⟨rfl, hy⟩ := y
  refine ⟨Same.refl _, ds[i], by simp [hi], ?_⟩
  obtain ⟨w, h2, r2⟩ := ((r.hid_of hh)).get (i := i) (d := ds[i]) (by simp [hi])
  rw [hy] at h2; cases h2
  exact r2.ext e
theorem walks_tup (hK : X.K = W.K) {p : Addr} {vs : List V} {ds : List D} (h1 : TupAt W.K mu hid H p vs) (r : RepL W mu hid H ds vs) : Walks W hid (Itt X.K p) ds mu H := by
  refine ⟨_, _, by rw [← r.length]; exact walk_tup (K := X.K) (a := p) (xs := vs), fun mu' H' e => ⟨?_, fun hid' S' i v H'' hh g hi y => ?_⟩⟩
  · rw [hK]
    rcases h1 with ⟨h1, n1, _⟩ | h1
    · exact .inl (.inl (e.keep p _ h1 n1 fun _ z => nomatch z))
    · exact h1.1.elim
  · obtain ⟨rfl, hy⟩ := y
    refine ⟨Same.refl _, ds[i], by simp [hi], ?_⟩
    obtain ⟨w, h2, r2⟩ := ((r.hid_of hh)).get (i := i) (d := ds[i]) (by simp [hi])
    rw [hy] at h2; cases h2
    exact r2.ext e
theorem walks_scr (hK : X.K = W.K) {p : Addr} {ns : List Int} (h1 : ScrAt W.K mu hid H p (ns.map V.int)) : Walks W hid (Itl X.K p) (ns.map D.int) mu H := by
  refine ⟨_, _, by rw [List.length_map, ← List.length_map (as := ns) V.int]; exact walk_list (K := X.K) (a := p) (xs := ns.map V.int), fun mu' H' e => ⟨?_, fun hid' S' i v H'' hh g hi y => ?_⟩⟩
  · rw [hK]
    rcases h1 with ⟨h1, n1, _⟩ | h1
    · rcases h1 with h1 | ⟨o, h1⟩
      · exact .inl (.inl (e.keep p _ h1 n1 fun _ z => nomatch z))
      · exact .inl (.inr ⟨o, e.keep p _ h1 n1 fun _ z => nomatch z⟩)
    · exact .inr h1
  · obtain ⟨rfl, hy⟩ := y
    refine ⟨Same.refl _, (ns.map D.int)[i], by simp, ?_⟩
    rw [List.getElem?_map] at hy
    obtain ⟨z, hz, rfl⟩ := Option.map_eq_some_iff.mp hy
    rw [List.length_map] at hi
    rw [List.getElem_map]
    rw [List.getElem?_eq_getElem hi] at hz
    cases hz
    exact rfl
theorem walks_rng {lo : Int} {n : Nat} : Walks W hid (Itr lo n) (rngL lo 1 n) mu H := by
  refine ⟨_, _, by unfold rngL; rw [List.length_map, List.length_range]; exact walk_range, fun mu' H' e => ⟨trivial, fun hid' S' i v H'' hh g hi y => ?_⟩⟩
  obtain ⟨rfl, rfl⟩ := y
  unfold rngL at hi
  rw [List.length_map, List.length_range] at hi
  refine ⟨Same.refl _, .int (lo + (i : Int)), ?_, rfl⟩
  unfold rngL
  rw [List.getElem?_map, List.getElem?_range hi]
  simp
theorem walks_rngC {lo c : Int} {n : Nat} : Walks W hid (Itc lo c n) (rngL lo c n) mu H := by
  refine ⟨_, _, by unfold rngL; rw [List.length_map, List.length_range]; exact walk_rangeC, fun mu' H' e => ⟨trivial, fun hid' S' i v H'' hh g hi y => ?_⟩⟩
  obtain ⟨rfl, rfl⟩ := y
  unfold rngL at hi
  rw [List.length_map, List.length_range] at hi
  refine ⟨Same.refl _, .int (lo + (i : Int) * c), ?_, rfl⟩
  unfold rngL
  rw [List.getElem?_map, List.getElem?_range hi]
  simp
theorem zip_len (xs ys : List D) : (List.zipWith (fun x y => D.tup [x, y]) xs ys).length = min xs.length ys.length := List.length_zipWith
/-- pairs, new ones -/
theorem pair_rep {mu' : List Addr} {hid' : List Addr} {H' H'' : Hp} {S' : Store} {T : Addr} {x y : V} {d e : D} (g : Good W mu' hid' S' H') (hT : H' T = none) (r1 : Rep W mu' hid' H' d x) (r2 : Rep W mu' hid' H' e y) :
    Same H' (upd H' T (.tup [x, y])) ∧ Rep W mu' hid' (upd H' T (.tup [x, y])) (.tup [d, e]) (.ref T) :=
  ⟨same_new hT, Rep.newT g hT ⟨x, _, rfl, r1, y, _, rfl, r2, rfl⟩⟩
theorem walks_zip (hK : X.K = W.K) {p q : Addr} {vs ws : List V} {ds es : List D} (h1 : H p = some (.lst vs)) (n1 : p ∉ mu) (r : RepL W mu hid H ds vs) (h2 : H q = some (.lst ws)) (n2 : q ∉ mu) (r2 : RepL W mu hid H es ws) :
    Walks W hid (Itz X.K p q) (List.zipWith (fun x y => D.tup [x, y]) ds es) mu H := by
  refine ⟨_, _, walk_zip (K := X.K) (a := p) (b := q) (xs := vs) (ys := ws) (by rw [zip_len, r.length, r2.length]), fun mu' H' e => ⟨⟨SqL.of (e.keep p _ h1 n1 fun _ z => nomatch z), SqL.of (e.keep q _ h2 n2 fun _ z => nomatch z)⟩, fun hid' S' i v H'' hh g hi y => ?_⟩⟩
  obtain ⟨T, x, z, rfl, hT, rfl, hx, hz⟩ := y
  rw [zip_len] at hi
  have i1 : i < ds.length := by omega
  have i2 : i < es.length := by omega
  obtain ⟨w, h3, r3⟩ := ((r.hid_of hh)).get (i := i) (d := ds[i]) (by simp [i1])
  obtain ⟨w2, h4, r4⟩ := ((r2.hid_of hh)).get (i := i) (d := es[i]) (by simp [i2])
  have hx : vs[i]? = some x := hx
  have hz : ws[i]? = some z := hz
  rw [hx] at h3; cases h3
  rw [hz] at h4; cases h4
  obtain ⟨sm, rp⟩ := pair_rep (H'' := H') g hT (r3.ext e) (r4.ext e)
  exact ⟨sm, .tup [ds[i], es[i]], by simp [List.getElem?_zipWith, i1, i2], rp⟩
theorem walk_zipT {K : PySem.W.Frag} {a b : Addr} {xs ys : List V} {n : Nat} (hn : n = min xs.length ys.length) : Walk (RZ.ItzT K a b) n (fun H => SqT K H a xs ∧ SqT K H b ys) (YPair (fun i => xs[i]?) (fun i => ys[i]?)) := by
  subst hn
  refine ⟨fun i _ hi q => ?_, fun _ q => ⟨xs, ys, q.1, q.2, by omega⟩, fun i H v H' _ q y => ?_⟩
  · have h1 : i < xs.length := by omega
    have h2 : i < ys.length := by omega
    exact ⟨xs, ys, xs[i], ys[i], q.1, q.2, by simp [h1], by simp [h2]⟩
  · obtain ⟨T, x, z, h1, h2, h3, h4, h5⟩ := y
    exact ⟨T, x, z, h1, h2, h3, h4 xs q.1, h5 ys q.2⟩
theorem tup_ext {mu' : List Addr} {H' : Hp} {p : Addr} {vs : List V} (hK : X.K = W.K) (h1 : TupAt W.K mu hid H p vs) (e : Ext mu H mu' H') : SqT X.K H' p vs := by
  rw [hK]
  rcases h1 with ⟨h1, n1, _⟩ | h1
  · exact .inl (.inl (e.keep p _ h1 n1 fun _ z => nomatch z))
  · exact h1.1.elim
theorem walks_zipT (hK : X.K = W.K) {p q : Addr} {vs ws : List V} {ds es : List D} (h1 : TupAt W.K mu hid H p vs) (r : RepL W mu hid H ds vs) (h2 : TupAt W.K mu hid H q ws) (r2 : RepL W mu hid H es ws) :
    Walks W hid (RZ.ItzT X.K p q) (List.zipWith (fun x y => D.tup [x, y]) ds es) mu H := by
  refine ⟨_, _, walk_zipT (K := X.K) (a := p) (b := q) (xs := vs) (ys := ws) (by rw [zip_len, r.length, r2.length]), fun mu' H' e => ⟨⟨tup_ext hK h1 e, tup_ext hK h2 e⟩, fun hid' S' i v H'' hh g hi y => ?_⟩⟩
  obtain ⟨T, x, z, rfl, hT, rfl, hx, hz⟩ := y
  rw [zip_len] at hi
  have i1 : i < ds.length := by omega
  have i2 : i < es.length := by omega
  obtain ⟨w, h3, r3⟩ := ((r.hid_of hh)).get (i := i) (d := ds[i]) (by simp [i1])
  obtain ⟨w2, h4, r4⟩ := ((r2.hid_of hh)).get (i := i) (d := es[i]) (by simp [i2])
  have hx : vs[i]? = some x := hx
  have hz : ws[i]? = some z := hz
  rw [hx] at h3; cases h3
  rw [hz] at h4; cases h4
  obtain ⟨sm, rp⟩ := pair_rep (H'' := H') g hT (r3.ext e) (r4.ext e)
  exact ⟨sm, .tup [ds[i], es[i]], by simp [List.getElem?_zipWith, i1, i2], rp⟩
theorem walks_enum (hK : X.K = W.K) {p : Addr} {vs : List V} {ds : List D} (h1 : H p = some (.lst vs)) (n1 : p ∉ mu) (r : RepL W mu hid H ds vs) :
    Walks W hid (Ite X.K p) (List.zipWith (fun x y => D.tup [x, y]) (rngL 0 1 ds.length) ds) mu H := by
  have hl : (rngL 0 1 ds.length).length = ds.length := by unfold rngL; rw [List.length_map, List.length_range]
  refine ⟨_, _, by rw [zip_len, hl, Nat.min_self, ← r.length]; exact walk_enum (K := X.K) (a := p) (xs := vs), fun mu' H' e => ⟨SqL.of (e.keep p _ h1 n1 fun _ z => nomatch z), fun hid' S' i v H'' hh g hi y => ?_⟩⟩
  obtain ⟨T, x, z, rfl, hT, rfl, hx, hz⟩ := y
  rw [zip_len, hl, Nat.min_self] at hi
  obtain ⟨w2, h4, r4⟩ := ((r.hid_of hh)).get (i := i) (d := ds[i]) (by simp [hi])
  have hz : vs[i]? = some z := hz
  rw [hz] at h4; cases h4
  cases hx
  obtain ⟨sm, rp⟩ := pair_rep (H'' := H') (d := .int i) (x := .int i) g hT rfl (r4.ext e)
  refine ⟨sm, .tup [.int i, ds[i]], ?_, rp⟩
  rw [List.getElem?_zipWith]
  unfold rngL
  rw [List.getElem?_map, List.getElem?_range hi, List.getElem?_eq_getElem hi]
  simp
/-- a list or a tuple walked, whichever it is -/
theorem pi_any {l : Expr} {tl : TE} (hl : PE X l tl) : PI X tg l (fun σ H R => tl σ H fun x H1 => ∃ a, x = .ref a ∧ (((∃ xs, SqL X.K H1 a xs) ∧ R (Itl X.K a) H1) ∨ ((∃ xs, SqT X.K H1 a xs) ∧ R (Itt X.K a) H1))) := by
  refine ⟨fun pins s σ H R I h => ?_⟩
  refine thn (hl.run pins s σ H _ I h) fun v s1 ⟨x, H1, I1, r1, q1⟩ => ?_
  obtain ⟨a, e, q⟩ := q1
  subst e
  cases r1
  rcases q with ⟨⟨xs, hq⟩, q⟩ | ⟨⟨xs, hq⟩, q⟩
  · obtain ⟨its, rv, p, hz⟩ := I1.list hq
    refine wpAny_pyIter_list p.isList ?_
    refine ⟨s1.heap.objs.size, [s1.heap.objs.size], _, _, H1, rfl, I1.kept (t' := s1.toks) fun b o e => Heap.get?_push_of_some _ e, turn_list a _, ⟨_, Heap.get?_push_size _ rfl, rfl, rfl⟩, fun b hb => ?_, q⟩
    have e : b = s1.heap.objs.size := by simpa using hb
    subst e
    exact I1.fpOk (Nat.le_refl _) (I1.hok.fresh (Nat.le_refl _))
  · obtain ⟨its, rv, p, hz⟩ := I1.tuple hq
    refine wpAny_pyIter_tuple (show s1.heap.IsTuple a its.toArray from p) ?_
    refine ⟨s1.heap.objs.size, [s1.heap.objs.size], _, _, H1, rfl, I1.kept (t' := s1.toks) fun b o e => Heap.get?_push_of_some _ e, turn_tuple a _, ⟨_, Heap.get?_push_size _ rfl, rfl, rfl⟩, fun b hb => ?_, q⟩
    have e : b = s1.heap.objs.size := by simpa using hb
    subst e
    exact I1.fpOk (Nat.le_refl _) (I1.hok.fresh (Nat.le_refl _))
theorem i_one (K : XOk W G C Wx X) (ha : PE X ea (tE W G Wx a)) : PI X tg ea (tI W G Wx (.one a)) := by
  refine piImp (pi_any ha) fun σ H Q ⟨ρ, S, mu, hid, he, hg, hf⟩ => ?_
  simp only [evI] at hf
  refine ⟨ρ, S, mu, hid, he, hg, hf.bind.mono (fun x S1 mu1 H1 _ _ ⟨e1, g1, f1⟩ v rx => ?_) fun _ _ _ h => h⟩
  cases x with
  | tup ds =>
    obtain ⟨p, vs, rfl, h1, r⟩ := rx
    exact ⟨p, rfl, .inr ⟨⟨vs, by rw [K.hK]; exact h1.sq⟩, f1.here g1 _ (walks_tup K.hK h1 r)⟩⟩
  | lst ds =>
    obtain ⟨p, vs, rfl, h1, n1, _, r⟩ := rx
    exact ⟨p, rfl, .inl ⟨⟨vs, SqL.of h1⟩, f1.here g1 _ (walks_list K.hK h1 n1 r)⟩⟩
  | scr ns =>
    obtain ⟨p, rfl, h1⟩ := rx
    exact ⟨p, rfl, .inl ⟨⟨_, by rw [K.hK]; exact scr_sq h1⟩, f1.here g1 _ (walks_scr K.hK h1)⟩⟩
  | _ => exact f1.elim
theorem small_of {i : Int} (h : small i = true) : -1152921504606846976 ≤ i ∧ i ≤ 1152921504606846976 := by
  unfold small at h
  simpa using h
theorem i_rng1 (K : XOk W G C Wx X) {p : Pos} (hg : glB X.env.scope "range" = true) (ha : PE X ea (tE W G Wx a)) (hs : starred ea = false) : PI X tg (.Call (.Name "range" p) [ea] [] pos) (tI W G Wx (.rng1 a)) := by
  refine piImp (pi_range1 (gl_of hg) (K.blt _ (by decide +kernel)) (pa_cons ha pa_nil (starEach_cons hs)) (by rw [starEach_cons hs]; rfl)) fun σ H Q ⟨ρ, S, mu, hid, he, hg, hf⟩ => ?_
  simp only [evI] at hf
  refine ⟨ρ, S, mu, hid, he, hg, hf.bind.mono (fun x S1 mu1 H1 _ _ ⟨e1, g1, f1⟩ v rx => ?_) fun _ _ _ h => h⟩
  cases x with
  | int j =>
    simp only at f1
    split at f1
    · have hj := small_of (by assumption)
      exact ⟨j, by rw [show v = _ from rx], by omega, by omega, f1.here g1 _ walks_rng⟩
    · exact f1.elim
  | _ => exact f1.elim
theorem i_rng2 (K : XOk W G C Wx X) {p : Pos} (hg : glB X.env.scope "range" = true) (ha : PE X ea (tE W G Wx a)) (hs : starred ea = false) (hb : PE X eb (tE W G Wx b)) (hs2 : starred eb = false) : PI X tg (.Call (.Name "range" p) [ea, eb] [] pos) (tI W G Wx (.rng2 a b)) := by
  refine piImp (pi_range2 (gl_of hg) (K.blt _ (by decide +kernel)) (pa_cons ha (pa_cons hb pa_nil (starEach_cons hs2)) (starEach_cons hs)) (by rw [starEach_cons hs, starEach_cons hs2]; rfl) (by rw [starEach_cons hs2]; rfl)) fun σ H Q ⟨ρ, S, mu, hid, he, hg, hf⟩ => ?_
  simp only [evI] at hf
  refine ⟨ρ, S, mu, hid, he, hg, hf.bind.mono (fun x S1 mu1 H1 _ _ ⟨e1, g1, f1⟩ v rx => ?_) fun _ _ _ h => h⟩
  refine ⟨ρ, S1, mu1, hid, he.ext e1, g1, f1.bind.mono (fun y S2 mu2 H2 _ _ ⟨e2, g2, f2⟩ w ry => ?_) fun _ _ _ h => h⟩
  cases x with
  | int i =>
    cases y with
    | int j =>
      simp only at f2
      split at f2
      · rename_i hh
        simp only [Bool.and_eq_true] at hh
        have h1 := small_of hh.1
        have h2 := small_of hh.2
        exact ⟨i, j, by rw [show v = _ from rx, show w = _ from ry], ⟨by omega, by omega, by omega, by omega⟩, f2.here g2 _ walks_rng⟩
      · exact f2.elim
    | _ => exact f2.elim
  | _ => exact f2.elim
theorem i_rng3 (K : XOk W G C Wx X) {p q q2 : Pos} {z : Nat} (hg : glB X.env.scope "range" = true) (ha : PE X ea (tE W G Wx a)) (hs : starred ea = false) (hb : PE X eb (tE W G Wx b)) (hs2 : starred eb = false) :
    PI X tg (.Call (.Name "range" p) [ea, eb, .UnaryOp .USub (.Constant (.int 1) z q) q2] [] pos) (tI W G Wx (.rng3 a b)) := by
  refine piImp (pi_range3 (gl_of hg) (K.blt _ (by decide +kernel)) (pa_cons ha (pa_cons hb (pa_cons (pe_un un_neg pe_int) pa_nil) (starEach_cons hs2)) (starEach_cons hs)) (starEach_cons hs) (noStar_any (by simp only [noStar, hs2]; rfl))) fun σ H Q ⟨ρ, S, mu, hid, he, hg, hf⟩ => ?_
  simp only [evI] at hf
  refine ⟨ρ, S, mu, hid, he, hg, hf.bind.mono (fun x S1 mu1 H1 _ _ ⟨e1, g1, f1⟩ v rx => ?_) fun _ _ _ h => h⟩
  refine ⟨ρ, S1, mu1, hid, he.ext e1, g1, f1.bind.mono (fun y S2 mu2 H2 _ _ ⟨e2, g2, f2⟩ w ry => ?_) fun _ _ _ h => h⟩
  cases x with
  | int i =>
    cases y with
    | int j =>
      simp only at f2
      split at f2
      · rename_i hh
        simp only [Bool.and_eq_true] at hh
        have h1 := small_of hh.1
        have h2 := small_of hh.2
        exact ⟨1, rfl, i, j, -1, (i - j).toNat, by rw [show v = _ from rx, show w = _ from ry], RgC.neg (by omega) (by omega) (by omega) (by omega), f2.here g2 _ walks_rngC⟩
      · exact f2.elim
    | _ => exact f2.elim
  | _ => exact f2.elim
theorem i_zip (K : XOk W G C Wx X) {p tpos : Pos} {elts : List Expr} {kk : Nat} (hg : glB X.env.scope "zip" = true) (ha : PE X ea (tE W G Wx a)) (hs : starred ea = false) (hb : PE X eb (tE W G Wx b)) (hs2 : starred eb = false) :
    PI X (.Tuple elts kk tpos) (.Call (.Name "zip" p) [ea, eb] [] pos) (tI W G Wx (.zip a b)) := by
  refine piImp (RZ.pi_zipA (gl_of hg) (K.blt _ (by decide +kernel)) (pa_cons ha (pa_cons hb pa_nil (starEach_cons hs2)) (starEach_cons hs)) (starEach_cons hs) (noStar_any (by simp [noStar, hs2]))) fun σ H Q ⟨ρ, S, mu, hid, he, hg, hf⟩ => ?_
  simp only [evI] at hf
  refine ⟨ρ, S, mu, hid, he, hg, hf.bind.mono (fun x S1 mu1 H1 _ _ ⟨e1, g1, f1⟩ v rx => ?_) fun _ _ _ h => h⟩
  refine ⟨ρ, S1, mu1, hid, he.ext e1, g1, f1.bind.mono (fun y S2 mu2 H2 _ _ ⟨e2, g2, f2⟩ w ry => ?_) fun _ _ _ h => h⟩
  have rx2 := rx.ext e2
  cases x with
  | tup xs =>
    cases y with
    | tup ys =>
      obtain ⟨p, vs, rfl, h1, r1⟩ := rx2
      obtain ⟨q, ws, rfl, h2, r2⟩ := ry
      exact ⟨p, q, vs, ws, rfl, .inr ⟨by rw [K.hK]; exact h1.sq, by rw [K.hK]; exact h2.sq, f2.here g2 _ (walks_zipT K.hK h1 r1 h2 r2)⟩⟩
    | _ => exact f2.elim
  | lst xs =>
    cases y with
    | lst ys =>
      obtain ⟨p, vs, rfl, h1, n1, _, r1⟩ := rx2
      obtain ⟨q, ws, rfl, h2, n2, _, r2⟩ := ry
      exact ⟨p, q, vs, ws, rfl, .inl ⟨SqL.of h1, SqL.of h2, f2.here g2 _ (walks_zip K.hK h1 n1 r1 h2 n2 r2)⟩⟩
    | _ => exact f2.elim
  | _ => exact f2.elim
theorem walk_enumT {K : PySem.W.Frag} {a : Addr} {xs : List V} : Walk (IteT K a) xs.length (fun H => SqT K H a xs) (YPair (fun i => some (.int (i : Nat))) (fun i => xs[i]?)) := by
  refine ⟨fun i _ hi q => ⟨xs, xs[i], q, by simp [hi]⟩, fun _ q => ⟨xs, q, Nat.le_refl _⟩, fun i H v H' _ q y => ?_⟩
  obtain ⟨T, x, h1, h2, h3, h4⟩ := y
  exact ⟨T, .int (i : Nat), x, h1, h2, h3, rfl, h4 xs q⟩
theorem walks_enumT (hK : X.K = W.K) {p : Addr} {vs : List V} {ds : List D} (h1 : TupAt W.K mu hid H p vs) (r : RepL W mu hid H ds vs) :
    Walks W hid (IteT X.K p) (List.zipWith (fun x y => D.tup [x, y]) (rngL 0 1 ds.length) ds) mu H := by
  have hl : (rngL 0 1 ds.length).length = ds.length := by unfold rngL; rw [List.length_map, List.length_range]
  refine ⟨_, _, by rw [zip_len, hl, Nat.min_self, ← r.length]; exact walk_enumT (K := X.K) (a := p) (xs := vs), fun mu' H' e => ⟨tup_ext hK h1 e, fun hid' S' i v H'' hh g hi y => ?_⟩⟩
  obtain ⟨T, x, z, rfl, hT, rfl, hx, hz⟩ := y
  rw [zip_len, hl, Nat.min_self] at hi
  obtain ⟨w2, h4, r4⟩ := ((r.hid_of hh)).get (i := i) (d := ds[i]) (by simp [hi])
  have hz : vs[i]? = some z := hz
  rw [hz] at h4; cases h4
  cases hx
  obtain ⟨sm, rp⟩ := pair_rep (H'' := H') (d := .int i) (x := .int i) g hT rfl (r4.ext e)
  refine ⟨sm, .tup [.int i, ds[i]], ?_, rp⟩
  rw [List.getElem?_zipWith]
  unfold rngL
  rw [List.getElem?_map, List.getElem?_range hi, List.getElem?_eq_getElem hi]
  simp
theorem i_enum (K : XOk W G C Wx X) {p tpos : Pos} {elts : List Expr} {kk : Nat} (hg : glB X.env.scope "enumerate" = true) (ha : PE X ea (tE W G Wx a)) (hs : starred ea = false) :
    PI X (.Tuple elts kk tpos) (.Call (.Name "enumerate" p) [ea] [] pos) (tI W G Wx (.enum a)) := by
  refine piImp (pi_enumA (gl_of hg) (K.blt _ (by decide +kernel)) (pa_cons ha pa_nil (starEach_cons hs)) (by rw [starEach_cons hs]; rfl)) fun σ H Q ⟨ρ, S, mu, hid, he, hg, hf⟩ => ?_
  simp only [evI] at hf
  refine ⟨ρ, S, mu, hid, he, hg, hf.bind.mono (fun x S1 mu1 H1 _ _ ⟨e1, g1, f1⟩ v rx => ?_) fun _ _ _ h => h⟩
  cases x with
  | lst xs =>
    obtain ⟨p, vs, rfl, h1, n1, _, r1⟩ := rx
    exact ⟨p, vs, rfl, .inl ⟨SqL.of h1, f1.here g1 _ (walks_enum K.hK h1 n1 r1)⟩⟩
  | tup xs =>
    obtain ⟨p, vs, rfl, h1, r1⟩ := rx
    exact ⟨p, vs, rfl, .inr ⟨by rw [K.hK]; exact h1.sq, f1.here g1 _ (walks_enumT K.hK h1 r1)⟩⟩
  | _ => exact f1.elim
end
end Ev
end
section
set_option Elab.async false
set_option linter.all false
set_option maxRecDepth 100000
set_option maxHeartbeats 1000000
namespace Ev
open PySem PySem.Spec PyProof.Rows L2
section
variable {W : Wd} {mu mu' hid : List Addr} {H H' : Hp} {S : Store} {p : Addr}
theorem EnvR.hide {ρ : Env} {σ : L2.St} (hp : H p = none) (r : EnvR W mu hid H ρ σ) : EnvR W mu (p :: hid) H ρ σ :=
  ⟨r.1, fun i d h => let ⟨v, h1, h2⟩ := r.2 i d h; ⟨v, h1, Rep.hide hp _ _ h2⟩⟩
theorem RepO.hide (hp : H p = none) {a : Addr} {o : O} (r : RepO W mu hid H a o) : RepO W mu (p :: hid) H a o := by
  cases o with
  | lst ds => obtain ⟨xs, h, q⟩ := r; exact ⟨xs, h, RepL.hide hp _ _ q⟩
  | dT kvs => obtain ⟨xs, h, k, q⟩ := r; exact ⟨xs, h, k, RepL.hide hp _ _ q⟩
  | dK kvs => obtain ⟨xs, h, k, q⟩ := r; exact ⟨xs, h, k, RepL.hide hp _ _ q⟩
theorem RepO.weak {hid' : List Addr} (hh : ∀ a, a ∈ hid' → a ∈ hid) (k : ∀ a o, H a = some o → a ∉ hid → H' a = some o) {a : Addr} {o : O} (ha : H' a = H a) (r : RepO W mu hid H a o) : RepO W mu hid' H' a o := by
  cases o with
  | lst ds => obtain ⟨xs, h, q⟩ := r; exact ⟨xs, ha.trans h, RepL.weak hh k _ _ q⟩
  | dT kvs => obtain ⟨xs, h, k2, q⟩ := r; exact ⟨xs, ha.trans h, k2, RepL.weak hh k _ _ q⟩
  | dK kvs => obtain ⟨xs, h, k2, q⟩ := r; exact ⟨xs, ha.trans h, k2, RepL.weak hh k _ _ q⟩
/-- a new list that is hidden -/
theorem Good.hide (g : Good W mu hid S H) (hp : H p = none) {xs : List V} : Good W mu (p :: hid) S (upd H p (.lst xs)) := by
  have e := same_new (o := .lst xs) hp
  have np : p ∉ mu := fun z => g.there p z hp
  refine ⟨g.len, g.nd, fun n o h => ?_, fun a ha => ?_, fun a ha => ?_, g.tabs.ext e⟩
  · obtain ⟨a, h1, r⟩ := g.obj n o h
    refine ⟨a, h1, (r.hide hp).ext (Ext.same e) (upd_ne ?_)⟩
    rintro rfl
    exact np (List.mem_of_getElem? h1)
  · rcases List.mem_cons.mp ha with q | q
    · exact ⟨.lst xs, by rw [q]; exact upd_same, fun _ z => nomatch z⟩
    · obtain ⟨o, h1, h2⟩ := g.hidT a q
      exact ⟨o, e a o h1, h2⟩
  · rcases List.mem_cons.mp ha with q | q
    · rw [q]; exact np
    · exact g.dis a q
theorem tabs_upd {T : List (Addr × Str)} {xs ys : List V} (t : LamX.Tabs T H) (h : H p = some (.lst xs)) : LamX.Tabs T (upd H p (.lst ys)) := by
  intro q hq
  obtain ⟨ps, h1, h2, h3⟩ := t q hq
  refine ⟨ps, ?_, h2, fun pos cv hc => ?_⟩
  · rw [upd_ne]; exact h1
    intro z; rw [z, h] at h1; cases h1
  · obtain ⟨c, e1, e2⟩ := h3 pos cv hc
    refine ⟨c, e1, ?_⟩
    rw [upd_ne]; exact e2
    intro z; rw [z, h] at e2
    unfold LamX.CodeO at e2; cases e2
/-- it changes -/
theorem Good.hput (g : Good W mu (p :: hid) S H) {xs ys : List V} (h : H p = some (.lst xs)) : Good W mu (p :: hid) S (upd H p (.lst ys)) := by
  have np : p ∉ mu := g.dis p List.mem_cons_self
  have k : ∀ a o, H a = some o → a ∉ p :: hid → upd H p (.lst ys) a = some o := fun a o h n => by
    rw [upd_ne]; exact h
    rintro rfl; exact n List.mem_cons_self
  refine ⟨g.len, g.nd, fun n o h2 => ?_, fun a ha => ?_, g.dis, tabs_upd g.tabs h⟩
  · obtain ⟨a, h1, r⟩ := g.obj n o h2
    refine ⟨a, h1, r.weak (fun _ z => z) k (upd_ne ?_)⟩
    rintro rfl
    exact np (List.mem_of_getElem? h1)
  · by_cases q : a = p
    · exact ⟨.lst ys, by rw [q]; exact upd_same, fun _ z => nomatch z⟩
    · rw [upd_ne q]; exact g.hidT a ha
theorem Good.unhide (g : Good W mu (p :: hid) S H) : Good W mu hid S H :=
  ⟨g.len, g.nd, fun n o h => let ⟨a, h1, r⟩ := g.obj n o h; ⟨a, h1, r.weak (fun a z => List.mem_cons_of_mem _ z) (fun _ _ h _ => h) rfl⟩, fun a ha => g.hidT a (List.mem_cons_of_mem _ ha), fun a ha => g.dis a (List.mem_cons_of_mem _ ha), g.tabs⟩
theorem not_app {a : Addr} {l : List Addr} (h1 : a ∉ l) (h2 : a ∉ p :: hid) : a ∉ l ++ [p] ∧ a ∉ hid := by
  refine ⟨fun z => ?_, fun z => h2 (List.mem_cons_of_mem _ z)⟩
  rcases List.mem_append.mp z with q | q
  · exact h1 q
  · rw [List.mem_singleton] at q
    exact h2 (by rw [q]; exact List.mem_cons_self)
mutual
/-- a hidden list becomes a cell -/
theorem Rep.toCell : ∀ (d : D) (v : V), Rep W mu (p :: hid) H d v → Rep W (mu ++ [p]) hid H d v
  | .non, _, h => h
  | .bl _, _, h => h
  | .int _, _, h => h
  | .str _, _, h => h
  | .fn _, _, h => h
  | .tup ds, _, ⟨a, xs, e1, h, r⟩ => by
    refine ⟨a, xs, e1, ?_, RepL.toCell ds xs r⟩
    rcases h with ⟨h, n, n2⟩ | h
    · exact .inl ⟨h, not_app n n2⟩
    · exact .inr h
  | .lst ds, _, ⟨a, xs, e1, h, n, n2, r⟩ => ⟨a, xs, e1, h, (not_app n n2).1, (not_app n n2).2, RepL.toCell ds xs r⟩
  | .cel n, _, ⟨a, e1, h⟩ => by
    refine ⟨a, e1, ?_⟩
    obtain ⟨hlt, q⟩ := List.getElem?_eq_some_iff.mp h
    rw [List.getElem?_append_left hlt]; exact h
  | .scr ns, _, ⟨a, e1, h⟩ => by
    refine ⟨a, e1, ?_⟩
    rcases h with ⟨h, n, n2⟩ | h
    · exact .inl ⟨h, not_app n n2⟩
    · exact .inr h
theorem RepL.toCell : ∀ (ds : List D) (vs : List V), RepL W mu (p :: hid) H ds vs → RepL W (mu ++ [p]) hid H ds vs
  | [], _, h => h
  | d :: ds, _, ⟨v, vs, e1, h1, h2⟩ => ⟨v, vs, e1, Rep.toCell d v h1, RepL.toCell ds vs h2⟩
end
theorem RepO.toCell {a : Addr} {o : O} (r : RepO W mu (p :: hid) H a o) : RepO W (mu ++ [p]) hid H a o := by
  cases o with
  | lst ds => obtain ⟨xs, h, q⟩ := r; exact ⟨xs, h, RepL.toCell _ _ q⟩
  | dT kvs => obtain ⟨xs, h, k2, q⟩ := r; exact ⟨xs, h, k2, RepL.toCell _ _ q⟩
  | dK kvs => obtain ⟨xs, h, k2, q⟩ := r; exact ⟨xs, h, k2, RepL.toCell _ _ q⟩
theorem Good.toCell (g : Good W mu (p :: hid) S H) (np : p ∉ hid) {ds : List D} {xs : List V} (h : H p = some (.lst xs)) (r : RepL W mu (p :: hid) H ds xs) : Good W (mu ++ [p]) hid (S ++ [.lst ds]) H := by
  refine ⟨by simp [g.len], ?_, fun n o h2 => ?_, fun a ha => g.hidT a (List.mem_cons_of_mem _ ha), fun a ha z => ?_, g.tabs⟩
  · rw [List.nodup_append]
    refine ⟨g.nd, by simp, fun a ha b hb => ?_⟩
    rw [List.mem_singleton] at hb
    rintro rfl
    exact g.dis p List.mem_cons_self (hb ▸ ha)
  · by_cases hn : n < S.length
    · rw [List.getElem?_append_left hn] at h2
      obtain ⟨a, h1, q⟩ := g.obj n o h2
      exact ⟨a, by rw [List.getElem?_append_left (by rw [g.len]; exact hn)]; exact h1, q.toCell⟩
    · have hn2 : n = S.length := by
        have := (List.getElem?_eq_some_iff.mp h2).1
        simp at this; omega
      subst hn2
      rw [List.getElem?_append_right (Nat.le_refl _)] at h2
      simp at h2
      subst h2
      exact ⟨p, by rw [List.getElem?_append_right (by rw [g.len]; exact Nat.le_refl _)]; simp [g.len], xs, h, RepL.toCell _ _ r⟩
  · rcases List.mem_append.mp z with q | q
    · exact g.dis a (List.mem_cons_of_mem _ ha) q
    · rw [List.mem_singleton] at q; rw [q] at ha; exact np ha
theorem wipe_len (σ : L2.St) (vs : List Nat) : (wipe σ vs).length = σ.length := wipe_length σ vs
theorem wipe_ne {σ : L2.St} {i : Nat} : ∀ {vs : List Nat}, i ∉ vs → (wipe σ vs)[i]? = σ[i]?
  | [], _ => rfl
  | v :: vs, h => by
    show ((wipe σ vs).set v none)[i]? = _
    rw [List.getElem?_set_ne (fun e => h (by rw [e]; exact List.mem_cons_self))]
    exact wipe_ne fun z => h (List.mem_cons_of_mem _ z)
theorem wipe_in {σ : L2.St} {i : Nat} : ∀ {vs : List Nat}, i ∈ vs → i < σ.length → (wipe σ vs)[i]? = some none
  | v :: vs, h, hl => by
    show ((wipe σ vs).set v none)[i]? = _
    by_cases q : v = i
    · subst q; rw [List.getElem?_set_self (by rw [wipe_length]; exact hl)]
    · rw [List.getElem?_set_ne q]
      exact wipe_in (by rcases List.mem_cons.mp h with z | z; exact absurd z.symm q; exact z) hl
theorem wipe_congr {σ σ2 : L2.St} {vs : List Nat} (hl : σ2.length = σ.length) (h : ∀ i, i ∉ vs → σ2[i]? = (wipe σ vs)[i]?) : wipe σ2 vs = wipe σ vs := by
  apply List.ext_getElem?
  intro i
  by_cases hi : i ∈ vs
  · by_cases hlt : i < σ.length
    · rw [wipe_in hi hlt, wipe_in hi (by rw [hl]; exact hlt)]
    · rw [List.getElem?_eq_none (by rw [wipe_length]; omega), List.getElem?_eq_none (by rw [wipe_length]; omega)]
  · rw [wipe_ne hi, h i hi]
end

/-! ### targets -/
mutual
def tgs : T → List Nat
  | .tv i => [i]
  | .tt ts => tgsL ts
  | _ => []
def tgsL : T → List Nat
  | .cons t l => tgs t ++ tgsL l
  | _ => []
end
section
variable {W : Wd} {G : Glb} {C : Ck} {Wx : WX} {X : Cx} {pos : Pos} {ea eb ec tg : Expr} {a b c t l es : T} {xs : List Expr}
def xW (W : Wd) (Wx : WX) : Nat → List Addr → Hp → Prop := fun c _ H' => ∀ dx σ', Wx (W.cls c) dx σ' H'
def gT (W : Wd) (G : Glb) (Wx : WX) (t : T) : TG := fun v σ H Q => ∃ d ρ S mu hid, Rep W mu hid H d v ∧ EnvR W mu hid H ρ σ ∧ Good W mu hid S H ∧
  Fin W mu hid H (evG G t d ρ S) (fun ρ' S' mu' H' => ∀ σ', σ'.length = σ.length → (∀ i, i ∉ tgs t → σ'[i]? = σ[i]?) → EnvR W mu' hid H' ρ' σ' → Q σ' H') (xW W Wx)
def gTs (W : Wd) (G : Glb) (Wx : WX) (t : T) : TGs := fun vs σ H Q => ∃ ds ρ S mu hid, RepL W mu hid H ds vs ∧ EnvR W mu hid H ρ σ ∧ Good W mu hid S H ∧
  Fin W mu hid H (evGs G t ds ρ S) (fun ρ' S' mu' H' => ∀ σ', σ'.length = σ.length → (∀ i, i ∉ tgsL t → σ'[i]? = σ[i]?) → EnvR W mu' hid H' ρ' σ' → Q σ' H') (xW W Wx)
theorem pgImp {t t' : TG} (h : PG X tg t) (k : ∀ v σ H Q, t' v σ H Q → t v σ H Q) : PG X tg t' := ⟨fun pins s σ H v u Q I r q => h.run pins s σ H v u Q I r (k v σ H Q q)⟩
theorem pgsImp {t t' : TGs} (h : PGs X xs t) (k : ∀ v σ H Q, t' v σ H Q → t v σ H Q) : PGs X xs t' := ⟨fun pins s σ H v u Q I r q => h.run pins s σ H v u Q I r (k v σ H Q q)⟩
theorem g_tv (K : XOk W G C Wx X) {i : Nat} {x : Str} (h1 : C.N[i]? = some x) (h2 : locB X.env.scope x = true) (hf : X.fn x = true ∨ X.env.scope.names.lookup x = some .local) : PG X (.Name x pos) (gT W G Wx (.tv i)) := by
  refine pgImp (pg_name (i := i) K.nd (by rw [K.hN]; exact h1) (loc_of h2) hf) fun v σ H Q ⟨d, ρ, S, mu, hid, rv, he, hg, hf⟩ => ?_
  simp only [evG] at hf
  exact hf.here hg _ (by simp) (fun j hj => by rw [List.getElem?_set_ne]; intro e; exact hj (by simp [tgs, e])) (he.set rv)
theorem assignEach_cons {e : Expr} {es : List Expr} {env : PySem.Env} (h : starred e = false) : assignEach (e :: es) env = (false, assign e env) :: assignEach es env := by
  cases e <;> first | rfl | (cases h)
theorem assignEach_len {env : PySem.Env} : ∀ {es : List Expr}, (assignEach es env).length = es.length
  | [] => rfl
  | e :: es => by
    have ih := @assignEach_len env es
    cases e <;> (show (_ :: assignEach es env).length = _; rw [List.length_cons, ih, List.length_cons])
theorem assignEach_star {env : PySem.Env} : ∀ {es : List Expr}, noStar es = true → (assignEach es env).findIdx? (·.1) = none
  | [], _ => rfl
  | e :: es, h => by
    simp only [noStar, Bool.and_eq_true, Bool.not_eq_true'] at h
    rw [assignEach_cons h.1, List.findIdx?_cons, assignEach_star h.2]
    rfl
theorem g_tt (K : XOk W G C Wx X) {k : Nat} (h : PGs X xs (gTs W G Wx t)) (hs : noStar xs = true) (hl : tlen t = xs.length) : PG X (.Tuple xs k pos) (gT W G Wx (.tt t)) := by
  refine pgImp (pg_tup (n := xs.length) K.calm h assignEach_len (assignEach_star hs)) fun v σ H Q ⟨d, ρ, S, mu, hid, rv, he, hg, hf⟩ => ?_
  simp only [evG] at hf
  cases d with
  | tup ds =>
    obtain ⟨p, vs, rfl, h1, r⟩ := rv
    have hf : Fin W mu hid H (if ds.length = tlen t then evGs G t ds ρ S else .bad) _ _ := hf
    split at hf
    · rename_i h9
      exact ⟨p, vs, rfl, by rw [K.hK]; exact h1.sq, by rw [r.length, h9, hl], ds, ρ, S, mu, hid, r, he, hg, hf⟩
    · exact hf.elim
  | _ => exact hf.elim
theorem gs_nil : PGs X [] (gTs W G Wx .nil) := by
  refine pgsImp pgs_nil fun v σ H Q ⟨ds, ρ, S, mu, hid, rv, he, hg, hf⟩ => ?_
  cases ds with
  | nil =>
    simp only [evGs] at hf
    exact ⟨rv, hf.here hg σ rfl (fun _ _ => rfl) he⟩
  | cons d ds => simp only [evGs] at hf; exact hf.elim
theorem gs_cons (h1 : PG X ea (gT W G Wx t)) (h2 : PGs X xs (gTs W G Wx l)) (hs : starred ea = false) : PGs X (ea :: xs) (gTs W G Wx (.cons t l)) := by
  refine pgsImp (pgs_cons h1 h2 (by rw [assignEach_cons hs]; rfl)) fun v σ H Q ⟨ds, ρ, S, mu, hid, rv, he, hg, hf⟩ => ?_
  cases ds with
  | nil => simp only [evGs] at hf; exact hf.elim
  | cons d ds =>
    simp only [evGs] at hf
    obtain ⟨w, ws, rfl, r1, r2⟩ := rv
    refine ⟨w, ws, rfl, d, ρ, S, mu, hid, r1, he, hg, hf.bind.mono (fun ρ1 S1 mu1 H1 _ _ ⟨e1, g1, f1⟩ σ1 hl1 hn1 he1 => ?_) fun _ _ _ h => h⟩
    refine ⟨ds, ρ1, S1, mu1, hid, RepL.ext e1 _ _ r2, he1, g1, f1.mono (fun ρ2 S2 mu2 H2 _ _ k2 σ2 hl2 hn2 he2 => ?_) fun _ _ _ h => h⟩
    exact k2 σ2 (hl2.trans hl1) (fun i hi => by
      simp only [tgsL, List.mem_append, not_or] at hi
      rw [hn2 i hi.2, hn1 i hi.1]) he2
/-- o[i] = v in a cell -/
theorem set_cell : PSet X (fun o i v H Q => ∃ x y d S mu hid S3, Rep W mu hid H x o ∧ Rep W mu hid H y i ∧ Rep W mu hid H d v ∧ Good W mu hid S H ∧ setItemD x y d S = some S3 ∧ ∀ H', Ext mu H mu H' → Good W mu hid S3 H' → Q H') := by
  intro pins s σ H o i v ov iv u Q I ro ri rv ⟨x, y, d, S, mu, hid, S3, rx, ry, rd, g, e, k⟩
  unfold setItemD at e
  split at e
  · rename_i n kk
    split at e
    · rename_i ds hS
      obtain ⟨j, hj, rfl⟩ := Option.map_eq_some_iff.mp e
      obtain ⟨a, rfl, hm⟩ := rx
      obtain ⟨b, hb, vs, hH, r⟩ := g.obj n _ hS
      rw [hm] at hb; cases hb
      obtain ⟨e1, g1⟩ := g.put hS hm hH (r.set j rd)
      exact set_list pins s σ H _ _ _ ov iv u Q I ro ri rv ⟨a, vs, kk, j, rfl, ry, hH, by rw [r.length]; exact hj, k _ e1 g1⟩
    · cases e
  · cases e
theorem g_ts (K : XOk W G C Wx X) (ha : PE X ea (tE W G Wx a)) (hb : PE X eb (tE W G Wx b)) (hs : notSlice eb = true) : PG X (.Subscript ea eb pos) (gT W G Wx (.ts a b)) := by
  refine pgImp (pg_sub ha hb (set_cell (W := W)) (by intro v; cases eb <;> first | rfl | cases hs)) fun v σ H Q ⟨d, ρ, S, mu, hid, rv, he, hg, hf⟩ => ?_
  simp only [evG] at hf
  refine ⟨ρ, S, mu, hid, he, hg, hf.bind.mono (fun x S1 mu1 H1 _ _ ⟨e1, g1, f1⟩ w rx => ?_) fun _ _ _ h dx => h dx σ⟩
  refine ⟨ρ, S1, mu1, hid, he.ext e1, g1, f1.bind.mono (fun y S2 mu2 H2 _ _ ⟨e2, g2, f2⟩ z ry => ?_) fun _ _ _ h dx => h dx σ⟩
  have f3 := f2.bind
  obtain ⟨S3, e5, f4⟩ := f3.ofO
  obtain ⟨_, _, f5⟩ := f4.here g2
  exact ⟨x, y, d, S2, mu2, hid, S3, rx.ext e2, ry, (rv.ext e1).ext e2, g2, e5, fun H' e6 g6 => f5.ok e6 g6 σ rfl (fun _ _ => rfl) (((he.ext e1).ext e2).ext e6)⟩

/-! ### comprehensions -/
abbrev W0 : WX := fun _ _ _ _ => False
theorem XOk.blk (K : XOk W G C Wx X) {s : Shared} {H : Hp} {scope : Scope} {clo : List (Str × Addr)} {Cc : Addr} {fp : List Addr} : XOk W G C W0 (X.blk s H scope (compEnvC scope clo Cc X.env) fp) :=
  ⟨K.hK, K.hN, K.nd, K.calm, K.room, L2.takes0, K.fns, K.globs, K.blt, K.fnr, K.cls, K.exm, K.wds, K.lam⟩
def tC1 (W : Wd) (G : Glb) (Wx : WX) (t : T) : TT := tT W G Wx t
theorem s_comp (K : XOk W G C Wx X) {cl : Bool} {e tgt it cond : T} {own : List Nat} {elt iter : Expr} {ifs : List Expr} {scope : Scope} (hi : PI X tg iter (tI W G Wx it))
    (ok : BlkOk X.N X.env.scope scope (own.map fun i => (C.N.getD i Str.empty, i)))
    (hg : ∀ (s : Shared) (H : Hp) (Cc : Addr) (clo : List (Str × Addr)) (fp : List Addr), PG (X.blk s H scope (compEnvC scope clo Cc X.env) fp) tg (gT W G W0 tgt))
    (ht : ∀ (s : Shared) (H : Hp) (Cc : Addr) (clo : List (Str × Addr)) (fp : List Addr), PTs (X.blk s H scope (compEnvC scope clo Cc X.env) fp) ifs (tT W G W0 cond))
    (he : ∀ (s : Shared) (H : Hp) (Cc : Addr) (clo : List (Str × Addr)) (fp : List Addr), PE (X.blk s H scope (compEnvC scope clo Cc X.env) fp) elt (tE W G W0 e))
    (hs : ∀ x, foldedSetIterable iter X.env x = pure x) (ho : ∀ i ∈ tgs tgt, i ∈ own) :
    ∀ σ H Q, tE W G Wx (.comp cl e tgt it cond own) σ H Q → tLc (tI W G Wx it) (gT W G W0 tgt) (tT W G W0 cond) (tE W G W0 e) ((own.map fun i => (C.N.getD i Str.empty, i)).map (·.2)) σ H Q := by
  intro σ H Q ⟨ρ, S, mu, hid, hev, hgd, hf⟩
  have hown : (own.map fun i => (C.N.getD i Str.empty, i)).map (·.2) = own := by rw [List.map_map]; exact List.map_id' own
  rw [hown]
  simp only [evE] at hf
  refine ⟨ρ, S, mu, hid, hev, hgd, hf.bind.mono (fun ds S1 mu1 H1 _ _ ⟨e1, g1, f1⟩ J hJ => ?_) fun _ _ _ h => h⟩
  intro Dd hD
  obtain ⟨Gd, Y, wk, hy⟩ := hJ
  cases hc : compL (fun d => evG G tgt d) (fun ρ S => tst (evE G cond ρ S)) (fun ρ S => evE G e ρ S) (wipeE ρ own) ds [] S1 with
  | bad => rw [hc] at f1; exact f1.elim
  | exc c S2 => rw [hc] at f1; exact f1.elim
  | ok vs S2 =>
    rw [hc] at f1
    have f1 : Fin W mu1 hid H1 (mkL cl vs S2) (fun d S' mu' H' => ∀ v, Rep W mu' hid H' d v → Q v H') _ := f1
    have he1 := (hev.ext e1).hide hD
    have nD : Dd ∉ hid := fun z => (g1.hidT Dd z).elim fun o h => by rw [hD] at h; cases h.1
    refine lc_it wk (fun i H' => ∃ acc mu' S', compL (fun d => evG G tgt d) (fun ρ S => tst (evE G cond ρ S)) (fun ρ S => evE G e ρ S) (wipeE ρ own) (ds.drop i) acc S' = .ok vs S2 ∧ Ext mu1 H1 mu' H' ∧ Good W mu' (Dd :: hid) S' H' ∧
      ∃ xs, H' Dd = some (.lst xs) ∧ xs.length ≤ 1000000 ∧ RepL W mu' (Dd :: hid) H' acc.reverse xs) ?_ ?_ ?_ ?_
    · exact ⟨[], mu1, S1, by simpa using hc, Ext.same (same_new hD), g1.hide hD, [], upd_same, Nat.zero_le _, rfl⟩
    · rintro i H' _ ⟨acc, mu', S', _, e', _⟩
      exact (hy mu' H' e').1
    · rintro i x H' H'' hi ⟨acc, mu', S', hcl, e', g', xs, hxs, hlen, rxs⟩ hY
      obtain ⟨sm, d, hd, rd⟩ := (hy mu' H' e').2 (Dd :: hid) S' i x H'' (.inr ⟨Dd, hD, rfl⟩) g' hi hY
      have hdrop : ds.drop i = d :: ds.drop (i + 1) := by
        obtain ⟨hlt, hq⟩ := List.getElem?_eq_some_iff.mp hd
        rw [← hq]; exact (List.drop_eq_getElem_cons hlt)
      rw [hdrop] at hcl
      simp only [compL] at hcl
      have e2 : Ext mu1 H1 mu' H'' := e'.trans (Ext.same sm)
      refine ⟨d, wipeE ρ own, S', mu', Dd :: hid, rd, (he1.ext e2).wipe own, g'.same sm, ?_⟩
      cases q1 : evG G tgt d (wipeE ρ own) S' with
      | bad => rw [q1] at hcl; cases hcl
      | exc c S3 => rw [q1] at hcl; cases hcl
      | ok ρ1 S3 =>
        rw [q1] at hcl
        intro H3 mu3 e3 g3 σ3 hl3 hn3 he3
        refine ⟨wipe_congr (by rw [hl3, wipe_length]) fun j hj => hn3 j fun z => hj (ho j z), ρ1, S3, mu3, Dd :: hid, he3, g3, ?_⟩
        simp only at hcl
        cases q2 : tst (evE G cond ρ1 S3) with
        | bad => rw [q2] at hcl; cases hcl
        | exc c S4 => rw [q2] at hcl; cases hcl
        | ok k S4 =>
          rw [q2] at hcl
          intro H4 mu4 e4 g4
          have hx4 : H4 Dd = some (.lst xs) := e4.keep Dd _ (e3.keep Dd _ (sm Dd _ hxs) (g'.dis Dd List.mem_cons_self) fun _ z => nomatch z) (g3.dis Dd List.mem_cons_self) fun _ z => nomatch z
          have rx4 : RepL W mu4 (Dd :: hid) H4 acc.reverse xs := RepL.ext e4 _ _ (RepL.ext e3 _ _ (RepL.ext (Ext.same sm) _ _ rxs))
          have e14 : Ext mu1 H1 mu4 H4 := (e2.trans e3).trans e4
          cases k with
          | false =>
            exact iteF ⟨acc, mu4, S4, hcl, e14, g4, xs, hx4, hlen, rx4⟩
          | true =>
            refine iteT ⟨ρ1, S4, mu4, Dd :: hid, he3.ext e4, g4, ?_⟩
            simp only at hcl
            cases q3 : evE G e ρ1 S4 with
            | bad => rw [q3] at hcl; cases hcl
            | exc c S5 => rw [q3] at hcl; cases hcl
            | ok w S5 =>
              rw [q3] at hcl
              simp only at hcl
              split at hcl
              · rename_i hacc
                intro H5 mu5 e5 g5 y ry
                have hx5 : H5 Dd = some (.lst xs) := e5.keep Dd _ hx4 (g4.dis Dd List.mem_cons_self) fun _ z => nomatch z
                have lx : xs.length = acc.length := by rw [rx4.length, List.length_reverse]
                refine ⟨xs, hx5, Nat.lt_of_lt_of_le (by rw [lx]; exact hacc) line6, w :: acc, mu5, S5, hcl, ?_, g5.hput hx5, xs ++ [y], upd_same, by rw [List.length_append, lx]; exact hacc, ?_⟩
                · have e15 := e14.trans e5
                  refine ⟨e15.pre, e15.new, fun a o h n z => ?_, fun a o h n => ?_⟩
                  · rw [upd_ne]; exact e15.keep a o h n z
                    rintro rfl; rw [hD] at h; cases h
                  · by_cases qa : a = Dd
                    · exact ⟨.lst (xs ++ [y]), by rw [qa]; exact upd_same, fun _ z => nomatch z⟩
                    · rw [upd_ne qa]; exact e15.there a o h n
                · rw [List.reverse_cons]
                  have rr : RepL W mu5 (Dd :: hid) H5 (acc.reverse ++ [w]) (xs ++ [y]) := (RepL.ext e5 _ _ rx4).app ⟨y, [], rfl, ry, rfl⟩
                  refine RepL.weak (fun _ z => z) (fun a o h n => ?_) _ _ rr
                  rw [upd_ne]; exact h
                  rintro rfl; exact n List.mem_cons_self
              · cases hcl
    · rintro H' ⟨acc, mu', S', hcl, e', g', xs, hxs, hlen, rxs⟩
      rw [List.drop_length] at hcl
      simp only [compL, R.ok.injEq] at hcl
      obtain ⟨rfl, rfl⟩ := hcl
      cases cl with
      | false =>
        exact (show Fin W mu1 hid H1 (.ok (.lst acc.reverse) S') (fun d S' mu' H' => ∀ v, Rep W mu' hid H' d v → Q v H') _ from f1).ok e' g'.unhide _ ⟨Dd, xs, rfl, hxs, g'.dis Dd List.mem_cons_self, nD, RepL.weak (fun a z => List.mem_cons_of_mem _ z) (fun _ _ h _ => h) _ _ rxs⟩
      | true =>
        have g2 := g'.toCell nD hxs rxs
        have e2 : Ext mu1 H1 (mu' ++ [Dd]) H' := by
          obtain ⟨t, ht⟩ := e'.pre
          refine ⟨⟨t ++ [Dd], by rw [ht, List.append_assoc]⟩, fun a ha => ?_, e'.keep, e'.there⟩
          rcases List.mem_append.mp ha with q | q
          · exact e'.new a q
          · rw [List.mem_singleton] at q; rw [q]; exact .inr (.inl hD)
        refine (show Fin W mu1 hid H1 (.ok (.cel S'.length) (S' ++ [.lst acc.reverse])) (fun d S' mu' H' => ∀ v, Rep W mu' hid H' d v → Q v H') _ from f1).ok e2 g2 _ ⟨Dd, rfl, ?_⟩
        rw [List.getElem?_append_right (by rw [g'.len]; exact Nat.le_refl _), g'.len]
        simp
end
end Ev
end
section
set_option Elab.async false
set_option linter.all false
set_option maxRecDepth 100000
set_option maxHeartbeats 1000000
namespace Ev
open PySem PySem.Spec PyProof.Rows L2
section
variable {W : Wd} {G : Glb} {C : Ck} {Wx : WX} {X : Cx} {pos : Pos} {ea eb ec tg : Expr} {a b c t l es : T} {xs : List Expr} {st : Stmt} {sts : List Stmt}
def fl (W : Wd) (hid : List Addr) (σ : L2.St) (D : Ends) : Fl → Store → List Addr → Hp → Prop := fun f _ mu' H' => match f with
  | .nx ρ' => ∀ σ', σ'.length = σ.length → EnvR W mu' hid H' ρ' σ' → D.nx σ' H'
  | .rt d => ∀ v, Rep W mu' hid H' d v → D.rt v H'
def tS (W : Wd) (G : Glb) (Wx : WX) (t : T) : TS := fun D σ H => ∃ ρ S mu hid, EnvR W mu hid H ρ σ ∧ Good W mu hid S H ∧ Fin W mu hid H (evS G t ρ S) (fl W hid σ D) (xW W Wx)
theorem psImp {t t' : TS} (h : PS X st t) (k : ∀ D σ H, t' D σ H → t D σ H) : PS X st t' := ⟨fun pins s σ H D I q => h.run pins s σ H D I (k D σ H q)⟩
theorem pssImp {t t' : TS} (h : PSs X sts t) (k : ∀ D σ H, t' D σ H → t D σ H) : PSs X sts t' := ⟨fun pins s σ H D I q => h.run pins s σ H D I (k D σ H q)⟩
theorem ss_nil : PSs X [] (tS W G Wx .nil) := pssImp pss_nil fun D σ H ⟨ρ, S, mu, hid, he, hg, hf⟩ => by
  simp only [evS] at hf
  exact hf.here hg σ rfl he
theorem ss_cons (h1 : PS X st (tS W G Wx a)) (h2 : PSs X sts (tS W G Wx l)) : PSs X (st :: sts) (tS W G Wx (.cons a l)) := by
  refine pssImp (pss_cons h1 h2) fun D σ H ⟨ρ, S, mu, hid, he, hg, hf⟩ => ?_
  simp only [evS] at hf
  refine ⟨ρ, S, mu, hid, he, hg, hf.bind.mono (fun f S1 mu1 H1 _ _ ⟨e1, g1, f1⟩ => ?_) fun _ _ _ h => h⟩
  cases f with
  | nx ρ1 =>
    intro σ1 hl he1
    refine ⟨ρ1, S1, mu1, hid, he1, g1, f1.mono (fun f2 S2 mu2 H2 _ _ k => ?_) fun _ _ _ h => h⟩
    cases f2 with
    | nx ρ2 => exact fun σ2 hl2 he2 => k σ2 (hl2.trans hl) he2
    | rt d => exact k
  | rt d => exact f1.here g1
theorem s_asg (ha : PE X ea (tE W G Wx a)) (hg : PG X tg (gT W G Wx t)) (hs : swapsWithSole [tg] ea pos.line X.env = pure false) (hw : swappedStores [tg] ea X.env = pure none) (hst : starred tg = false) :
    PS X (.Assign [tg] ea pos) (tS W G Wx (.asg t a)) := by
  refine psImp (ps_asg ha hg hs hw (by rw [assignEach_cons hst]; rfl)) fun D σ H ⟨ρ, S, mu, hid, he, hg, hf⟩ => ?_
  simp only [evS] at hf
  refine ⟨ρ, S, mu, hid, he, hg, hf.bind.mono (fun d S1 mu1 H1 _ _ ⟨e1, g1, f1⟩ v rv => ?_) fun _ _ _ h dx => h dx σ⟩
  refine ⟨d, ρ, S1, mu1, hid, rv, he.ext e1, g1, f1.bind.mono (fun ρ2 S2 mu2 H2 _ _ ⟨e2, g2, f2⟩ σ2 hl hn he2 => ?_) fun _ _ _ h => h⟩
  exact f2.here g2 σ2 hl he2
theorem s_expr (ha : PE X ea (tE W G Wx a)) (hs : swapsWith ea none pos.line X.env = pure false) : PS X (.Expr ea pos) (tS W G Wx (.expr a)) := by
  refine psImp (ps_expr ha hs) fun D σ H ⟨ρ, S, mu, hid, he, hg, hf⟩ => ?_
  simp only [evS] at hf
  refine ⟨ρ, S, mu, hid, he, hg, hf.bind.mono (fun d S1 mu1 H1 _ _ ⟨e1, g1, f1⟩ v rv => ?_) fun _ _ _ h dx => h dx σ⟩
  exact f1.here g1 σ rfl (he.ext e1)
theorem s_ret (ha : PE X ea (tE W G Wx a)) : PS X (.Return (some ea) pos) (tS W G Wx (.ret a)) := by
  refine psImp (ps_ret ha) fun D σ H ⟨ρ, S, mu, hid, he, hg, hf⟩ => ?_
  simp only [evS] at hf
  refine ⟨ρ, S, mu, hid, he, hg, hf.bind.mono (fun d S1 mu1 H1 _ _ ⟨e1, g1, f1⟩ v rv => ?_) fun _ _ _ h dx => h dx σ⟩
  exact f1.here g1 v rv
theorem s_ret0 : PS X (.Return none pos) (tS W G Wx .ret0) := by
  refine psImp ps_retN fun D σ H ⟨ρ, S, mu, hid, he, hg, hf⟩ => ?_
  simp only [evS] at hf
  exact hf.here hg _ rfl
theorem s_pass : PS X (.Pass pos) (tS W G Wx .pass) := by
  refine psImp ps_pass fun D σ H ⟨ρ, S, mu, hid, he, hg, hf⟩ => ?_
  simp only [evS] at hf
  exact hf.here hg σ rfl he
theorem s_ite {p q : List Stmt} (hc : PT X ec (tT W G Wx c)) (ha : PSs X p (tS W G Wx a)) (hb : PSs X q (tS W G Wx b)) : PS X (.If ec p q pos) (tS W G Wx (.ite c a b)) := by
  refine psImp (ps_if hc ha hb) fun D σ H ⟨ρ, S, mu, hid, he, hg, hf⟩ => ?_
  simp only [evS] at hf
  refine ⟨ρ, S, mu, hid, he, hg, hf.bind.mono (fun k S1 mu1 H1 _ _ ⟨e1, g1, f1⟩ => ?_) fun _ _ _ h dx => h dx σ⟩
  cases k with
  | true => exact iteT ⟨ρ, S1, mu1, hid, he.ext e1, g1, f1⟩
  | false => exact iteF ⟨ρ, S1, mu1, hid, he.ext e1, g1, f1⟩
theorem s_loop {p : List Stmt} (hp : PassesOwn (model X.prog X.w) X.A X.env X.xe) (hc : PT X ec (tT W G Wx c)) (hb : PSs X p (tS W G Wx b)) : PS X (.While ec p [] pos) (tS W G Wx (.loop c b)) := by
  refine psImp (ps_while hp hc hb) fun D σ H ⟨ρ, S, mu, hid, he, hg, hf⟩ => ?_
  simp only [evS] at hf
  refine ⟨fun m σ' H' => ∃ ρ' S' mu', σ'.length = σ.length ∧ EnvR W mu' hid H' ρ' σ' ∧ Good W mu' hid S' H' ∧ Fin W mu' hid H' (whileL (fun ρ S => tst (evE G c ρ S)) (fun ρ S => evS G b ρ S) m ρ' S') (fl W hid σ D) (xW W Wx), ⟨G.fuel, ρ, S, mu, rfl, he, hg, hf⟩, ?_⟩
  rintro m σ1 H1 ⟨ρ1, S1, mu1, hl1, he1, hg1, hf1⟩
  cases m with
  | zero => exact hf1.elim
  | succ m =>
    simp only [whileL] at hf1
    refine ⟨ρ1, S1, mu1, hid, he1, hg1, hf1.bind.mono (fun k S2 mu2 H2 _ _ ⟨e2, g2, f2⟩ => ?_) fun _ _ _ h dx => h dx σ1⟩
    cases k with
    | false => exact iteF (f2.here g2 σ1 hl1 (he1.ext e2))
    | true =>
      rw [if_pos rfl] at f2
      refine iteT ⟨fun σ' H' => ∃ ρ' S' mu', σ'.length = σ.length ∧ EnvR W mu' hid H' ρ' σ' ∧ Good W mu' hid S' H' ∧ Fin W mu' hid H' (whileL (fun ρ S => tst (evE G c ρ S)) (fun ρ S => evS G b ρ S) m ρ' S') (fl W hid σ D) (xW W Wx), fun σ' H' h => ⟨m, Nat.lt_succ_self _, h⟩, ?_⟩
      refine ⟨ρ1, S2, mu2, hid, he1.ext e2, g2, f2.bind.mono (fun f S3 mu3 H3 _ _ ⟨e3, g3, f3⟩ => ?_) fun _ _ _ h => h⟩
      cases f with
      | nx ρ3 => exact fun σ3 hl3 he3 => ⟨ρ3, S3, mu3, hl3.trans hl1, he3, g3, f3⟩
      | rt d => exact f3.here g3
theorem s_for {iter : Expr} {it : T} {p : List Stmt} (K : XOk W G C Wx X) (hp : PassesOwn (model X.prog X.w) X.A X.env X.xe) (hi : PI X tg iter (tI W G Wx it)) (hg : PG X tg (gT W G Wx t)) (hb : PSs X p (tS W G Wx b))
    (hs : ∀ x, foldedSetIterable iter X.env x = pure x) : PS X (.For tg iter p [] pos) (tS W G Wx (.for_ t it b)) := by
  refine psImp (ps_for hp K.calm hi hg hb hs) fun D σ H ⟨ρ, S, mu, hid, he, hg, hf⟩ => ?_
  simp only [evS] at hf
  refine ⟨ρ, S, mu, hid, he, hg, hf.bind.mono (fun ds S1 mu1 H1 _ _ ⟨e1, g1, f1⟩ J hJ => ?_) fun _ _ _ h dx => h dx σ⟩
  obtain ⟨Gd, Y, wk, hy⟩ := hJ
  refine for_it wk (fun i σ' H' => ∃ ρ' S' mu', σ'.length = σ.length ∧ EnvR W mu' hid H' ρ' σ' ∧ Good W mu' hid S' H' ∧ Ext mu1 H1 mu' H' ∧ Fin W mu' hid H' (forL (fun d => evG G t d) (fun ρ S => evS G b ρ S) (ds.drop i) ρ' S') (fl W hid σ D) (xW W Wx)) ?_ ?_ ?_ ?_
  · exact ⟨ρ, S1, mu1, rfl, he.ext e1, g1, .refl, f1⟩
  · rintro i σ' H' _ ⟨ρ', S', mu', _, _, _, e', _⟩
    exact (hy mu' H' e').1
  · rintro i x σ' H' H'' hi ⟨ρ', S', mu', hl', he', g', e', f'⟩ hY
    obtain ⟨sm, d, hd, rd⟩ := (hy mu' H' e').2 hid S' i x H'' (.inl rfl) g' hi hY
    have hdrop : ds.drop i = d :: ds.drop (i + 1) := by
      obtain ⟨hlt, hq⟩ := List.getElem?_eq_some_iff.mp hd
      rw [← hq]; exact (List.drop_eq_getElem_cons hlt)
    rw [hdrop] at f'
    simp only [forL] at f'
    have e2 : Ext mu' H' mu' H'' := Ext.same sm
    have z : Fin W mu' hid H' ((R.ok () S').bind fun _ S' => (evG G t d ρ' S').bind fun ρ1 S1 => (evS G b ρ1 S1).bind fun f S2 => match f with
      | .nx ρ2 => forL (fun d => evG G t d) (fun ρ S => evS G b ρ S) (ds.drop (i + 1)) ρ2 S2
      | .rt v => .ok (.rt v) S2) (fl W hid σ D) (xW W Wx) := f'
    obtain ⟨_, g2, f2⟩ := z.bind H'' mu' e2 (g'.same sm)
    refine ⟨d, ρ', S', mu', hid, rd, he'.ext e2, g2, f2.bind.mono (fun ρ3 S3 mu3 H3 _ _ ⟨e3, g3, f3⟩ σ3 hl3 _ he3 => ?_) fun _ _ _ h => h⟩
    refine ⟨ρ3, S3, mu3, hid, he3, g3, f3.bind.mono (fun f S4 mu4 H4 _ _ ⟨e4, g4, f4⟩ => ?_) fun _ _ _ h => h⟩
    cases f with
    | nx ρ4 => exact fun σ4 hl4 he4 => ⟨ρ4, S4, mu4, hl4.trans (hl3.trans hl'), he4, g4, ((e'.trans e2).trans e3).trans e4, f4⟩
    | rt v => exact f4.here g4
  · rintro σ' H' ⟨ρ', S', mu', hl', he', g', e', f'⟩
    rw [List.drop_length] at f'
    simp only [forL] at f'
    exact f'.here g' σ' hl' he'

/-! ### a, b = x, y with plain local names: stored from the right -/
def parIs : List Nat → List V → L2.St → L2.St
  | i :: is, v :: vs, σ => (parIs is vs σ).set i (some v)
  | _, _, σ => σ
theorem setL_rep {mu hid : List Addr} {H : Hp} : ∀ {is : List Nat} {ds : List D} {vs : List V} {ρ ρ' : Env} {σ : L2.St}, RepL W mu hid H ds vs → EnvR W mu hid H ρ σ → setL is ds ρ = some ρ' → EnvR W mu hid H ρ' (parIs is vs σ) ∧ (parIs is vs σ).length = σ.length ∧ vs.length = is.length
  | [], [], vs, ρ, ρ', σ, r, he, h => by
    rw [show vs = [] from r]
    simp only [setL, Option.some.injEq] at h
    subst h
    exact ⟨he, rfl, rfl⟩
  | i :: is, d :: ds, _, ρ, ρ', σ, ⟨v, vs, e, h1, h2⟩, he, h => by
    simp only [setL] at h
    obtain ⟨ρ1, q, rfl⟩ := Option.map_eq_some_iff.mp h
    obtain ⟨a, b, c⟩ := setL_rep h2 he q
    subst e
    exact ⟨a.set h1, by show ((parIs is vs σ).set i (some v)).length = _; rw [List.length_set, b], by rw [List.length_cons, List.length_cons, c]⟩
  | [], _ :: _, _, _, _, _, _, _, h => by simp [setL] at h
  | _ :: _, [], _, _, _, _, _, _, h => by simp [setL] at h
/-- the swapped stores of two, of three names -/
theorem ps_swap2 {i j : Nat} {x y : Str} {ta : TA} {k2 : Nat} {pt2 : Pos} (hc : X.calm = true) (hN : X.N.Nodup) (hi : X.N[i]? = some x) (hj : X.N[j]? = some y)
    (hx : X.env.scope.names.lookup x = some .local) (hy : X.env.scope.names.lookup y = some .local) (ha : PA X xs ta)
    (hw : swappedStores [tg] (.Tuple xs k2 pt2) X.env = pure (some [x, y])) (hs : swapsWithSole [tg] (.Tuple xs k2 pt2) pos.line X.env = pure false) :
    PS X (.Assign [tg] (.Tuple xs k2 pt2) pos) (fun D σ H => ta σ H fun vs H1 => vs.length = 2 ∧ D.nx (parIs [i, j] vs σ) H1) := by
  refine ⟨fun pins s σ H D I h => ?_⟩
  rw [exec_Assign_arm]
  refine wpAny_bind (wpAny_standAt ?_)
  rw [hs]
  refine wpAny_bind (wpAny_pure ?_)
  rw [if_neg (by decide)]
  refine wpAny_bind (Tuple_ (thn (ha.run _ pins s σ H _ I h) fun us s1 ⟨vs, H1, I1, r1, q1⟩ => ?_))
  obtain ⟨hl, q1⟩ := q1
  obtain ⟨v, w, rfl⟩ : ∃ v w, vs = [v, w] := by
    match vs, hl with
    | [v, w], _ => exact ⟨v, w, rfl⟩
  obtain ⟨u1, u2, rfl, rv, rw'⟩ := vals2 r1
  refine wpAny_newObj_type ?_ (by show 2 ≤ sizeLine; decide)
  have I2 : Inv X pins σ H1 { s1 with heap := s1.heap.push { cls := .type "tuple", data := .seq [u1, u2].toArray } } := I1.kept (t' := s1.toks) fun b o e => Heap.get?_push_of_some _ e
  rw [hw]
  refine wpAny_bind (wpAny_pure ?_)
  show wpAny (model X.prog X.w) X.A (do rule "assign.swapped-stores"; let items ← unpackItems (.ref s1.heap.objs.size) 2 none; assignInOrder [fun v => bindName X.env y v, fun v => bindName X.env x v] items.reverse; pure Flow.next) _ _ _
  refine wpAny_bind (wpAny_rule (wpAny_bind (unpackItems_tuple (items := #[u1, u2]) (I.ok.hd hc) (IsTup.new s1.heap _) fun h' hx' => ?_)))
  have I3 := I2.kept (h' := h') (t' := s1.toks) fun b o e => hx' b o (Nat.ne_of_lt (Heap.lt_size e)) e
  show wpAny _ _ (assignInOrder [fun v => bindName X.env y v, fun v => bindName X.env x v] [u2, u1] >>= fun _ => pure Flow.next) _ _ _
  refine wpAny_bind (assignInOrder_cons (wpAny_bindName (store_ok I3 hN hj (.inl hy) rw' (fun s2 I4 => ?_) (.inr hy))))
  refine assignInOrder_cons (wpAny_bindName (store_ok I4 hN hi (.inl hx) rv (fun s3 I5 => assignInOrder_nil (wpAny_pure ?_)) (.inr hx)))
  exact ⟨_, H1, I5, q1⟩
theorem vals3 {x y z : V} {us : List Value} (r : Vals [x, y, z] us) : ∃ u w' v, us = [u, w', v] ∧ RelV x u ∧ RelV y w' ∧ RelV z v := by
  cases r with
  | cons r1 r2 =>
    obtain ⟨u, w, rfl, h1, h2⟩ := vals2 r2
    exact ⟨_, _, _, rfl, r1, h1, h2⟩
theorem ps_swap3 {i j k : Nat} {x y z : Str} {ta : TA} {k2 : Nat} {pt2 : Pos} (hc : X.calm = true) (hN : X.N.Nodup) (hi : X.N[i]? = some x) (hj : X.N[j]? = some y) (hk : X.N[k]? = some z)
    (hx : X.env.scope.names.lookup x = some .local) (hy : X.env.scope.names.lookup y = some .local) (hz : X.env.scope.names.lookup z = some .local) (ha : PA X xs ta)
    (hw : swappedStores [tg] (.Tuple xs k2 pt2) X.env = pure (some [x, y, z])) (hs : swapsWithSole [tg] (.Tuple xs k2 pt2) pos.line X.env = pure false) :
    PS X (.Assign [tg] (.Tuple xs k2 pt2) pos) (fun D σ H => ta σ H fun vs H1 => vs.length = 3 ∧ D.nx (parIs [i, j, k] vs σ) H1) := by
  refine ⟨fun pins s σ H D I h => ?_⟩
  rw [exec_Assign_arm]
  refine wpAny_bind (wpAny_standAt ?_)
  rw [hs]
  refine wpAny_bind (wpAny_pure ?_)
  rw [if_neg (by decide)]
  refine wpAny_bind (Tuple_ (thn (ha.run _ pins s σ H _ I h) fun us s1 ⟨vs, H1, I1, r1, q1⟩ => ?_))
  obtain ⟨hl, q1⟩ := q1
  obtain ⟨v, w, o, rfl⟩ : ∃ v w o, vs = [v, w, o] := by
    match vs, hl with
    | [v, w, o], _ => exact ⟨v, w, o, rfl⟩
  obtain ⟨u1, u2, u3, rfl, rv, rw', ro⟩ := vals3 r1
  refine wpAny_newObj_type ?_ (by show 3 ≤ sizeLine; decide)
  have I2 : Inv X pins σ H1 { s1 with heap := s1.heap.push { cls := .type "tuple", data := .seq [u1, u2, u3].toArray } } := I1.kept (t' := s1.toks) fun b o e => Heap.get?_push_of_some _ e
  rw [hw]
  refine wpAny_bind (wpAny_pure ?_)
  show wpAny (model X.prog X.w) X.A (do rule "assign.swapped-stores"; let items ← unpackItems (.ref s1.heap.objs.size) 3 none; assignInOrder [fun v => bindName X.env z v, fun v => bindName X.env y v, fun v => bindName X.env x v] items.reverse; pure Flow.next) _ _ _
  refine wpAny_bind (wpAny_rule (wpAny_bind (unpackItems_tuple (items := #[u1, u2, u3]) (I.ok.hd hc) (IsTup.new s1.heap _) fun h' hx' => ?_)))
  have I3 := I2.kept (h' := h') (t' := s1.toks) fun b o e => hx' b o (Nat.ne_of_lt (Heap.lt_size e)) e
  show wpAny _ _ (assignInOrder [fun v => bindName X.env z v, fun v => bindName X.env y v, fun v => bindName X.env x v] [u3, u2, u1] >>= fun _ => pure Flow.next) _ _ _
  refine wpAny_bind (assignInOrder_cons (wpAny_bindName (store_ok I3 hN hk (.inl hz) ro (fun s2 I4 => ?_) (.inr hz))))
  refine assignInOrder_cons (wpAny_bindName (store_ok I4 hN hj (.inl hy) rw' (fun s3 I5 => ?_) (.inr hy)))
  refine assignInOrder_cons (wpAny_bindName (store_ok I5 hN hi (.inl hx) rv (fun s4 I6 => assignInOrder_nil (wpAny_pure ?_)) (.inr hx)))
  exact ⟨_, H1, I6, q1⟩
theorem par_read {is : List Nat} {n : Nat} (hn : is.length = n) (D : Ends) (σ : L2.St) (H : Hp) (h : tS W G Wx (.par is es) D σ H) : tA W G Wx es σ H fun vs H1 => vs.length = n ∧ D.nx (parIs is vs σ) H1 := by
  obtain ⟨ρ, S, mu, hid, he, hg, hf⟩ := h
  simp only [evS] at hf
  refine ⟨ρ, S, mu, hid, he, hg, hf.bind.mono (fun ds S1 mu1 H1 _ _ ⟨e1, g1, f1⟩ vs rv => ?_) fun _ _ _ h dx => h dx σ⟩
  have f2 := f1.bind
  obtain ⟨ρ1, e5, f3⟩ := f2.ofO
  obtain ⟨_, _, f4⟩ := f3.here g1
  obtain ⟨h1, h2, h3⟩ := setL_rep rv (he.ext e1) e5
  exact ⟨by rw [h3, hn], f4.here g1 _ h2 h1⟩
theorem s_par2 (K : XOk W G C Wx X) {i j : Nat} {x y : Str} {k2 : Nat} {pt2 : Pos} (hi : C.N[i]? = some x) (hj : C.N[j]? = some y)
    (hx : X.env.scope.names.lookup x = some .local) (hy : X.env.scope.names.lookup y = some .local) (ha : PA X xs (tA W G Wx es))
    (hw : swappedStores [tg] (.Tuple xs k2 pt2) X.env = pure (some [x, y])) (hs : swapsWithSole [tg] (.Tuple xs k2 pt2) pos.line X.env = pure false) :
    PS X (.Assign [tg] (.Tuple xs k2 pt2) pos) (tS W G Wx (.par [i, j] es)) :=
  psImp (ps_swap2 K.calm K.nd (by rw [K.hN]; exact hi) (by rw [K.hN]; exact hj) hx hy ha hw hs) fun D σ H h => par_read rfl D σ H h
theorem s_par3 (K : XOk W G C Wx X) {i j k : Nat} {x y z : Str} {k2 : Nat} {pt2 : Pos} (hi : C.N[i]? = some x) (hj : C.N[j]? = some y) (hk : C.N[k]? = some z)
    (hx : X.env.scope.names.lookup x = some .local) (hy : X.env.scope.names.lookup y = some .local) (hz : X.env.scope.names.lookup z = some .local) (ha : PA X xs (tA W G Wx es))
    (hw : swappedStores [tg] (.Tuple xs k2 pt2) X.env = pure (some [x, y, z])) (hs : swapsWithSole [tg] (.Tuple xs k2 pt2) pos.line X.env = pure false) :
    PS X (.Assign [tg] (.Tuple xs k2 pt2) pos) (tS W G Wx (.par [i, j, k] es)) :=
  psImp (ps_swap3 K.calm K.nd (by rw [K.hN]; exact hi) (by rw [K.hN]; exact hj) (by rw [K.hN]; exact hk) hx hy hz ha hw hs) fun D σ H h => par_read rfl D σ H h
/-- x = [..] on one line -/
theorem s_asgc (K : XOk W G C Wx X) {i : Nat} {y : Str} {py : Pos} {cl : Bool} {e tgt it cond : T} {own : List Nat} {elt iter : Expr} {ifs : List Expr} {scope : Scope} {p2 : Pos} (hi : PI X tg iter (tI W G Wx it))
    (ok : BlkOk X.N X.env.scope scope (own.map fun i => (C.N.getD i Str.empty, i)))
    (hg : ∀ (s : Shared) (H : Hp) (Cc : Addr) (clo : List (Str × Addr)) (fp : List Addr), PG (X.blk s H scope (compEnvC scope clo Cc X.env) fp) tg (gT W G W0 tgt))
    (ht : ∀ (s : Shared) (H : Hp) (Cc : Addr) (clo : List (Str × Addr)) (fp : List Addr), PTs (X.blk s H scope (compEnvC scope clo Cc X.env) fp) ifs (tT W G W0 cond))
    (he : ∀ (s : Shared) (H : Hp) (Cc : Addr) (clo : List (Str × Addr)) (fp : List Addr), PE (X.blk s H scope (compEnvC scope clo Cc X.env) fp) elt (tE W G W0 e))
    (hs : ∀ x, foldedSetIterable iter X.env x = pure x) (ho : ∀ i ∈ tgs tgt, i ∈ own) (hy : C.N[i]? = some y) (hyl : X.env.scope.names.lookup y = some .local)
    (hsw : swapsWith (.ListComp elt [⟨tg, iter, ifs, 0⟩] scope p2) (some (.Name y py)) pos.line X.env = pure true) :
    PS X (.Assign [.Name y py] (.ListComp elt [⟨tg, iter, ifs, 0⟩] scope p2) pos) (tS W G Wx (.asgc i (.comp cl e tgt it cond own))) := by
  refine psImp (ps_setLc (i := i) K.calm K.nd (by rw [K.hN]; exact hy) hyl hsw hi ok hg ht he hs) fun D σ H ⟨ρ, S, mu, hid, hev, hgd, hf⟩ => ?_
  refine s_comp (cl := cl) K hi ok hg ht he hs ho σ H _ ⟨ρ, S, mu, hid, hev, hgd, ?_⟩
  have hf : Fin W mu hid H ((evE G (.comp cl e tgt it cond own) ρ S).bind fun d S1 => .ok (.nx (ρ.set i (some d))) S1) (fl W hid σ D) (xW W Wx) := by simpa only [evS] using hf
  refine hf.bind.mono (fun d S1 mu1 H1 _ _ ⟨e1, g1, f1⟩ v rv => ?_) fun _ _ _ h dx => h dx σ
  exact f1.here g1 _ (by simp) ((hev.ext e1).set rv)
theorem cellL_some {o : Ev.D} {S : Store} {u : Unit} (h : cellL o S = some u) : ∃ n ds, o = .cel n ∧ S[n]? = some (.lst ds) := by
  unfold cellL at h
  split at h
  · split at h
    · exact ⟨_, _, rfl, by assumption⟩
    · cases h
  · cases h
/-- x.append(e) -/
theorem s_app (K : XOk W G C Wx X) {i : Nat} {x : Str} {p1 p2 p3 : Pos} (h1 : C.N[i]? = some x) (h2 : visB X.env.scope x = true) (h3 : okName x = true) (hsup : (x == ("super" : Str)) = false) (ha : PE X ea (tE W G Wx a)) (hs : starred ea = false) (hl : (p2.endLine == p3.line) = true) :
    PS X (.Expr (.Call (.Attribute (.Name x p1) "append" p2) [ea] [] p3) pos) (tS W G Wx (.app i a)) := by
  have hv : PE X (.Name x p1) (tVar i) := pe_var (i := i) (by rw [K.hN]; exact h1) (vis_of h2) (okName_of h3).1 (okName_of h3).2
  have hA := pa_cons ha pa_nil (starEach_cons hs)
  refine psImp (ps_expr (pe_bm PySem.F.plainAttrs_list PySem.F.slot_list_append PySem.F.type_list_append mt_append hv hA rfl (by rw [starEach_cons hs]; rfl) hl (starEach_cons hs) (noStar_any rfl))) fun D σ H ⟨ρ, S, mu, hid, he, hg, hf⟩ => ?_
  simp only [evS] at hf
  have f0 := hf.bind
  obtain ⟨o, e0, f1⟩ := f0.ofO
  obtain ⟨_, _, f2⟩ := f1.here hg
  have f2 := f2.bind
  obtain ⟨_, e9, f2⟩ := f2.ofO
  obtain ⟨_, _, f2⟩ := f2.here hg
  obtain ⟨v, hv, rv⟩ := he.get e0
  -- a list cell: tracked
  have key : ∀ {d : Ev.D} {S1 S2 : Store}, appD o d S1 = some S2 → ∃ n ds, o = .cel n ∧ S1[n]? = some (.lst ds) ∧ ds.length < 1000000 ∧ S2 = S1.set n (.lst (ds ++ [d])) := fun {d S1 S2} e => by
    unfold appD at e
    split at e
    · split at e
      · split at e
        · cases e; exact ⟨_, _, rfl, by assumption, by assumption, rfl⟩
        · cases e
      · cases e
    · cases e
  refine ⟨v, hv, ?_, ρ, S, mu, hid, he, hg, f2.bind.mono (fun d S1 mu1 H1 _ _ ⟨e1, g1, f3⟩ w rw' => ?_) fun _ _ _ h dx => h dx σ⟩
  · obtain ⟨n, ds, rfl, hS⟩ := cellL_some e9
    obtain ⟨p, rfl, hm⟩ := rv
    obtain ⟨q, hq, vs, hH, r⟩ := hg.obj n _ hS
    rw [hm] at hq; cases hq
    exact .inl ⟨rfl, _, SqL.of hH⟩
  · have f4 := f3.bind
    obtain ⟨S2, e5, f5⟩ := f4.ofO
    obtain ⟨_, _, f6⟩ := f5.here g1
    obtain ⟨n, ds, rfl, hS, hz, rfl⟩ := key e5
    obtain ⟨p, rfl, hm⟩ := rv.ext e1
    obtain ⟨q, hq, vs, hH, r⟩ := g1.obj n _ hS
    rw [hm] at hq; cases hq
    obtain ⟨e6, g6⟩ := g1.put hS hm hH (r.app (show RepL W mu1 hid H1 [d] [w] from ⟨w, [], rfl, rw', rfl⟩))
    exact ⟨p, vs, w, rfl, rfl, hH, by rw [r.length]; exact Nat.lt_of_lt_of_le hz line6, f6.ok e6 g6 σ rfl ((he.ext e1).ext e6)⟩
/-- raise X('m'), X an own class -/
structure ExcOk (X : Cx) (x : Str) (cls : Value) : Prop where
  ex : ∃ A : Addr, cls = .ref A ∧ X.mg x = some (.ref A) ∧ PySem.W.excIn X.K A [.type "ValueError", .type "Exception", .type "BaseException", .type "object"] "ValueError.__new__" = true ∧ PySem.W.keepIn X.K (.ref A) = true ∧ Raises X (.ref A)
theorem s_raise (K : XOk W G C Wx X) {cn : Nat} {x m : Str} {p p2 p3 : Pos} {j : Nat} (h : ExcOk X x (W.cls cn)) (hg : glB X.env.scope x = true) (hd : okName x = true) :
    PS X (.Raise (some (.Call (.Name x p) [.Constant (.str m) j p2] [] p3)) none pos) (tS W G Wx (.raise cn)) := by
  obtain ⟨A, e1, e2, e3, e4, e5⟩ := h.ex
  refine psImp (ps_raise K.calm K.tk (pmk_own PySem.F.excBase_ValueError e3 e2 e4 e5 (gl_of hg) (okName_of hd).1)) fun D σ H ⟨ρ, S, mu, hid, he, hg, hf⟩ => ?_
  simp only [evS] at hf
  have := hf H mu .refl hg none σ
  rw [e1] at this
  exact this
end
end Ev
end
section
set_option Elab.async false
set_option linter.all false
set_option maxRecDepth 100000
/-! dict(zip(list, tuple)). -/
namespace PySem
open Sem (wp)
open PySem.W (KdxIt kdx_alive)
section
variable {prog : Program} {w : World} {A : Around} {E : Value → Shared → Prop} {s : Shared}
theorem zLT_item_held {z TI TO T i1 i2 l1 l2 : Addr} {f : Bool} {oT : Obj} {k1 k2 : Nat} {xs ys : Array Value} {x y : Value} {Q : Value → Shared → Prop} (D : ZipApart z TI TO i1 i2 l1 l2)
    (hz : IsZipHeld s.heap z TI TO T f) (hT : s.heap.get? T = some oT) (hTI : IsPair s.heap TI (.ref i1) (.ref i2))
    (h1 : s.heap.IsListIter i1 l1 k1) (h2 : s.heap.IsTupleIter i2 l2 k2) (hl1 : s.heap.IsList l1 xs) (hl2 : s.heap.IsTuple l2 ys) (hx : xs[k1]? = some x) (hy : ys[k2]? = some y)
    (hQ : ∀ h', IsZipHeld h' z TI TO T true → h'.IsListIter i1 l1 (k1 + 1) → h'.IsTupleIter i2 l2 (k2 + 1) → IsPair h' s.heap.objs.size x y → h'.objs.size = s.heap.objs.size + 1 →
      (∀ c o, c ≠ z → c ≠ i1 → c ≠ i2 → s.heap.get? c = some o → h'.get? c = some o) → Q (.ref s.heap.objs.size) { s with heap := h' }) :
    wpAny (model prog w) A (Builtin.«zip.__next__» ⟨[.ref z], []⟩) (fun fin s' => ∃ v, fin = .done (.ret v) ∧ Q v s') E s := by
  show wpAny _ _ (field (.ref z) 2 >>= _) _ _ _
  refine wpAny_bind (wpAny_field hz rfl (x := .bool false) rfl ?_)
  show wpAny _ _ (field (.ref z) 3 >>= _) _ _ _
  refine wpAny_bind (wpAny_field hz rfl (x := .ref TI) rfl ?_)
  refine wpAny_bind (wpAny_seqItems hTI rfl ?_)
  show wpAny _ _ (Builtin.SmallTypes.ownedTupleIsFree (.ref z) >>= _) _ _ _
  refine wpAny_bind (wpAny_tupleHeld_zip hz hT fun h₁ hz₁ hs₁ => ?_)
  simp only [Bool.false_eq_true, if_false]
  refine wpAny_bind ?_
  rw [← Array.forIn_toList]
  simp only [List.forIn_cons, List.forIn_nil]
  refine wpAny_bind (wpAny_bind (wpAny_holding ?_))
  show wpAny _ _ (Builtin.SmallTypes.nextOf (.ref i1) >>= _) _ _ _
  refine wpAny_bind (wpAny_nextOf_list_item (s := { s with heap := h₁ }) (h1.extBut hs₁.extBut D.i1z) (hl1.extBut hs₁.extBut D.l1z) hx fun h₂ h1₂ hs₂ => wpAny_pure ?_)
  refine wpAny_pure ?_
  refine wpAny_bind (wpAny_bind (wpAny_holding ?_))
  show wpAny _ _ (Builtin.SmallTypes.nextOf (.ref i2) >>= _) _ _ _
  refine wpAny_bind (wpAny_nextOf_tuple_item (s := { s with heap := h₂ }) ((h2.extBut hs₁.extBut D.i2z).extBut hs₂.extBut D.i12.symm) ((hl2.extBut hs₁.extBut D.l2z).extBut hs₂.extBut D.l2i1) hy fun h₃ h2₃ hs₃ => wpAny_pure ?_)
  refine wpAny_pure (wpAny_pure ?_)
  show wpAny _ _ (newTuple [x, y] >>= _) _ _ _
  refine wpAny_bind (wpAny_newTuple ?_)
  have hsz : h₃.objs.size = s.heap.objs.size := by rw [hs₃.1, hs₂.1, hs₁.1]
  have hz₃ : IsZipHeld h₃ z TI TO T true := hs₃.extBut _ _ D.i2z.symm (hs₂.extBut _ _ D.i1z.symm hz₁)
  have hk : ∀ c o, c ≠ z → c ≠ i1 → c ≠ i2 → s.heap.get? c = some o → h₃.get? c = some o := fun c o c1 c2 c3 e => hs₃.extBut _ _ c3 (hs₂.extBut _ _ c2 (hs₁.extBut _ _ c1 e))
  have h1₃ : h₃.IsListIter i1 l1 (k1 + 1) := h1₂.extBut hs₃.extBut D.i12
  refine wpAny_pure ⟨_, rfl, ?_⟩
  show Q (.ref h₃.objs.size) _
  have hp : IsPair (h₃.push { cls := .type "tuple", data := .seq #[x, y] }) h₃.objs.size x y := Heap.get?_push_size _ rfl
  have hz4 : (h₃.push { cls := .type "tuple", data := .seq #[x, y] }).objs.size = h₃.objs.size + 1 := Heap.size_push ..
  rw [hsz] at hp hz4 ⊢
  exact hQ _ (Heap.get?_push_of_some _ hz₃) (h1₃.at fun o e => Heap.get?_push_of_some _ e) (h2₃.at fun o e => Heap.get?_push_of_some _ e) hp hz4 fun c o c1 c2 c3 e => Heap.get?_push_of_some _ (hk c o c1 c2 c3 e)

theorem zLT_end_held {z TI TO T i1 i2 l1 l2 : Addr} {f : Bool} {oT : Obj} {k1 k2 : Nat} {xs ys : Array Value} {Q : Fin → Shared → Prop} (hh : A.handled = none) (D : ZipApart z TI TO i1 i2 l1 l2)
    (hz : IsZipHeld s.heap z TI TO T f) (hT : s.heap.get? T = some oT) (hTI : IsPair s.heap TI (.ref i1) (.ref i2))
    (h1 : s.heap.IsListIter i1 l1 k1) (h2 : s.heap.IsTupleIter i2 l2 k2) (hl1 : s.heap.IsList l1 xs) (hl2 : s.heap.IsTuple l2 ys) (hend : xs[k1]? = none ∨ ys[k2]? = none)
    (hE : ∀ h' e, (∀ c o, c ≠ z → c ≠ i1 → c ≠ i2 → s.heap.get? c = some o → h'.get? c = some o) → (∃ o, h'.get? e = some o ∧ o.cls = .type "StopIteration") → E (.ref e) { s with heap := h' }) :
    wpAny (model prog w) A (Builtin.«zip.__next__» ⟨[.ref z], []⟩) Q E s := by
  show wpAny _ _ (field (.ref z) 2 >>= _) _ _ _
  refine wpAny_bind (wpAny_field hz rfl (x := .bool false) rfl ?_)
  show wpAny _ _ (field (.ref z) 3 >>= _) _ _ _
  refine wpAny_bind (wpAny_field hz rfl (x := .ref TI) rfl ?_)
  refine wpAny_bind (wpAny_seqItems hTI rfl ?_)
  show wpAny _ _ (Builtin.SmallTypes.ownedTupleIsFree (.ref z) >>= _) _ _ _
  refine wpAny_bind (wpAny_tupleHeld_zip hz hT fun h₁ hz₁ hs₁ => ?_)
  simp only [Bool.false_eq_true, if_false]
  refine wpAny_bind ?_
  rw [← Array.forIn_toList]
  simp only [List.forIn_cons, List.forIn_nil]
  refine wpAny_bind (wpAny_bind (wpAny_holding ?_))
  show wpAny _ _ (Builtin.SmallTypes.nextOf (.ref i1) >>= _) _ _ _
  cases hx : xs[k1]? with
  | none =>
    refine wpAny_bind (wpAny_nextOf_list_end (s := { s with heap := h₁ }) hh (h1.extBut hs₁.extBut D.i1z) (hl1.extBut hs₁.extBut D.l1z) hx fun h₂ e hs₂ he => ?_)
    exact hE h₂ e (fun c o c1 c2 _ x => hs₂ _ _ c2 (hs₁.extBut _ _ c1 x)) he
  | some x =>
    have hy : ys[k2]? = none := by rcases hend with h | h; rw [hx] at h; cases h; exact h
    refine wpAny_bind (wpAny_nextOf_list_item (s := { s with heap := h₁ }) (h1.extBut hs₁.extBut D.i1z) (hl1.extBut hs₁.extBut D.l1z) hx fun h₂ h1₂ hs₂ => wpAny_pure ?_)
    refine wpAny_pure ?_
    refine wpAny_bind (wpAny_bind (wpAny_holding ?_))
    show wpAny _ _ (Builtin.SmallTypes.nextOf (.ref i2) >>= _) _ _ _
    refine wpAny_bind (wpAny_nextOf_tuple_end (s := { s with heap := h₂ }) hh ((h2.extBut hs₁.extBut D.i2z).extBut hs₂.extBut D.i12.symm) ((hl2.extBut hs₁.extBut D.l2z).extBut hs₂.extBut D.l2i1) hy fun h₃ e hs₃ he => ?_)
    exact hE h₃ e (fun c o c1 c2 c3 x => hs₃ _ _ c3 (hs₂.extBut _ _ c2 (hs₁.extBut _ _ c1 x))) he

theorem nx_zLT_item_held {z TI TO T i1 i2 l1 l2 : Addr} {f : Bool} {oT : Obj} {k1 k2 : Nat} {xs ys : Array Value} {x y : Value} {Q : Option Value → Shared → Prop} (D : ZipApart z TI TO i1 i2 l1 l2)
    (hz : IsZipHeld s.heap z TI TO T f) (hT : s.heap.get? T = some oT) (hTI : IsPair s.heap TI (.ref i1) (.ref i2))
    (h1 : s.heap.IsListIter i1 l1 k1) (h2 : s.heap.IsTupleIter i2 l2 k2) (hl1 : s.heap.IsList l1 xs) (hl2 : s.heap.IsTuple l2 ys) (hx : xs[k1]? = some x) (hy : ys[k2]? = some y)
    (hQ : ∀ h', IsZipHeld h' z TI TO T true → h'.IsListIter i1 l1 (k1 + 1) → h'.IsTupleIter i2 l2 (k2 + 1) → IsPair h' s.heap.objs.size x y → h'.objs.size = s.heap.objs.size + 1 →
      (∀ c o, c ≠ z → c ≠ i1 → c ≠ i2 → s.heap.get? c = some o → h'.get? c = some o) → Q (some (.ref s.heap.objs.size)) { s with heap := h' }) :
    wpAny (model prog w) A (pyNext (.ref z)) Q E s := by
  have hTy : s.TypeIs (.ref z) "zip" := ⟨_, hz, rfl⟩
  unfold pyNext
  exact wpAny_bind (wpAny_attempt (wpAny_callSpecial?_slot (name := Str.ofString "__next__") hTy F.slot_zip_next
    (wpAny_call_entry F.slot_zip_next hTy F.entry_zip_next
      (zLT_item_held D hz hT hTI h1 h2 hl1 hl2 hx hy fun h' a1 a3 a4 a5 a6 a7 => wpAny_pure (hQ h' a1 a3 a4 a5 a6 a7)) (F.args_zip_next_1 _))))
theorem nx_zLT_end_held {z TI TO T i1 i2 l1 l2 : Addr} {f : Bool} {oT : Obj} {k1 k2 : Nat} {xs ys : Array Value} {Q : Option Value → Shared → Prop} (hh : A.handled = none) (D : ZipApart z TI TO i1 i2 l1 l2)
    (hz : IsZipHeld s.heap z TI TO T f) (hT : s.heap.get? T = some oT) (hTI : IsPair s.heap TI (.ref i1) (.ref i2))
    (h1 : s.heap.IsListIter i1 l1 k1) (h2 : s.heap.IsTupleIter i2 l2 k2) (hl1 : s.heap.IsList l1 xs) (hl2 : s.heap.IsTuple l2 ys) (hend : xs[k1]? = none ∨ ys[k2]? = none)
    (hQ : ∀ h', (∀ c o, c ≠ z → c ≠ i1 → c ≠ i2 → s.heap.get? c = some o → h'.get? c = some o) → Q none { s with heap := h' }) : wpAny (model prog w) A (pyNext (.ref z)) Q E s := by
  have hTy : s.TypeIs (.ref z) "zip" := ⟨_, hz, rfl⟩
  unfold pyNext
  refine wpAny_bind (wpAny_attempt (wpAny_callSpecial?_slot (name := Str.ofString "__next__") hTy F.slot_zip_next
    (wpAny_call_entry F.slot_zip_next hTy F.entry_zip_next (zLT_end_held hh D hz hT hTI h1 h2 hl1 hl2 hend fun h' e hk he => ?_) (F.args_zip_next_1 _))))
  obtain ⟨o, ho, hc⟩ := he
  refine wpAny_bind (wpAny_isInstance (T := "StopIteration") (b := true) ⟨o, ho, hc⟩ isSubtype_stop ?_)
  exact wpAny_pure (hQ _ hk)


end
section
variable {prog : Program} {w : World}
theorem sepLT {z TI TO i1 i2 l1 l2 : Addr} (D : ZipApart z TI TO i1 i2 l1 l2) : ZipSep2 z TI TO i1 i2 [i1, l1] [i2, l2] where
  TIz := D.TIz
  TOz := D.TOz
  TITO := D.TITO
  TIi1 := D.TIi1
  mem1 := by simp
  zf1 := by simp [D.i1z.symm, D.l1z.symm]
  Tf1 := by simp [D.TOi1, D.l1TO.symm]
  TIi2 := D.TIi2
  mem2 := by simp
  zf2 := by simp [D.i2z.symm, D.l2z.symm]
  Tf2 := by simp [D.TOi2, D.l2TO.symm]
  sep1_2 := by simp [D.i12, D.l2i1.symm]
  sep2_1 := by simp [D.i12.symm, D.l1i2.symm]
theorem PairArg.zLT (z TI TO i1 i2 l1 l2 : Addr) (D : ZipApart z TI TO i1 i2 l1 l2) (xs ys : Array Value) :
    PairArg prog w "zip" z [z, TI, TO, i1, i2, l1, l2] [z, TO, i1, i2] (min xs.size ys.size) (fun i k v => xs[i]? = some k ∧ ys[i]? = some v)
      (fun h => IsZip h z TI TO .none ∧ IsPair h TI (.ref i1) (.ref i2) ∧ (∃ a b, IsPair h TO a b) ∧ h.IsListIter i1 l1 0 ∧ h.IsTupleIter i2 l2 0 ∧ h.IsList l1 xs ∧ h.IsTuple l2 ys) where
  type := fun s ok => ⟨_, ok.1, rfl⟩
  notDict := by decide
  keep := fun h h' ok hk => by
    obtain ⟨hz, hTI, ⟨a, b, hTO⟩, h1, h2, hl1, hl2⟩ := ok
    exact ⟨hk _ _ hz, hk _ _ hTI, ⟨a, b, hk _ _ hTO⟩, h1.at fun o e => hk _ o e, h2.at fun o e => hk _ o e, hl1.at fun o e => hk _ o e, hl2.at fun o e => hk _ o e⟩
  there := fun h ok b hb => by
    obtain ⟨hz, hTI, ⟨a, c, hTO⟩, ⟨o1, h1, _⟩, ⟨o2, h2, _⟩, ⟨o3, hl1, _⟩, ⟨o4, hl2, _⟩⟩ := ok
    simp only [List.mem_cons, List.not_mem_nil, or_false] at hb
    rcases hb with rfl | rfl | rfl | rfl | rfl | rfl | rfl
    all_goals first | exact ⟨_, hz⟩ | exact ⟨_, hTI⟩ | exact ⟨_, hTO⟩ | exact ⟨_, h1⟩ | exact ⟨_, h2⟩ | exact ⟨_, hl1⟩ | exact ⟨_, hl2⟩
  sub := fun b hb => by simp at hb ⊢; rcases hb with rfl | rfl | rfl | rfl <;> simp
  noKeys := fun A s Q E hA ok h => getAttrOr_miss_zip ok.1 rfl rfl rfl zip_no_keys (by decide +kernel) hA h
  iter := fun A s d Q E hA ok hd hdf h => by
    obtain ⟨hz, hTI, ⟨a, b, hTO⟩, h1, h2, hl1, hl2⟩ := ok
    simp only [List.mem_cons, List.not_mem_nil, or_false, not_or] at hdf
    obtain ⟨dz, dTI, dTO, di1, di2, dl1, dl2⟩ := hdf
    refine wpAny_pyIter_zip hz (h z [z, TO, i1, i2] (fun i h => IsPair h TI (.ref i1) (.ref i2) ∧ h.IsListIter i1 l1 i ∧ h.IsTupleIter i2 l2 i ∧ h.IsList l1 xs ∧ h.IsTuple l2 ys ∧
      ((IsZip h z TI TO .none ∧ ∃ a b, IsPair h TO a b) ∨ ∃ T f oT, IsZipHeld h z TI TO T f ∧ h.get? T = some oT ∧ T ≠ z ∧ T ≠ i1 ∧ T ≠ i2 ∧ T ≠ d)) s.heap s.toks ?_
      ⟨hTI, h1, h2, hl1, hl2, .inl ⟨hz, a, b, hTO⟩⟩ (fun _ _ e => e) fun b hb => .inl hb)
    exact {
      off := fun hm => by
        simp only [List.mem_cons, List.not_mem_nil, or_false] at hm
        rcases hm with e | e | e | e
        · exact dz e
        · exact dTO e
        · exact di1 e
        · exact di2 e
      frame := fun i h₁ h₂ st hk => by
        obtain ⟨hTI, h1, h2, hl1, hl2, hz⟩ := st
        refine ⟨hk _ _ (Ne.symm dTI) hTI, h1.at fun o e => hk _ o (Ne.symm di1) e, h2.at fun o e => hk _ o (Ne.symm di2) e, hl1.at fun o e => hk _ o (Ne.symm dl1) e, hl2.at fun o e => hk _ o (Ne.symm dl2) e, ?_⟩
        rcases hz with ⟨hz, a, b, hTO⟩ | ⟨T, f, oT, hz, hT, r1, r2, r3, r4⟩
        · exact .inl ⟨hk _ _ (Ne.symm dz) hz, a, b, hk _ _ (Ne.symm dTO) hTO⟩
        · exact .inr ⟨T, f, oT, hk _ _ (Ne.symm dz) hz, hk _ _ r4 hT, r1, r2, r3, r4⟩
      item := fun i s₁ Q₁ E₁ hi st hds hQ => by
        obtain ⟨hTI, h1, h2, hl1, hl2, hz⟩ := st
        have hix : i < xs.size := Nat.lt_of_lt_of_le hi (Nat.min_le_left ..)
        have hiy : i < ys.size := Nat.lt_of_lt_of_le hi (Nat.min_le_right ..)
        have ex := Array.getElem?_eq_getElem hix
        have ey := Array.getElem?_eq_getElem hiy
        have lt : ∀ {c o}, s₁.heap.get? c = some o → s₁.heap.objs.size ≠ c := fun e => Nat.ne_of_gt (Heap.lt_size e)
        have n1 : s₁.heap.objs.size ≠ i1 := let ⟨_, e, _⟩ := h1; lt e
        have n2 : s₁.heap.objs.size ≠ i2 := let ⟨_, e, _⟩ := h2; lt e
        rcases hz with ⟨hz, a, b, hTO⟩ | ⟨T, f, oT, hz, hT, r1, r2, r3, r4⟩
        · refine wpAny_pyNext_zipD2_item (sepLT D) (Draws.list (A := A.in1) (show A.in1.handled = none from hA) i1 l1 D.l1i1 xs) (Draws.tuple (A := A.in1) (show A.in1.handled = none from hA) i2 l2 D.l2i2 ys) hz hTI hTO ⟨h1, hl1⟩ ⟨h2, hl2⟩ hix hiy fun x1 x2 h' tk y1 y2 a1 a2 st1 st2 a5 a6 hk => ?_
          exact hQ s₁.heap.objs.size _ _ h' tk ⟨y1, y2⟩ (.inl ⟨_, a5, rfl, _, rfl⟩)
            ⟨hk _ _ D.TIz D.TITO D.TIi1 D.TIi2 hTI, st1.1, st2.1, hl1.at fun o e => hk _ o D.l1z D.l1TO D.l1i1 D.l1i2 e, hl2.at fun o e => hk _ o D.l2z D.l2TO D.l2i1 D.l2i2 e,
              .inr ⟨s₁.heap.objs.size, false, _, a1, a5, lt hz, n1, n2, Nat.ne_of_gt hds⟩⟩
            fun c o hc e => hk c o (fun x => hc (by simp [x])) (fun x => hc (by simp [x])) (fun x => hc (by simp [x])) (fun x => hc (by simp [x])) e
        · refine nx_zLT_item_held D hz hT hTI h1 h2 hl1 hl2 ex ey fun h' a1 a3 a4 a5 a6 hk => ?_
          exact hQ s₁.heap.objs.size _ _ h' s₁.toks ⟨ex, ey⟩ (.inl ⟨_, a5, rfl, _, rfl⟩)
            ⟨hk _ _ D.TIz D.TIi1 D.TIi2 hTI, a3, a4, hl1.at fun o e => hk _ o D.l1z D.l1i1 D.l1i2 e, hl2.at fun o e => hk _ o D.l2z D.l2i1 D.l2i2 e,
              .inr ⟨T, true, oT, a1, hk _ _ r1 r2 r3 hT, r1, r2, r3, r4⟩⟩
            fun c o hc e => hk c o (fun x => hc (by simp [x])) (fun x => hc (by simp [x])) (fun x => hc (by simp [x])) e
      done := fun s₁ Q₁ E₁ st hQ => by
        obtain ⟨hTI, h1, h2, hl1, hl2, hz⟩ := st
        have hend : xs[min xs.size ys.size]? = none ∨ ys[min xs.size ys.size]? = none := by
          rcases Nat.le_total xs.size ys.size with h | h
          · exact .inl (Array.getElem?_eq_none (by rw [Nat.min_eq_left h]; exact Nat.le_refl _))
          · exact .inr (Array.getElem?_eq_none (by rw [Nat.min_eq_right h]; exact Nat.le_refl _))
        rcases hz with ⟨hz, a, b, hTO⟩ | ⟨T, f, oT, hz, hT, r1, r2, r3, r4⟩
        · exact wpAny_pyNext_zipD2_end (sepLT D) (Draws.list (A := A.in1) (show A.in1.handled = none from hA) i1 l1 D.l1i1 xs) (Draws.tuple (A := A.in1) (show A.in1.handled = none from hA) i2 l2 D.l2i2 ys) hz hTI hTO ⟨h1, hl1⟩ ⟨h2, hl2⟩ (Nat.min_le_left ..) (Nat.min_le_right ..) (by omega) fun h' tk hk => hQ h' tk fun c o hc e => hk c o (fun x => hc (by simp [x])) (fun x => hc (by simp [x])) (fun x => hc (by simp [x])) (fun x => hc (by simp [x])) e
        · exact nx_zLT_end_held hA D hz hT hTI h1 h2 hl1 hl2 hend fun h' hk => hQ h' s₁.toks fun c o hc e => hk c o (fun x => hc (by simp [x])) (fun x => hc (by simp [x])) (fun x => hc (by simp [x])) e }


end
end PySem
namespace Ev
open PySem PySem.Spec PyProof.Rows L2
/-- dict(zip(a, b)): a list of keys, a tuple of what stands there -/
def tDz (K : PySem.W.Frag) (ta : TA) : TE := fun σ H Q => ta σ H fun vs H1 => ∃ (a b : Addr) (ps : List (List Key × Addr)) (ys : List V), vs = [.ref a, .ref b] ∧ SqL K H1 a (ps.map fun p => .ref p.2) ∧ SqT K H1 b ys ∧ (∀ p ∈ ps, H1 p.2 = some (.tup (p.1.map kV))) ∧ (ps.map (·.1)).Nodup ∧ ps.length ≤ sizeLine ∧
  ∀ q, H1 q = none → Q (.ref q) (upd H1 q (.dT (List.zipWith (fun p y => (p.1, y)) ps ys)))
theorem dz_paired {H : Hp} : ∀ {ps : List (List Key × Addr)} {ys : List V} {us : List Value}, (∀ p ∈ ps, H p.2 = some (.tup (p.1.map kV))) → Vals ys us →
    Paired (fun (p : List Key × V) (q : List Key × Addr × Value) => p.1 = q.1 ∧ H q.2.1 = some (.tup (p.1.map kV)) ∧ RelV p.2 q.2.2) (List.zipWith (fun p y => (p.1, y)) ps ys) (List.zipWith (fun p u => (p.1, p.2, u)) ps us)
  | [], _, _, _, _ => by simp only [List.zipWith_nil_left]; exact .nil
  | p :: ps, [], _, _, .nil => by simp only [List.zipWith_nil_right]; exact .nil
  | p :: ps, y :: ys, u :: us, h, .cons r rr => by
    simp only [List.zipWith_cons_cons]
    exact .cons ⟨rfl, h p List.mem_cons_self, r⟩ (dz_paired (fun x hx => h x (List.mem_cons_of_mem _ hx)) rr)
theorem dz_keys {us : List Value} : ∀ {ps : List (List Key × Addr)}, ∃ n, (List.zipWith (fun p u => (p.1, p.2, u)) ps us).map (·.1) = (ps.map (·.1)).take n := by
  induction us with
  | nil => intro ps; exact ⟨0, by simp⟩
  | cons u us ih =>
    intro ps
    cases ps with
    | nil => exact ⟨0, by simp⟩
    | cons p ps =>
      obtain ⟨n, e⟩ := ih (ps := ps)
      exact ⟨n + 1, by simp only [List.zipWith_cons_cons, List.map_cons, List.take_succ_cons, e]⟩
theorem pe_dz {X : Cx} {e e2 : Expr} {ta : TA} {p p2 pos pos2 : Pos} (hgd : Gl X "dict") (hmd : X.mg "dict" = none) (hgz : Gl X "zip") (hmz : X.mg "zip" = none) (hc : X.calm = true) (hu : X.A.units + 65 < cLine) (ha : PA X [e, e2] ta)
    (hs : starEach [e, e2] X.env = (false, eval e X.env) :: starEach [e2] X.env) (hpl : (backTo pos2 (starEach [e2] X.env)).any (·.1) = false) :
    PE X (.Call (.Name "dict" p) [.Call (.Name "zip" p2) [e, e2] [] pos2] [] pos) (tDz X.K ta) := by
  refine ⟨fun pins s σ H Q I h => ?_⟩
  refine Call_ (ld_blt I hgd hmd PyProof.Rows.boot_dict (PyProof.Rows.callWith_type1 ?_ rfl rfl))
  show wpAny _ _ (spliced ((false, eval (.Call (.Name "zip" p2) [e, e2] [] pos2) X.env) :: [])) _ _ s
  refine Calls.spliced_cons (Call_ (ld_blt I hgz hmz PyProof.Rows.boot_zip (PyProof.Rows.callWith_type1 (thn (ha.run pos2 pins s σ H _ I h) fun us s1 ⟨vs, H1, I1, r1, q1⟩ => ?_) hs hpl)))
  obtain ⟨a, b, ps, ys, ex, hqx, hqy, hk, hnd, hsz, q⟩ := q1
  subst ex
  cases r1 with
  | cons r rr =>
    cases rr with
    | cons r' rr =>
      cases rr
      cases r
      cases r'
      obtain ⟨its, rv, p1, _⟩ := I1.list hqx
      obtain ⟨its2, rv2, p3, _⟩ := I1.tuple hqy
      obtain ⟨o2, ho2, _⟩ := id p3
      have la : a < s1.heap.objs.size := p1.lt
      have lb : b < s1.heap.objs.size := Heap.lt_size ho2
      refine zip_begins2 (begins_list a its.toArray) (begins_tuple b its2.toArray) p1.isList p3 fun h' hz hTI hTO h1 h2 hsz' hkp => Calls.spliced_nil ?_
      have D := PySem.W.ktu_apart s1.heap.objs.size a b la lb
      have big := I1.big
      generalize hN : s1.heap.objs.size = N at *
      have P := PairArg.zLT (prog := X.prog) (w := X.w) (N + 4) (N + 2) (N + 3) N (N + 1) a b D its.toArray its2.toArray
      have ok : (IsZip h' (N + 4) (N + 2) (N + 3) .none ∧ IsPair h' (N + 2) (.ref N) (.ref (N + 1)) ∧ (∃ a b, IsPair h' (N + 3) a b) ∧ h'.IsListIter N a 0 ∧ h'.IsTupleIter (N + 1) b 0 ∧ h'.IsList a its.toArray ∧ h'.IsTuple b its2.toArray) :=
        ⟨hz, hTI, ⟨_, _, hTO⟩, ⟨_, h1, rfl, rfl⟩, ⟨_, h2, rfl, rfl⟩, p1.isList.at fun o q => hkp _ o q, (show s1.heap.IsTuple b its2.toArray from p3).at fun o q => hkp _ o q⟩
      have hl1 : its.length = ps.length := by rw [← rv.length, List.length_map]
      have hget : ∀ (i : Nat) (key : Value), its.toArray[i]? = some key → ∃ p, ps[i]? = some p ∧ key = .ref p.2 := fun i key hki => by
        rw [List.getElem?_toArray] at hki
        have hi : i < ps.length := by rw [← hl1]; exact (List.getElem?_eq_some_iff.1 hki).1
        obtain ⟨u, hu', ru⟩ := rv.get (i := i) (x := .ref ps[i].2) (by simp [hi])
        rw [hki] at hu'
        cases hu'
        exact ⟨ps[i], List.getElem?_eq_getElem hi, ru⟩
      have hc2 : PairsHaveH (tupleKind (mixKind X.prog X.w)) (min its.toArray.size its2.toArray.size) (fun i k v => its.toArray[i]? = some k ∧ its2.toArray[i]? = some v) (List.zipWith (fun p u => (p.1, p.2, u)) ps its2) := by
        refine ⟨by simp [hl1], fun i key v hr => ?_⟩
        obtain ⟨p, hp, ek⟩ := hget i key hr.1
        have hv : its2[i]? = some v := by rw [← List.getElem?_toArray]; exact hr.2
        refine ⟨p.1, p.2, ?_, ek⟩
        rw [List.getElem?_zipWith, hp, hv]
      have hmem : ∀ x ∈ List.zipWith (fun (p : List Key × Addr) (u : Value) => (p.1, p.2, u)) ps its2, ∃ p ∈ ps, x.1 = p.1 ∧ x.2.1 = p.2 := fun x hx => by
        obtain ⟨i, hi⟩ := List.mem_iff_getElem?.1 hx
        rw [List.getElem?_zipWith] at hi
        cases hp : ps[i]? with
        | none => rw [hp] at hi; simp at hi
        | some p =>
          cases hv : its2[i]? with
          | none => rw [hp, hv] at hi; simp at hi
          | some v =>
            rw [hp, hv] at hi
            cases hi
            exact ⟨p, List.mem_of_getElem? hp, rfl, rfl⟩
      have hnw : ∀ c : Addr, c < N → c ∉ [N + 4, N + 3, N, N + 1] := fun c hcn hm => by
        simp only [List.mem_cons, List.not_mem_nil, or_false] at hm
        rcases hm with rfl | rfl | rfl | rfl
        · exact Nat.not_lt.2 (Nat.le_add_right N 4) hcn
        · exact Nat.not_lt.2 (Nat.le_add_right N 3) hcn
        · exact Nat.lt_irrefl _ hcn
        · exact Nat.not_lt.2 (Nat.le_add_right N 1) hcn
      have kst : KeysStay (tupleKind (mixKind X.prog X.w)) h' h'.objs.size [N + 4, N + 3, N, N + 1] (List.zipWith (fun p u => (p.1, p.2, u)) ps its2) := fun h2' hk2 x hx => by
        obtain ⟨p, hp, e1, e2⟩ := hmem x hx
        obtain ⟨o, its3, n, g1, g2, g3, g4⟩ := key_of I1.hok (hk p hp)
        have lt : p.2 < N := by rw [← hN]; exact Heap.lt_size g1
        rw [e1, e2]
        refine ⟨o, its3, n, hk2 _ _ ?_ (hnw _ lt) (hkp _ _ g1), g2, g3, g4⟩
        rw [hsz']
        exact Nat.ne_of_lt (Nat.lt_of_lt_of_le lt (Nat.le_add_right _ _))
      refine call_dict_pairsH (s := { s1 with heap := h' }) P (I.ok.hd hc) ?_ ok hc2 kst ?_ fun h'' tk hd'' hk'' => ?_
      · exact tupleKind_room_in1 (show X.A.units + 1 + 1 < cLine from Nat.lt_of_le_of_lt (Nat.add_le_add_left (show 2 ≤ 65 by decide) _) hu)
      · exact Nat.le_trans (Nat.min_le_left ..) (by simp only [List.size_toArray, hl1]; exact hsz)
      · have hfr : H1 h'.objs.size = none := I1.hok.fresh (by rw [hsz', hN]; exact Nat.le_add_right _ _)
        have hkeep : ∀ c o, s1.heap.get? c = some o → h''.get? c = some o := fun c o hco => hk'' c o (hnw c (by rw [← hN]; exact Heap.lt_size hco)) (hkp c o hco)
        have hndp : ((List.zipWith (fun (p : List Key × Addr) (u : Value) => (p.1, p.2, u)) ps its2).map (·.1)).Nodup := by
          obtain ⟨m, em⟩ := dz_keys (us := its2) (ps := ps)
          rw [em]
          exact hnd.sublist (List.take_sublist _ _)
        rw [storedAllH_append_of_fresh [] _ (by simpa using hndp), List.nil_append] at hd''
        obtain ⟨o, es, ep, g1, g2, g3, g4, g5, g6⟩ := hd''
        refine ⟨.ref h'.objs.size, _, I1.laid (a := h'.objs.size) (t' := tk) hkeep (by rw [hsz', hN]; exact Nat.le_add_right _ _) (show ObjOk X.prog X.w _ _ _ (.dT (List.zipWith (fun p y => (p.1, y)) ps ys)) from ⟨?_, ?_, _, dz_paired (fun p hp => ?_) rv2, o, es, ep, g1, g2, g3, g4, g6⟩), rfl, q _ hfr⟩
        · rw [List.length_zipWith]
          exact Nat.le_trans (Nat.min_le_left ..) hsz
        · refine beq_eq_false_iff_ne.mpr (Nat.ne_of_gt ?_)
          rw [hsz']
          exact Nat.lt_of_lt_of_le big (Nat.le_add_right _ _)
        · rw [upd_ne fun e' => ?_]
          · exact hk p hp
          · rw [← e', hk p hp] at hfr; cases hfr
end Ev
end
section
set_option Elab.async false
set_option linter.all false
set_option maxRecDepth 100000
set_option maxHeartbeats 1000000
namespace Ev
open PySem PySem.Spec PyProof.Rows L2
section
variable {W : Wd} {G : Glb} {C : Ck} {Wx : WX} {X : Cx} {pos : Pos} {ea eb ec : Expr} {a b c es : T} {xs : List Expr} {mu hid : List Addr} {H : Hp} {S : Store}
/-! ### a call of what a name holds -/
theorem s_callv (K : XOk W G C Wx X) {i : Nat} {x : Str} {p : Pos} (h1 : C.N[i]? = some x) (h2 : visB X.env.scope x = true) (h3 : okName x = true) (ha : PA X (ea :: xs) (tA W G Wx es)) (hs : noStar (ea :: xs) = true) :
    PE X (.Call (.Name x p) (ea :: xs) [] pos) (tE W G Wx (.callv i es)) := by
  refine ⟨fun pins s σ H Q I ⟨ρ, S, mu, hid, he, hg, hf⟩ => ?_⟩
  simp only [evE] at hf
  have hf := hf.bind
  obtain ⟨d, e, hf⟩ := hf.ofO
  obtain ⟨_, _, hf⟩ := hf.here hg
  cases d with
  | fn f =>
    simp only at hf
    split at hf
    · rename_i hlt
      obtain ⟨v, hσ, rv⟩ := he.get e
      cases rv
      obtain ⟨y, hy⟩ := K.fnr f hlt
      obtain ⟨fd, ps, F, hm, hk, hb⟩ := K.fns f y hy
      have hr := K.room.mono (Nat.le_add_right G.lv C.sl)
      simp only [noStar, Bool.and_eq_true, Bool.not_eq_true'] at hs
      have hv := (pe_var (X := X) (pos := p) (i := i) (by rw [K.hN]; exact h1) (vis_of h2) (okName_of h3).1 (okName_of h3).2).run pins s σ H (fun v H1 => v = .ref (W.fa f) ∧ H1 = H) I ⟨.ref (W.fa f), hσ, rfl, rfl⟩
      refine wpAny_Call_Name_kw (thn hv fun u s1 ⟨v, H1, I1, r1, q1⟩ => ?_)
      obtain ⟨rfl, rfl⟩ := q1
      cases r1
      have ht : tA W G Wx es σ H1 (fun vs H2 => spF W (G.call f) vs H2 Q (WE Wx σ)) :=
        ⟨ρ, S, mu, hid, he, hg, hf.bind.mono (fun ds S1 mu1 H2 _ _ ⟨e1, g1, f1⟩ vs rx => ⟨ds, S1, mu1, hid, rx, g1, f1⟩) fun _ _ _ h => h⟩
      exact PySem.W.callWith_K (h₀ := X.base) I.ok.mod.kin hk (thn (ha.run pos pins s1 σ _ _ I1 ht) fun us s2 ⟨vs, H2, I2, r, q⟩ => ⟨I2.kIn, run_fnS F hr hb (passAt K.tk σ) I2 r q⟩) (starEach_cons hs.1) (noStar_any hs.2)
    · exact hf.elim
  | _ => exact hf.elim
/-! ### list(range(..)) -/
theorem rgV_rep {i : Int} {n : Nat} {j : Int} (hn : (j - i).toNat = n) : RepL W mu hid H (rngL i 1 n) (rgV i j) := by
  unfold rngL rgV
  rw [hn]
  generalize List.range n = l
  induction l with
  | nil => rfl
  | cons k l ih => exact ⟨_, _, rfl, by show V.int _ = V.int _; congr 1; omega, ih⟩
theorem s_lrng1 (K : XOk W G C Wx X) {p q pos2 : Pos} (hg : glB X.env.scope "list" = true) (hg2 : glB X.env.scope "range" = true) (ha : PE X ea (tE W G Wx a)) (hs : starred ea = false) :
    PE X (.Call (.Name "list" p) [.Call (.Name "range" q) [ea] [] pos2] [] pos) (tE W G Wx (.lrng1 a)) := by
  refine peImp (pe_listRg K.calm (gl_of hg) (K.blt "list" (by decide +kernel)) (prg_1 (gl_of hg2) (K.blt "range" (by decide +kernel)) ha (starEach_cons hs)) (starEach_cons rfl)) fun σ H Q ⟨ρ, S, mu, hid, he, hgd, hf⟩ => ?_
  simp only [evE] at hf
  refine ⟨ρ, S, mu, hid, he, hgd, hf.bind.mono (fun x S1 mu1 H1 _ _ ⟨e1, g1, f1⟩ v rx => ?_) fun _ _ _ h => h⟩
  cases x with
  | int j =>
    simp only at f1
    split at f1
    · rename_i hj
      refine ⟨j, rx, .of_le (by omega) (by omega) (by omega) (by omega), fun q hq => f1.ok (Ext.same (same_new hq)) (g1.same (same_new hq)) _ (Rep.newL g1 hq (rgV_rep (by congr 1; omega)))⟩
    · exact f1.elim
  | _ => exact f1.elim
theorem s_lrng2 (K : XOk W G C Wx X) {p q pos2 : Pos} (hg : glB X.env.scope "list" = true) (hg2 : glB X.env.scope "range" = true) (ha : PE X ea (tE W G Wx a)) (hs : starred ea = false) (hb : PE X eb (tE W G Wx b)) (hs2 : starred eb = false) :
    PE X (.Call (.Name "list" p) [.Call (.Name "range" q) [ea, eb] [] pos2] [] pos) (tE W G Wx (.lrng2 a b)) := by
  refine peImp (pe_listRg K.calm (gl_of hg) (K.blt "list" (by decide +kernel)) (prg_2 (gl_of hg2) (K.blt "range" (by decide +kernel)) ha hb (starEach_cons hs) (starEach_cons hs2) (noStar_any (by simp [noStar, hs2]))) (starEach_cons rfl)) fun σ H Q ⟨ρ, S, mu, hid, he, hgd, hf⟩ => ?_
  simp only [evE] at hf
  refine ⟨ρ, S, mu, hid, he, hgd, hf.bind.mono (fun x S1 mu1 H1 _ _ ⟨e1, g1, f1⟩ v rx => ?_) fun _ _ _ h => h⟩
  refine ⟨ρ, S1, mu1, hid, he.ext e1, g1, f1.bind.mono (fun y S2 mu2 H2 _ _ ⟨e2, g2, f2⟩ w ry => ?_) fun _ _ _ h => h⟩
  cases x with
  | int i =>
    cases y with
    | int j =>
      simp only at f2
      split at f2
      · rename_i hj
        refine ⟨i, j, rx, ry, .of_le (by omega) (by omega) (by omega) (by omega), fun q hq => f2.ok (Ext.same (same_new hq)) (g2.same (same_new hq)) _ (Rep.newL g2 hq (rgV_rep rfl))⟩
      · exact f2.elim
    | _ => exact f2.elim
  | _ => exact f2.elim
/-! ### dicts with tuples as keys -/
theorem key_rep {d : D} {v : V} {k : Key} (r : Rep W mu hid H d v) (h : keyD d = some k) : v = kV k := by
  cases d <;> simp only [keyD, reduceCtorEq, Option.some.injEq] at h
  · subst h; exact r
  · subst h; exact r
theorem keyL_rep : ∀ {ds : List D} {vs : List V} {ks : List Key}, RepL W mu hid H ds vs → keyL ds = some ks → vs = ks.map kV
  | [], _, ks, h, e => by cases e; rw [show _ = [] from h]; rfl
  | d :: ds, _, ks, ⟨v, vs, e1, r1, r2⟩, e => by
    simp only [keyL] at e
    split at e
    · rename_i k l hk hl
      cases e
      rw [e1, key_rep r1 hk, keyL_rep r2 hl]; rfl
    · cases e
theorem getK_rep : ∀ {kvs : List (List Key × D)} {vs : List (List Key × V)} {k : List Key} {d : D}, vs.map (·.1) = kvs.map (·.1) → RepL W mu hid H (kvs.map (·.2)) (vs.map (·.2)) → getK kvs k = some d → ∃ v, valV vs k = some v ∧ Rep W mu hid H d v
  | [], vs, k, d, _, _, h => by simp [getK] at h
  | (k0, d0) :: kvs, [], k, d, h1, _, _ => by simp at h1
  | (k0, d0) :: kvs, (k1, v1) :: vs, k, d, h1, h2, h => by
    simp only [List.map_cons, List.cons.injEq] at h1
    obtain ⟨rfl, h1⟩ := h1
    obtain ⟨v, vs', e, r1, r2⟩ := h2
    simp only [List.map_cons, List.cons.injEq] at e
    obtain ⟨rfl, rfl⟩ := e
    by_cases hk : k1 = k
    · have : getK ((k1, d0) :: kvs) k = some d0 := by simp [getK, List.find?_cons, hk]
      rw [this] at h; cases h
      exact ⟨v1, valV_pos hk, r1⟩
    · have : getK ((k1, d0) :: kvs) k = getK kvs k := by simp [getK, List.find?_cons, hk]
      rw [this] at h
      obtain ⟨v, h3, h4⟩ := getK_rep h1 r2 h
      exact ⟨v, by rw [valV_neg hk]; exact h3, h4⟩
theorem getK_some : ∀ {kvs : List (List Key × D)} {vs : List (List Key × V)} (k : List Key), vs.map (·.1) = kvs.map (·.1) → (valV vs k).isSome = (getK kvs k).isSome
  | [], [], k, _ => rfl
  | [], _ :: _, k, h => by simp at h
  | _ :: _, [], k, h => by simp at h
  | (k0, d0) :: kvs, (k1, v1) :: vs, k, h1 => by
    simp only [List.map_cons, List.cons.injEq] at h1
    obtain ⟨rfl, h1⟩ := h1
    by_cases hk : k1 = k
    · rw [valV_pos hk]; simp [getK, List.find?_cons, hk]
    · rw [valV_neg hk, getK_some k h1]; simp [getK, List.find?_cons, hk]
theorem keyT_rep {ds : List D} {vs : List V} {ks : List Key} (r : RepL W mu hid H ds vs) (e : keyT ds = some ks) : vs = ks.map kV ∧ vs.length ≤ sizeLine := by
  unfold keyT at e
  split at e
  · exact ⟨keyL_rep r e, by rw [r.length]; exact Nat.le_trans (by assumption) line6⟩
  · cases e
/-- where a dict stands -/
theorem dic_at (g : Good W mu hid S H) {x : D} {v : V} {kvs : List (List Key × D)} (r : Rep W mu hid H x v) (h : dicOf S x = some kvs) : ∃ n a vs, x = .cel n ∧ v = .ref a ∧ S[n]? = some (.dT kvs) ∧ mu[n]? = some a ∧ H a = some (.dT vs) ∧ vs.map (·.1) = kvs.map (·.1) ∧ RepL W mu hid H (kvs.map (·.2)) (vs.map (·.2)) := by
  cases x with
  | cel n =>
    simp only [dicOf] at h
    split at h
    · rename_i kvs' hs
      cases h
      obtain ⟨a, e, hm⟩ := r
      obtain ⟨a', hm', vs, h1, h2, h3⟩ := g.obj n _ hs
      rw [hm] at hm'; cases hm'
      exact ⟨n, a, vs, rfl, e, hs, hm, h1, h2, h3⟩
    · cases h
  | _ => cases h
theorem nosl_tup {k : Nat} {tp : Pos} : NoSl (.Tuple xs k tp) := fun _ _ => rfl
theorem s_dix (K : XOk W G C Wx X) {k : Nat} {tp : Pos} (ha : PE X ea (tE W G Wx a)) (hs : PA X xs (tA W G Wx es)) : PE X (.Subscript ea (.Tuple xs k tp) pos) (tE W G Wx (.dix a es)) := by
  refine peImp (pe_dget (by have := K.room.un; omega) ha (pe_tup hs) nosl_tup) fun σ H Q ⟨ρ, S, mu, hid, he, hg, hf⟩ => ?_
  simp only [evE] at hf
  refine ⟨ρ, S, mu, hid, he, hg, hf.bind.mono (fun x S1 mu1 H1 _ _ ⟨e1, g1, f1⟩ v rx => ?_) fun _ _ _ h => h⟩
  refine ⟨ρ, S1, mu1, hid, he.ext e1, g1, f1.bind.mono (fun ds S2 mu2 H2 _ _ ⟨e2, g2, f2⟩ ws rds => ?_) fun _ _ _ h => h⟩
  obtain ⟨d, e5, f3⟩ := f2.ofO
  unfold dgetD at e5
  split at e5
  · rename_i kvs ks hd hk
    obtain ⟨n, A, vs, rfl, rfl, hS, hm, h1, h2, h3⟩ := dic_at g2 (rx.ext e2) hd
    obtain ⟨ew, hl⟩ := keyT_rep rds hk
    obtain ⟨v, h4, rv⟩ := getK_rep h2 h3 e5
    subst ew
    refine ⟨hl, fun p hp => ⟨A, v, rfl, ?_, f3.ok (Ext.same (same_new hp)) (g2.same (same_new hp)) v (rv.same (same_new hp))⟩⟩
    rw [← h4]
    exact DGet.t (by rw [upd_ne (ne_of_none h1 hp)]; exact h1) upd_same
  · cases e5
theorem din_key {neg : Bool} : ∀ (σ : L2.St) (H : Hp) (Q : VK), tE W G Wx (.din neg es a) σ H Q → tTup (tA W G Wx es) σ H fun y H1 => tE W G Wx a σ H1 fun x H2 => ∃ A o, x = .ref A ∧ DGet H2 A y o ∧ Q (.bl (if neg then !o.isSome else o.isSome)) H2 := by
  intro σ H Q ⟨ρ, S, mu, hid, he, hg, hf⟩
  simp only [evE] at hf
  refine ⟨ρ, S, mu, hid, he, hg, hf.bind.mono (fun ds S1 mu1 H1 _ _ ⟨e1, g1, f1⟩ ws rds => ?_) fun _ _ _ h => h⟩
  have f1 := f1.bind
  obtain ⟨ks, hk, f2⟩ := f1.ofO
  obtain ⟨_, _, f3⟩ := f2.here g1
  obtain ⟨ew, hl⟩ := keyT_rep rds hk
  subst ew
  refine ⟨hl, fun p hp => ?_⟩
  have sm := same_new (o := HO.tup (ks.map kV)) hp
  obtain ⟨np, nq⟩ := g1.free hp
  refine ⟨ρ, S1, mu1, hid, (he.ext e1).ext (Ext.same sm), g1.same sm, ?_⟩
  have f4 : Fin W mu1 hid (upd H1 p (.tup (ks.map kV))) _ _ _ := f3.moved (Ext.same sm)
  refine f4.bind.mono (fun x S3 mu3 H3 e3 _ ⟨_, g3, f5⟩ v rx => ?_) fun _ _ _ h => h
  obtain ⟨d, e6, f6⟩ := f5.ofO
  obtain ⟨kvs, hd, rfl⟩ := Option.map_eq_some_iff.mp e6
  obtain ⟨n, A, vs, rfl, rfl, hS, hm, h1, h2, h3⟩ := dic_at g3 rx hd
  have hp3 : H3 p = some (.tup (ks.map kV)) := e3.keep p _ upd_same np fun _ z => nomatch z
  refine ⟨A, valV vs ks, rfl, DGet.t h1 hp3, ?_⟩
  rw [getK_some ks h2]
  exact f6.here g3 _ rfl
theorem s_din (K : XOk W G C Wx X) {neg : Bool} {op : CmpOp} (ho : op = if neg then .NotIn else .In) {k : Nat} {tp : Pos} (hs : PA X xs (tA W G Wx es)) (ha : PE X ea (tE W G Wx a)) (hm : behindInMarks op ea = false) : PE X (.Compare (.Tuple xs k tp) [op] [ea] pos) (tE W G Wx (.din neg es a)) := by
  cases neg with
  | false =>
    subst ho
    exact peImp (pe_cmp (pc_din (by have := K.room.un; omega) (pe_tup hs) ha) hm) din_key
  | true =>
    subst ho
    exact peImp (pe_cmp (pc_dnotin (by have := K.room.un; omega) (pe_tup hs) ha) hm) din_key
/-- a new dict -/
theorem Good.dict (g : Good W mu hid S H) {p : Addr} (hp : H p = none) : Ext mu H (mu ++ [p]) (upd H p (.dT [])) ∧ Good W (mu ++ [p]) hid (S ++ [.dT []]) (upd H p (.dT [])) := by
  have e : Ext mu H (mu ++ [p]) (upd H p (.dT [])) := ⟨⟨[p], rfl⟩, fun a ha => by
    rcases List.mem_append.mp ha with q | q
    · exact .inl q
    · rw [List.mem_singleton] at q; rw [q]; exact .inr (.inl hp), fun a o h _ _ => same_new hp a o h, fun a o h n => ⟨o, same_new hp a o h, n⟩⟩
  have np : p ∉ mu := fun z => g.there p z hp
  refine ⟨e, by simp [g.len], ?_, fun n o h => ?_, fun a ha => (g.hidT a ha).elim fun o h => e.there a o h.1 h.2, fun a ha z => ?_, g.tabs.ext (same_new hp)⟩
  · rw [List.nodup_append]
    refine ⟨g.nd, by simp, fun a ha b hb => ?_⟩
    rw [List.mem_singleton] at hb
    rintro rfl
    exact np (hb ▸ ha)
  · by_cases hn : n < S.length
    · rw [List.getElem?_append_left hn] at h
      obtain ⟨a, h1, q⟩ := g.obj n o h
      refine ⟨a, by rw [List.getElem?_append_left (by rw [g.len]; exact hn)]; exact h1, q.ext e ?_⟩
      rw [upd_ne]
      rintro rfl
      exact q.there hp
    · have hn2 : n = S.length := by
        have := (List.getElem?_eq_some_iff.mp h).1
        simp at this; omega
      subst hn2
      rw [List.getElem?_append_right (Nat.le_refl _)] at h
      simp at h
      subst h
      refine ⟨p, by rw [List.getElem?_append_right (by rw [g.len]; exact Nat.le_refl _)]; simp [g.len], [], upd_same, rfl, rfl⟩
  · rcases List.mem_append.mp z with q | q
    · exact g.dis a ha q
    · rw [List.mem_singleton] at q; rw [q] at ha; exact (g.hidT p ha).elim fun o h => by rw [hp] at h; cases h.1
theorem s_dnew : PE X (.Dict [] [] pos) (tE W G Wx .dnew) := by
  refine peImp pe_dnewT fun σ H Q ⟨ρ, S, mu, hid, he, hg, hf⟩ p hp => ?_
  simp only [evE] at hf
  obtain ⟨e, g⟩ := hg.dict hp
  refine hf.ok e g (.ref p) ⟨p, rfl, ?_⟩
  rw [List.getElem?_append_right (by rw [hg.len]; exact Nat.le_refl _), hg.len]
  simp
/-- an entry stored -/
theorem putK_rep {kvs : List (List Key × D)} {vs : List (List Key × V)} {k : List Key} {d : D} {v : V} (rv : Rep W mu hid H d v) : vs.map (·.1) = kvs.map (·.1) → RepL W mu hid H (kvs.map (·.2)) (vs.map (·.2)) →
    (putK vs k v).map (·.1) = (putKD kvs k d).map (·.1) ∧ RepL W mu hid H ((putKD kvs k d).map (·.2)) ((putK vs k v).map (·.2)) := by
  intro h1 h2
  have hany : (vs.any fun kv => decide (kv.1 = k)) = (kvs.any fun kv => decide (kv.1 = k)) := by
    have : ∀ (l : List (List Key × V)) (m : List (List Key × D)), l.map (·.1) = m.map (·.1) → (l.any fun kv => decide (kv.1 = k)) = (m.any fun kv => decide (kv.1 = k)) := by
      intro l m h
      have e1 : (l.any fun kv => decide (kv.1 = k)) = (l.map (·.1)).any fun q => decide (q = k) := by rw [List.any_map]; rfl
      have e2 : (m.any fun kv => decide (kv.1 = k)) = (m.map (·.1)).any fun q => decide (q = k) := by rw [List.any_map]; rfl
      rw [e1, e2, h]
    exact this vs kvs h1
  unfold putK putKD
  rw [hany]
  split
  · rename_i hh
    clear hany hh
    induction kvs generalizing vs with
    | nil =>
      cases vs with
      | nil => exact ⟨rfl, rfl⟩
      | cons _ _ => simp at h1
    | cons q kvs ih =>
      cases vs with
      | nil => simp at h1
      | cons z vs =>
        simp only [List.map_cons, List.cons.injEq] at h1
        obtain ⟨w, ws, e, r1, r2⟩ := h2
        simp only [List.map_cons, List.cons.injEq] at e
        obtain ⟨rfl, rfl⟩ := e
        have i := ih h1.2 r2
        simp only [List.map_cons]
        obtain ⟨z1, z2⟩ := z
        obtain ⟨q1, q2⟩ := q
        obtain ⟨rfl, _⟩ := h1
        by_cases hk : z1 = k
        · rw [if_pos hk, if_pos hk]
          exact ⟨by rw [i.1], v, _, rfl, rv, i.2⟩
        · rw [if_neg hk, if_neg hk]
          exact ⟨by rw [i.1], z2, _, rfl, r1, i.2⟩
  · rw [List.map_append, List.map_append, List.map_append, List.map_append]
    exact ⟨by rw [h1]; rfl, h2.app ⟨v, [], rfl, rv, rfl⟩⟩
theorem Good.dput (g : Good W mu hid S H) {n : Nat} {kvs kvs' : List (List Key × D)} {a : Addr} {vs vs' : List (List Key × V)} (hS : S[n]? = some (.dT kvs)) (hm : mu[n]? = some a) (hH : H a = some (.dT vs)) (hk : vs'.map (·.1) = kvs'.map (·.1)) (r : RepL W mu hid H (kvs'.map (·.2)) (vs'.map (·.2))) :
    Ext mu H mu (upd H a (.dT vs')) ∧ Good W mu hid (S.set n (.dT kvs')) (upd H a (.dT vs')) := by
  have hnm := (List.getElem?_eq_some_iff.mp hm).1
  have ha : a ∈ mu := List.mem_of_getElem? hm
  have e : Ext mu H mu (upd H a (.dT vs')) := ⟨⟨[], by simp⟩, fun _ h => .inl h, fun b o h nb _ => by
    rw [upd_ne]; exact h
    rintro rfl; exact nb ha, fun b o h n => by
    by_cases q : b = a
    · exact ⟨.dT vs', by rw [q]; exact upd_same, fun _ z => nomatch z⟩
    · exact ⟨o, by rw [upd_ne q]; exact h, n⟩⟩
  refine ⟨e, by simpa using g.len, g.nd, fun m o h => ?_, fun b hb => (g.hidT b hb).elim fun o h => e.there b o h.1 h.2, g.dis, ?_⟩
  · by_cases q : n = m
    · subst q
      rw [List.getElem?_set_self (by rw [← g.len]; exact hnm)] at h
      cases h
      exact ⟨a, hm, vs', upd_same, hk, RepL.ext e _ _ r⟩
    · rw [List.getElem?_set_ne q] at h
      obtain ⟨b, h1, z⟩ := g.obj m o h
      refine ⟨b, h1, z.ext e (upd_ne ?_)⟩
      rintro rfl
      obtain ⟨l1, q1⟩ := List.getElem?_eq_some_iff.mp h1
      obtain ⟨l2, q2⟩ := List.getElem?_eq_some_iff.mp hm
      exact q ((List.getElem_inj g.nd).mp (q2.trans q1.symm))
  · intro p hp
    obtain ⟨ps, h1, h2, h3⟩ := g.tabs p hp
    refine ⟨ps, ?_, h2, fun pos cv hc => ?_⟩
    · rw [upd_ne]; exact h1
      intro z; rw [z, hH] at h1; cases h1
    · obtain ⟨c, e1, e2⟩ := h3 pos cv hc
      refine ⟨c, e1, ?_⟩
      rw [upd_ne]; exact e2
      intro z; rw [z, hH] at e2
      unfold LamX.CodeO at e2; cases e2
theorem s_dset (K : XOk W G C Wx X) {pos' : Pos} {k : Nat} {tp : Pos} (hv : PE X ec (tE W G Wx c)) (ha : PE X ea (tE W G Wx a)) (hs : PA X xs (tA W G Wx es)) (hw : swapsWith ec (some (.Subscript ea (.Tuple xs k tp) pos')) pos.line X.env = pure false) :
    PS X (.Assign [.Subscript ea (.Tuple xs k tp) pos'] ec pos) (tS W G Wx (.dset a es c)) := by
  refine psImp (ps_dput (by have := K.room.un; omega) ha (pe_tup hs) hv hw) fun D σ H ⟨ρ, S, mu, hid, he, hg, hf⟩ => ?_
  simp only [evS] at hf
  refine ⟨ρ, S, mu, hid, he, hg, hf.bind.mono (fun y S1 mu1 H1 _ _ ⟨e1, g1, f1⟩ v ry => ?_) fun _ _ _ h dx => h dx σ⟩
  refine ⟨ρ, S1, mu1, hid, he.ext e1, g1, f1.bind.mono (fun x S2 mu2 H2 _ _ ⟨e2, g2, f2⟩ w rx => ?_) fun _ _ _ h dx => h dx σ⟩
  refine ⟨ρ, S2, mu2, hid, (he.ext e1).ext e2, g2, f2.bind.mono (fun ds S3 mu3 H3 _ _ ⟨e3, g3, f3⟩ ws rds => ?_) fun _ _ _ h dx => h dx σ⟩
  have f3 := f3.bind
  obtain ⟨S4, e5, f4⟩ := f3.ofO
  obtain ⟨_, _, f5⟩ := f4.here g3
  have rx3 := rx.ext e3
  have ry3 := (ry.ext e2).ext e3
  cases x with
  | cel n =>
    unfold dputD at e5
    simp only at e5
    split at e5
    · rename_i kvs ks hS hk
      split at e5
      · rename_i hl
        cases e5
        obtain ⟨ew, hl2⟩ := keyT_rep rds hk
        subst ew
        obtain ⟨A, rfl, hm⟩ := rx3
        obtain ⟨A', hm', vs, h1, h2, h3⟩ := g3.obj n _ hS
        rw [hm] at hm'; cases hm'
        refine ⟨hl2, fun p hp => ⟨A, _, rfl, DPut.t (k := ks) (by rw [upd_ne (ne_of_none h1 hp)]; exact h1) upd_same ?_, ?_⟩⟩
        · have : vs.length = kvs.length := by have := congrArg List.length h2; simpa using this
          rw [this]; exact Nat.lt_of_lt_of_le hl line6
        · have sm := same_new (o := HO.tup (ks.map kV)) hp
          have g4 := g3.same sm
          have h1' : upd H3 p (.tup (ks.map kV)) A = some (.dT vs) := by rw [upd_ne (ne_of_none h1 hp)]; exact h1
          obtain ⟨q1, q2⟩ := putK_rep (k := ks) (ry3.same sm) h2 (h3.same sm)
          obtain ⟨ee, gg⟩ := g4.dput hS hm h1' q1 q2
          exact f5.ok ((Ext.same sm).trans ee) gg σ rfl (((((he.ext e1).ext e2).ext e3).ext (Ext.same sm)).ext ee)
      · cases e5
    · cases e5
  | _ => cases e5
/-- a new dict of these -/
theorem Good.dictN (g : Good W mu hid S H) {p : Addr} (hp : H p = none) {vs : List (List Key × V)} {kvs : List (List Key × D)} (hk : vs.map (·.1) = kvs.map (·.1)) (r : RepL W mu hid H (kvs.map (·.2)) (vs.map (·.2))) : Ext mu H (mu ++ [p]) (upd H p (.dT vs)) ∧ Good W (mu ++ [p]) hid (S ++ [.dT kvs]) (upd H p (.dT vs)) := by
  have e : Ext mu H (mu ++ [p]) (upd H p (.dT vs)) := ⟨⟨[p], rfl⟩, fun a ha => by
    rcases List.mem_append.mp ha with q | q
    · exact .inl q
    · rw [List.mem_singleton] at q; rw [q]; exact .inr (.inl hp), fun a o h _ _ => same_new hp a o h, fun a o h n => ⟨o, same_new hp a o h, n⟩⟩
  have np : p ∉ mu := fun z => g.there p z hp
  refine ⟨e, by simp [g.len], ?_, fun n o h => ?_, fun a ha => (g.hidT a ha).elim fun o h => e.there a o h.1 h.2, fun a ha z => ?_, g.tabs.ext (same_new hp)⟩
  · rw [List.nodup_append]
    refine ⟨g.nd, by simp, fun a ha b hb => ?_⟩
    rw [List.mem_singleton] at hb
    rintro rfl
    exact np (hb ▸ ha)
  · by_cases hn : n < S.length
    · rw [List.getElem?_append_left hn] at h
      obtain ⟨a, h1, q⟩ := g.obj n o h
      refine ⟨a, by rw [List.getElem?_append_left (by rw [g.len]; exact hn)]; exact h1, q.ext e ?_⟩
      rw [upd_ne]
      rintro rfl
      exact q.there hp
    · have hn2 : n = S.length := by
        have := (List.getElem?_eq_some_iff.mp h).1
        simp at this; omega
      subst hn2
      rw [List.getElem?_append_right (Nat.le_refl _)] at h
      simp at h
      subst h
      exact ⟨p, by rw [List.getElem?_append_right (by rw [g.len]; exact Nat.le_refl _)]; simp [g.len], vs, upd_same, hk, RepL.ext e _ _ r⟩
  · rcases List.mem_append.mp z with q | q
    · exact g.dis a ha q
    · rw [List.mem_singleton] at q; rw [q] at ha; exact (g.hidT p ha).elim fun o h => by rw [hp] at h; cases h.1
theorem keys_rep : ∀ {xs : List D} {vs : List V} {ks : List (List Key)}, RepL W mu hid H xs vs → keysD xs = some ks → ∃ ps : List (List Key × Addr), vs = ps.map (fun p => .ref p.2) ∧ ps.map (·.1) = ks ∧ ∀ p ∈ ps, H p.2 = some (.tup (p.1.map kV))
  | [], vs, ks, r, h => by
    cases h
    exact ⟨[], r, rfl, fun _ h => absurd h List.not_mem_nil⟩
  | .tup ds :: xs, vs, ks, r, h => by
    unfold keysD at h
    split at h
    · rename_i k ks' hk hks
      cases h
      obtain ⟨v, vs', rfl, ⟨a, us, rfl, ht, ru⟩, rr⟩ := r
      obtain ⟨ps, rfl, e2, hp⟩ := keys_rep rr hks
      obtain ⟨rfl, _⟩ := keyT_rep ru hk
      refine ⟨(k, a) :: ps, rfl, by rw [← e2]; rfl, fun p hpm => ?_⟩
      rcases List.mem_cons.1 hpm with rfl | hpm
      · exact ht.elim (fun z => z.1) fun z => z.1.elim
      · exact hp p hpm
    · cases h
  | .non :: _, _, _, _, h => nomatch h
  | .bl _ :: _, _, _, _, h => nomatch h
  | .int _ :: _, _, _, _, h => nomatch h
  | .str _ :: _, _, _, _, h => nomatch h
  | .lst _ :: _, _, _, _, h => nomatch h
  | .cel _ :: _, _, _, _, h => nomatch h
  | .fn _ :: _, _, _, _, h => nomatch h
  | .scr _ :: _, _, _, _, h => nomatch h
theorem dz_rep : ∀ {ps : List (List Key × Addr)} {ys : List D} {ws : List V}, RepL W mu hid H ys ws →
    (List.zipWith (fun (p : List Key × Addr) (y : V) => (p.1, y)) ps ws).map (·.1) = (List.zipWith (fun (k : List Key) (y : D) => (k, y)) (ps.map (·.1)) ys).map (·.1) ∧
    RepL W mu hid H ((List.zipWith (fun (k : List Key) (y : D) => (k, y)) (ps.map (·.1)) ys).map (·.2)) ((List.zipWith (fun (p : List Key × Addr) (y : V) => (p.1, y)) ps ws).map (·.2))
  | [], ys, ws, _ => by simp [RepL]
  | p :: ps, [], ws, r => by
    cases (show ws = [] from r)
    simp [RepL]
  | p :: ps, y :: ys, ws, r => by
    obtain ⟨v, vs, rfl, rv, rr⟩ := r
    obtain ⟨h1, h2⟩ := dz_rep (ps := ps) rr
    simp only [List.map_cons, List.zipWith_cons_cons]
    exact ⟨by rw [h1], v, _, rfl, rv, h2⟩
theorem s_dz (K : XOk W G C Wx X) {p q pos2 : Pos} (hg : glB X.env.scope "dict" = true) (hg2 : glB X.env.scope "zip" = true) (ha : PE X ea (tE W G Wx a)) (hs : starred ea = false) (hb : PE X eb (tE W G Wx b)) (hs2 : starred eb = false) :
    PE X (.Call (.Name "dict" p) [.Call (.Name "zip" q) [ea, eb] [] pos2] [] pos) (tE W G Wx (.dz a b)) := by
  refine peImp (pe_dz (gl_of hg) (K.blt "dict" (by decide +kernel)) (gl_of hg2) (K.blt "zip" (by decide +kernel)) K.calm (by have := K.room.un; omega) (pa_cons ha (pa_cons hb pa_nil (starEach_cons hs2)) (starEach_cons hs)) (starEach_cons hs) (noStar_any (by simp [noStar, hs2]))) fun σ H Q ⟨ρ, S, mu, hid, he, hgd, hf⟩ => ?_
  simp only [evE] at hf
  refine ⟨ρ, S, mu, hid, he, hgd, hf.bind.mono (fun x S1 mu1 H1 _ _ ⟨e1, g1, f1⟩ v rx => ?_) fun _ _ _ h => h⟩
  refine ⟨ρ, S1, mu1, hid, he.ext e1, g1, f1.bind.mono (fun y S2 mu2 H2 _ _ ⟨e2, g2, f2⟩ w ry => ?_) fun _ _ _ h => h⟩
  have f2 := f2.bind
  obtain ⟨kvs, e3, f3⟩ := f2.ofO
  obtain ⟨_, _, f4⟩ := f3.here g2
  have rx2 := rx.ext e2
  unfold dzD at e3
  split at e3
  · rename_i xs ys
    split at e3
    · rename_i ks hks
      split at e3
      · rename_i hc
        cases e3
        obtain ⟨A, vs, rfl, h1, n1, _, r1⟩ := rx2
        obtain ⟨B, ws, rfl, h2, r2⟩ := ry
        obtain ⟨ps, rfl, rfl, hp⟩ := keys_rep r1 hks
        refine ⟨A, B, ps, ws, rfl, SqL.of h1, by rw [K.hK]; exact h2.sq, hp, hc.1, ?_, fun d hd => ?_⟩
        · have e := r1.length
          rw [List.length_map] at e
          rw [e]; exact Nat.le_trans hc.2 line6
        · obtain ⟨k1, k2⟩ := dz_rep (ps := ps) r2
          obtain ⟨e, g⟩ := g2.dictN hd k1 k2
          refine f4.ok e g (.ref d) ⟨d, rfl, ?_⟩
          rw [List.getElem?_append_right (by rw [g2.len]; exact Nat.le_refl _), g2.len]
          simp
      · cases e3
    · cases e3
  · cases e3
end
end Ev
end
section
set_option Elab.async false
set_option linter.all false
set_option maxRecDepth 100000
set_option maxHeartbeats 1000000
namespace Ev
open PySem PySem.Spec PyProof.Rows L2
open LamX (ExtN Tabs TabS)
section
variable {W : Wd} {G : Glb} {C : Ck} {Wx : WX} {X : Cx} {pos : Pos} {ea eb ec : Expr} {a b c es : T} {xs : List Expr} {mu hid : List Addr} {H H1 : Hp} {S : Store}
theorem ext_of (e : ExtN H H1) : Ext mu H mu H1 := ⟨⟨[], by simp⟩, fun _ h => .inl h, fun a o h _ n => e a o h n, fun a o h n => ⟨o, e a o h n, n⟩⟩
theorem Good.extN (g : Good W mu hid S H) (e : ExtN H H1) (t : Tabs W.tabs H1) : Good W mu hid S H1 := by
  refine ⟨g.len, g.nd, fun n o h => ?_, fun a ha => (g.hidT a ha).elim fun o h => ⟨o, e a o h.1 h.2, h.2⟩, g.dis, t⟩
  obtain ⟨a, h1, r⟩ := g.obj n o h
  refine ⟨a, h1, r.ext (ext_of e) ?_⟩
  cases o with
  | lst ds => obtain ⟨xs, h, _⟩ := r; exact (e a _ h fun _ z => nomatch z).trans h.symm
  | dT kvs => obtain ⟨xs, h, _⟩ := r; exact (e a _ h fun _ z => nomatch z).trans h.symm
  | dK kvs => obtain ⟨xs, h, _⟩ := r; exact (e a _ h fun _ z => nomatch z).trans h.symm
/-- what is wished of an error, clause by clause -/
def wordK (W : Wd) (K : PySem.W.Frag) (Q : VK) : List (Nat × Str) → Value → Hp → Prop
  | [], _, _ => False
  | (c, s) :: r, cls, H => ∃ b, PySem.W.exmOne K cls (W.cls c) = some b ∧ (b = true → Q (.str s) H) ∧ (b = false → wordK W K Q r cls H)
theorem hdsB_cons {sc : Scope} {k : Nat} {s : Str} {hs : List (Nat × Str)} {hds : List ExceptHandler} (h : hdsB C.cname sc ((k, s) :: hs) hds = true) :
    ∃ x p0 j p1 p2 p3 hds', hds = .ExceptHandler (some (.Name x p0)) none [.Return (some (.Constant (.str s) j p1)) p2] p3 :: hds' ∧ C.cname k = some x ∧ glB sc x = true ∧ okName x = true ∧ hdsB C.cname sc hs hds' = true := by
  unfold hdsB at h
  split at h
  · cases ‹_ :: _ = []›
  · cases ‹_ :: _ = _ :: _›
    simp only [Bool.and_eq_true, decide_eq_true_eq] at h
    obtain ⟨⟨⟨⟨h1, h2⟩, h3⟩, h4⟩, h5⟩ := h
    subst h4
    exact ⟨_, _, _, _, _, _, _, rfl, h1, h2, h3, h5⟩
  · cases h
theorem cname_of {sc : Scope} {c : Nat} {x : Str} : ∀ {hs : List (Nat × Str)} {hds : List ExceptHandler}, hdsB C.cname sc hs hds = true → handler c hs = some x → ∃ y, C.cname c = some y
  | [], _, _, h => by cases h
  | (k, s) :: hs, hds, hB, h => by
    obtain ⟨y, _, _, _, _, _, hds', rfl, h1, _, _, h5⟩ := hdsB_cons hB
    simp only [handler] at h
    by_cases hk : k = c
    · subst hk; exact ⟨y, h1⟩
    · rw [if_neg hk] at h; exact cname_of h5 h
theorem wordK_of (K : XOk W G C Wx X) {sc : Scope} {Q : VK} {c : Nat} {x : Str} : ∀ {hs : List (Nat × Str)} {hds : List ExceptHandler}, hdsB C.cname sc hs hds = true → handler c hs = some x → Q (.str x) H → wordK W X.K Q hs (W.cls c) H
  | [], _, _, h, _ => by cases h
  | (k, s) :: hs, hds, hB, h, q => by
    obtain ⟨y, hy⟩ := cname_of hB h
    obtain ⟨z, _, _, _, _, _, hds', rfl, h1, _, _, h5⟩ := hdsB_cons hB
    refine ⟨_, K.exm c k y _ hy h1, fun e => ?_, fun e => ?_⟩
    · have e : k = c := of_decide_eq_true e
      simp only [handler, if_pos e, Option.some.injEq] at h
      rw [h]; exact q
    · have e : ¬ k = c := of_decide_eq_false e
      simp only [handler, if_neg e] at h
      exact wordK_of K h5 h q
/-- the clauses, as the rule for try wants them -/
def hdsL (W : Wd) (hs : List (Nat × Str)) : List (Value × (Addr → Value → Option Addr → TS)) := hs.map fun p => (W.cls p.1, fun _ _ _ D _ H => D.rt (.str p.2) H)
theorem hds_ok {X' : Cx} {sc : Scope} (hcls : ∀ c x, C.cname c = some x → X'.mg x = some (W.cls c)) (hsc : X'.env.scope = sc) : ∀ {hs : List (Nat × Str)} {hds : List ExceptHandler}, hdsB C.cname sc hs hds = true → HdsOk X' hds (hdsL W hs)
  | [], [], _ => .nil
  | [], _ :: _, h => by unfold hdsB at h; cases h
  | (k, s) :: hs, hds, h => by
    obtain ⟨x, _, _, _, _, _, hds', rfl, h1, h2, h3, h5⟩ := hdsB_cons h
    exact .cons ⟨gl_of (by rw [hsc]; exact h2), (okName_of h3).1, .inl (hcls _ _ h1)⟩ (fun a oe cls d pn _ _ => pss_one (ps_ret pe_str)) (hds_ok hcls hsc h5)
theorem many_of (K' : PySem.W.Frag) {Q : VK} {D : Ends} (hD : ∀ x H, Q (.str x) H → D.rt (.str x) H) {cls : Value} {d : Option Addr} {σ : L2.St} {H : Hp} : ∀ {hs : List (Nat × Str)}, wordK W K' Q hs cls H → wMany K' (fun _ _ _ _ => False) D (hdsL W hs) cls d σ H
  | [], h => h
  | (k, s) :: hs, ⟨b, h1, h2, h3⟩ => ⟨b, h1, fun e _ _ => hD _ _ (h2 e), fun e => many_of K' hD (h3 e)⟩
def TTw (W : Wd) (K : PySem.W.Frag) (hs : List (Nat × Str)) (dv : Str) : (XK → Hp → VK → Prop) → Hp → VK → Prop := fun tl H Q => tl (fun cls _ H' => wordK W K Q hs cls H') H fun _ H' => Q (.str dv) H'
theorem gives_word {sg : Scope} {x a q : Str} {g : Addr} {cdg : Value} {bg : List Stmt} {Ng : List Str} {hs : List (Nat × Str)} {dv : Str} (hcls : ∀ c x, C.cname c = some x → X.mg x = some (W.cls c)) (hB : wordB C.cname sg a hs dv bg = true) (h0 : ∀ f : Addr, (L2.start Ng [V.ref f])[0]? = some (some (V.ref f))) :
    LamX.GivesTo X Ng x sg g cdg bg a q (TTw W X.K hs dv) := by
  intro f c' s H Q tl act hc h
  unfold wordB at hB
  split at hB
  · rename_i b p1 p2 p3 h1 hds p4 z j p5 p6
    simp only [Bool.and_eq_true, decide_eq_true_eq] at hB
    obtain ⟨⟨rfl, hB⟩, rfl⟩ := hB
    have hh : HdsOk (cxOf C8.CX0 X.prog X.w X.K X.mg X.base Ng x sg g cdg X.A X.stack s H C8.E0).nox (h1 :: hds) (hdsL W hs) := hds_ok (C := C) (X' := (cxOf C8.CX0 X.prog X.w X.K X.mg X.base Ng x sg g cdg X.A X.stack s H C8.E0).nox) hcls rfl hB
    refine ⟨_, pss_cons (ps_try_many (X := (cxOf C8.CX0 X.prog X.w X.K X.mg X.base Ng x sg g cdg X.A X.stack s H C8.E0).nox) (l := hdsL W hs) (Wout := fun _ _ _ _ => False)
      (tb := fun W' D σ H => ∃ Ech : XK, (∀ cls d σ' H', Ech cls d H' → W' cls d σ' H') ∧ σ[0]? = some (some (.ref f)) ∧ H c' = some (LamX.CodeO c' q) ∧ tl Ech H (fun _ H' => D.nx σ H'))
      rfl rfl LamX.takes0 (fun W' pn xe tk _ => ?_) hh) (pss_one (ps_ret pe_str)), ?_⟩
    · refine ⟨fun pins s' σ H' D I h' => ?_⟩
      obtain ⟨Ech, hW, k1, k2, k3⟩ := h'
      have hp := act W' pn xe Ech p1 p2 tk hW
      exact (pss_one (ps_expr (pos := p3) hp)).run pins s' σ H' D I ⟨k1, k2, k3⟩
    · exact ⟨fun cls _ H' => wordK W X.K Q hs cls H', fun cls d σ' H' hw => many_of X.K (fun x H hx => hx) hw, h0 f, hc, h⟩
  · cases hB
/-- no parameters -/
def noPar : Arguments → Bool
  | ⟨[], [], none, [], [], none, []⟩ => true
  | _ => false
theorem takes_lam {A : Around} {outer : List PySem.Env} {s : Shared} {H : Hp} {E : XK} {scope : Scope} {f c' : Addr} : Takes (LamX.lamCx X A outer s H E scope f c') (fun cls d _ H => E cls d H) := takes_of rfl rfl rfl rfl
/-- a context for the body of a lambda -/
def Ck.out (C : Ck) : Ck := { C with lam := false }
theorem XOk.lamc (K : XOk W G C Wx X) {A : Around} {outer : List PySem.Env} {s : Shared} {H : Hp} {E : XK} {scope : Scope} {f c' : Addr} (hr : Room G.lv (A.deeper (LamX.lamEnv X scope s.heap.objs.size f c'))) : XOk W G C.out (fun cls d _ H => E cls d H) (LamX.lamCx X A outer s H E scope f c') :=
  ⟨K.hK, K.hN, K.nd, rfl, hr, takes_lam, K.fns, K.globs, K.blt, K.fnr, K.cls, K.exm, K.wds, fun h => by cases h⟩
theorem s_word (K : XOk W G C Wx X) {w : Nat} {x dv : Str} {hs : List (Nat × Str)} {e : T} {p lpos : Pos} {params : Arguments} {body : Expr} {scope : Scope} (hC : C.lam = true) (hw : C.wname w = some x) (hwh : C.whs w = (hs, dv)) (hg : glB X.env.scope x = true) (hd : okName x = true)
    (hp : noPar params = true) (hl : LamX.lamSB X.env.scope scope = true)
    (hb : ∀ (A : Around) (outer : List PySem.Env) (s : Shared) (H : Hp) (E : XK) (f c' : Addr), XOk W G C.out (fun cls d _ H => E cls d H) (LamX.lamCx X A outer s H E scope f c') → PE (LamX.lamCx X A outer s H E scope f c') body (tE W G (fun cls d _ H => E cls d H) e)) :
    PE X (.Call (.Name x p) [.Lambda params body scope lpos] [] pos) (tE W G Wx (.word w hs dv e)) := by
  obtain ⟨g, pg, bg, sg, dV, kV, doc, pm, cdv, ct, oc, an, od, osl, Ng, a, hm, hk, lk, hcd, hbi, Sg, hNg, hva, hoa, htx⟩ := K.wds w x hw
  obtain ⟨c, P, TB, hcode, hmT, hu⟩ := K.lam hC
  rw [hwh] at htx
  have hr : Room (G.lv + 2) X.A := K.room.mono (by unfold Ck.sl; rw [hC]; simp)
  have h0 : ∀ f : Addr, (L2.start Ng [V.ref f])[0]? = some (some (V.ref f)) := fun f => rfl
  obtain ⟨⟩ : params = ⟨[], [], none, [], [], none, []⟩ := by
    unfold noPar at hp
    split at hp
    · rfl
    · cases hp
  refine peImp (LamX.pe_lamcall (T := W.tabs) (TT := TTw W X.K hs dv) (t := fun E => tE W G (fun cls d _ H => E cls d H) e) (k := G.lv) (gl_of hg) hm hk lk hcd hbi Sg hNg hva (gives_word (C := C) K.cls htx h0) TB hcode hmT hu hr (LamX.lamS_by hl) rfl (fun q cl pm cv ctv => rfl)
    (fun A outer s H E f c' hr' => hb A outer s H E f c' (K.lamc hr')) (okName_of hd).1 (okName_of hoa).1 (okName_of hoa).2) fun σ H Q ⟨ρ, S, mu, hid, he, hg, hf⟩ => ?_
  simp only [evE] at hf
  refine ⟨hg.tabs, fun H1 eN T1 => ?_⟩
  have e1 := ext_of (mu := mu) eN
  have g1 := hg.extN eN T1
  refine ⟨ρ, S, mu, hid, he.ext e1, g1, ?_⟩
  revert hf
  cases hv : evE G e ρ S with
  | bad => exact fun hf => hf.elim
  | ok d S1 =>
    intro hf H' mu' e2 g2 v rv
    exact (show Fin W mu hid H (.ok (Ev.D.str dv) S1) _ _ from hf).ok (e1.trans e2) g2 _ rfl
  | exc c S1 =>
    intro hf H' mu' e2 g2 dx
    simp only at hf
    cases hx : handler c hs with
    | none => rw [hx] at hf; exact hf.elim
    | some z =>
      rw [hx] at hf
      have q := (show Fin W mu hid H (.ok (Ev.D.str z) S1) _ _ from hf).ok (e1.trans e2) g2 _ rfl
      unfold wordB at htx
      split at htx
      · simp only [Bool.and_eq_true, decide_eq_true_eq] at htx
        exact wordK_of K htx.1.2 hx q
      · cases htx
end
end Ev
end
section
set_option Elab.async false
set_option linter.all false
set_option maxRecDepth 100000
set_option maxHeartbeats 1000000
namespace Ev
open PySem PySem.Spec PyProof.Rows L2
/-! ### the store cut back -/
section
variable {W : Wd} {mu mu' hid : List Addr} {H H' : Hp} {S S' : Store}
mutual
theorem Rep.cut {k : Nat} : ∀ (d : Ev.D) (v : V), below k d = true → Rep W mu' hid H d v → Rep W (mu'.take k) hid H d v
  | .non, _, _, h => h
  | .bl _, _, _, h => h
  | .int _, _, _, h => h
  | .str _, _, _, h => h
  | .fn _, _, _, h => h
  | .tup ds, _, b, ⟨a, xs, e1, h, r⟩ => by
    refine ⟨a, xs, e1, ?_, RepL.cut ds xs b r⟩
    rcases h with ⟨h, n, n2⟩ | h
    · exact .inl ⟨h, fun z => n (List.mem_of_mem_take z), n2⟩
    · exact .inr h
  | .lst ds, _, b, ⟨a, xs, e1, h, n, n2, r⟩ => ⟨a, xs, e1, h, fun z => n (List.mem_of_mem_take z), n2, RepL.cut ds xs b r⟩
  | .cel n, _, b, ⟨a, e1, h⟩ => ⟨a, e1, by rw [List.getElem?_take_of_lt (of_decide_eq_true b)]; exact h⟩
  | .scr ns, _, _, ⟨a, e1, h⟩ => by
    refine ⟨a, e1, ?_⟩
    rcases h with ⟨h, n, n2⟩ | h
    · exact .inl ⟨h, fun z => n (List.mem_of_mem_take z), n2⟩
    · exact .inr h
theorem RepL.cut {k : Nat} : ∀ (ds : List Ev.D) (vs : List V), belowL k ds = true → RepL W mu' hid H ds vs → RepL W (mu'.take k) hid H ds vs
  | [], _, _, h => h
  | d :: ds, _, b, ⟨v, vs, e1, r1, r2⟩ => by
    have b : (below k d && belowL k ds) = true := b
    simp only [Bool.and_eq_true] at b
    exact ⟨v, vs, e1, Rep.cut d v b.1 r1, RepL.cut ds vs b.2 r2⟩
end
theorem belowL_map {α : Type} {k : Nat} (f : α → Ev.D) : ∀ l : List α, (l.all fun p => below k (f p)) = true → belowL k (l.map f) = true
  | [], _ => rfl
  | p :: l, h => by
    simp only [List.all_cons, Bool.and_eq_true] at h
    show (below k (f p) && belowL k (l.map f)) = true
    rw [h.1, belowL_map f l h.2]; rfl
theorem RepO.cut {k : Nat} {a : Addr} {o : O} (b : belowO k o = true) (r : RepO W mu' hid H a o) : RepO W (mu'.take k) hid H a o := by
  cases o with
  | lst ds => obtain ⟨xs, h, q⟩ := r; exact ⟨xs, h, RepL.cut _ _ b q⟩
  | dT kvs => obtain ⟨xs, h, e, q⟩ := r; exact ⟨xs, h, e, RepL.cut _ _ (belowL_map Prod.snd kvs b) q⟩
  | dK kvs => obtain ⟨xs, h, e, q⟩ := r; exact ⟨xs, h, e, RepL.cut _ _ (belowL_map Prod.snd kvs b) q⟩
theorem Good.cut {k : Nat} (g : Good W mu' hid S' H) (hk : k ≤ S'.length) (b : (S'.take k).all (belowO k) = true) : Good W (mu'.take k) hid (S'.take k) H := by
  refine ⟨by rw [List.length_take, List.length_take, g.len], g.nd.sublist (List.take_sublist _ _), fun n o h => ?_, g.hidT, fun a ha z => g.dis a ha (List.mem_of_mem_take z), g.tabs⟩
  have hn : n < k := by
    obtain ⟨h1, _⟩ := List.getElem?_eq_some_iff.mp h
    rw [List.length_take] at h1; omega
  have hb : belowO k o = true := by
    simp only [List.all_eq_true] at b
    exact b o (List.mem_of_getElem? h)
  rw [List.getElem?_take_of_lt hn] at h
  obtain ⟨a, e, r⟩ := g.obj n o h
  exact ⟨a, by rw [List.getElem?_take_of_lt hn]; exact e, r.cut hb⟩
end
section
variable {W : Wd} {G : Glb} {C : Ck} {Wx : WX} {X : Cx} {pos : Pos} {b l : T} {xs : List Expr} {mu hid : List Addr} {H : Hp} {S : Store}
theorem envB_at {n i : Nat} : ∀ {ρ : Env} {k0 k : Nat} {d : D}, envB n i k0 ρ = true → ρ[k]? = some (some d) → k0 + k ≠ i → below n d = true
  | [], _, _, _, _, h, _ => by simp at h
  | none :: ρ, k0, 0, d, _, h, _ => by simp at h
  | none :: ρ, k0, k + 1, d, h, h2, n => envB_at (k0 := k0 + 1) h (by simpa using h2) (by omega)
  | some e :: ρ, k0, 0, d, h, h2, n => by
    simp only [envB, Bool.and_eq_true, Bool.or_eq_true, decide_eq_true_eq] at h
    simp at h2
    subst h2
    exact h.1.resolve_left (by omega)
  | some e :: ρ, k0, k + 1, d, h, h2, n => by
    simp only [envB, Bool.and_eq_true] at h
    exact envB_at (k0 := k0 + 1) h.2 (by simpa using h2) (by omega)
/-- a cell that is seen no more becomes a list -/
theorem frz_env {mu3 : List Addr} {H3 : Hp} {S2 : Store} {ρ2 : Env} {σ3 : L2.St} {i j n : Nat} {ds : List D} (g : Good W mu3 hid S2 H3) (hl : S2.length = n + 1) (hS : S2[n]? = some (.lst ds)) (hij : i ≠ j) (hb : belowL n ds = true) (hB : envB n i 0 ρ2 = true)
    (he : EnvR W mu3 hid H3 (ρ2.set j (some (.cel n))) σ3) : EnvR W (mu3.take n) hid H3 ((ρ2.set i none).set j (some (.lst ds))) σ3 := by
  refine ⟨by simpa using he.1, fun k d hk => ?_⟩
  by_cases hkj : j = k
  · subst hkj
    by_cases hjl : j < ρ2.length
    · rw [List.getElem?_set_self (by simpa using hjl)] at hk
      cases hk
      obtain ⟨v, h1, a, rfl, hm⟩ := he.2 j (.cel n) (by rw [List.getElem?_set_self hjl])
      obtain ⟨a', hm', ys, h2, r⟩ := g.obj n _ hS
      rw [hm] at hm'; cases hm'
      refine ⟨_, h1, a, ys, rfl, h2, fun z => ?_, fun z => g.dis a z (List.mem_of_getElem? hm), RepL.cut ds ys hb r⟩
      obtain ⟨m, hm2, e⟩ := List.getElem_of_mem z
      rw [List.length_take] at hm2
      rw [List.getElem_take] at e
      obtain ⟨hn, e2⟩ := List.getElem?_eq_some_iff.mp hm
      have := (List.getElem_inj g.nd).mp (e.trans e2.symm)
      omega
    · rw [List.getElem?_eq_none (by simpa using hjl)] at hk; cases hk
  · rw [List.getElem?_set_ne hkj] at hk
    by_cases hki : i = k
    · subst hki
      by_cases hil : i < ρ2.length
      · rw [List.getElem?_set_self hil] at hk; cases hk
      · rw [List.getElem?_eq_none (by simpa using hil)] at hk; cases hk
    · rw [List.getElem?_set_ne hki] at hk
      obtain ⟨v, h1, r⟩ := he.2 k d (by rw [List.getElem?_set_ne hkj]; exact hk)
      exact ⟨v, h1, Rep.cut d v (envB_at hB hk (by omega)) r⟩
theorem ss_build {i j : Nat} {st1 st2 st3 : Stmt} {sts : List Stmt} (h1 : PS X st1 (tS W G Wx (.asg (.tv i) (.lst true .nil)))) (h2 : PS X st2 (tS W G Wx b)) (h3 : PS X st3 (tS W G Wx (.asg (.tv j) (.var i)))) (hl : PSs X sts (tS W G Wx l)) :
    PSs X (st1 :: st2 :: st3 :: sts) (tS W G Wx (.cons (.build i j b) l)) := by
  refine pssImp (pss_cons h1 (pss_cons h2 (pss_cons h3 hl))) fun D σ H ⟨ρ, S, mu, hid, he, hg, hf⟩ => ?_
  simp only [evS] at hf
  have e1 : evS G (.asg (.tv i) (.lst true .nil)) ρ S = .ok (.nx (ρ.set i (some (.cel S.length)))) (S ++ [.lst []]) := by
    simp only [evS, evE, evA, evG, R.bind, mkL]
    rfl
  refine ⟨ρ, S, mu, hid, he, hg, ?_⟩
  rw [e1]
  intro H1 mu1 x1 g1 σ1 hl1 he1
  refine ⟨_, _, mu1, hid, he1, g1, ?_⟩
  cases hy : evS G b (ρ.set i (some (.cel S.length))) (S ++ [.lst []]) with
  | bad => rw [hy] at hf; exact hf.elim
  | exc c S2 =>
    rw [hy] at hf
    exact Fin.moved (x := (.exc c S2 : R Fl)) hf x1
  | ok f S2 =>
    rw [hy] at hf
    cases f with
    | rt d => exact hf.elim
    | nx ρ2 =>
      intro H2 mu2 x2 g2 σ2 hl2 he2
      simp only [R.bind] at hf
      cases hz : frzL i j S.length ρ2 S2 with
      | none => rw [hz] at hf; exact hf.elim
      | some q =>
        obtain ⟨ρ3, S3⟩ := q
        rw [hz] at hf
        simp only at hf
        unfold frzL at hz
        split at hz
        · rename_i m ds hi hS
          split at hz
          · rename_i hc
            obtain ⟨rfl, hlen, hij, hall, hbl, hB⟩ := hc
            cases hz
            have e3 : evS G (.asg (.tv j) (.var i)) ρ2 S2 = .ok (.nx (ρ2.set j (some (.cel S.length)))) S2 := by
              have : getV ρ2 i = some (.cel S.length) := by unfold getV; rw [hi]
              simp only [evS, evE, evG, R.bind, this, R.ofO]
            refine ⟨ρ2, S2, mu2, hid, he2, g2, ?_⟩
            rw [e3]
            intro H3 mu3 x3 g3 σ3 hl3 he3
            have x := (x1.trans x2).trans x3
            have hm3 : mu3.take S.length = mu := by
              obtain ⟨t, rfl⟩ := x.pre
              rw [← hg.len, List.take_left]
            have g4 := g3.cut (k := S.length) (by omega) hall
            have he4 := frz_env g3 hlen hS hij hbl hB he3
            rw [hm3] at g4 he4
            refine ⟨_, _, mu, hid, he4, g4, ?_⟩
            have y : Ext mu H mu H3 := ⟨⟨[], by simp⟩, fun _ z => .inl z, x.keep, x.there⟩
            refine (hf.moved y).mono (fun fl S' mu' H' _ _ k => ?_) fun _ _ _ h => h
            cases fl with
            | nx ρ' => exact fun σ' hl' he' => k σ' (hl'.trans (hl3.trans (hl2.trans hl1))) he'
            | rt d => exact k
          · cases hz
        · cases hz
end
end Ev
end
section
set_option Elab.async false
set_option linter.all false
set_option maxRecDepth 100000
set_option maxHeartbeats 1000000
namespace Ev
open PySem PySem.Spec PyProof.Rows L2
/-! ### does a text say this -/
structure Cn extends Ck
def Cn.out (C : Cn) : Cn := ⟨C.toCk.out⟩
def notComp : Expr → Bool
  | .ListComp .. => false | .SetComp .. => false | .DictComp .. => false | _ => true
def notTuple : Expr → Bool
  | .Tuple .. => false | _ => true
def notSet : Expr → Bool
  | .Set .. => false | _ => true
def swD (sc : Scope) (ts vs : List Expr) : Option (Option (List Str)) :=
  if !(ts.length == 2 || ts.length == 3) || vs.length != ts.length then some none
  else if vs.any starred then some none
  else
    let line := (ts.head?.map (·.pos.line)).getD 0
    let names := ts.filterMap fun
      | .Name id pos => if sc.names.lookup id == some .local && pos.line == line then some id else none
      | _ => none
    if names.length != ts.length || names.eraseDups.length != names.length then some none
    else if vs.all (foldedForSure 8) then some none
    else if vs.all (constantsAlone 8) then none
    else some (some names)
theorem any_star : ∀ vs : List Expr, (vs.any fun | .Starred .. => true | _ => false) = vs.any starred
  | [] => rfl
  | v :: vs => by rw [List.any_cons, List.any_cons, any_star vs]; cases v <;> rfl
theorem swD_ok {env : PySem.Env} (hk : env.scope.kind = .function) {ts vs : List Expr} {k k2 : Nat} {p p2 : Pos} {r : Option (List Str)} (h : swD env.scope ts vs = some r) : swappedStores [.Tuple ts k p] (.Tuple vs k2 p2) env = pure r := by
  have hb : env.blockKind = .function := by unfold Env.blockKind; rw [hk]; rfl
  have hf : (ts.filterMap fun
      | .Name id pos => if env.kindOf id == some .local && pos.line == (ts.head?.map (·.pos.line)).getD 0 then some id else none
      | _ => none) = (ts.filterMap fun
      | .Name id pos => if env.scope.names.lookup id == some .local && pos.line == (ts.head?.map (·.pos.line)).getD 0 then some id else none
      | _ => none) := rfl
  unfold swD at h
  unfold swappedStores
  simp only [hb, bne_self_eq_false, Bool.or_false]
  split at h
  · rename_i h1
    cases h
    rw [if_pos h1]
  · rename_i h1
    rw [if_neg h1]
    split at h
    · rename_i h2
      cases h
      rw [← any_star] at h2
      erw [if_pos h2]
    · rename_i h2
      rw [← any_star] at h2
      erw [if_neg h2]
      simp only at h
      split at h
      · rename_i h3
        cases h
        erw [if_pos h3]
      · rename_i h3
        erw [if_neg h3]
        split at h
        · rename_i h4
          cases h
          rw [if_pos h4]
        · rename_i h4
          rw [if_neg h4]
          split at h
          · cases h
          · rename_i h5
            cases h
            rw [if_neg h5]; rfl
theorem sw_notTuple {tg e : Expr} {env : PySem.Env} (h : notTuple e = true) : swappedStores [tg] e env = pure none := by
  cases e <;> first | (cases tg <;> rfl) | (cases h; done)
def notListE : Expr → Bool
  | .List .. => false | _ => true
theorem sw_notTarget {tg e : Expr} {env : PySem.Env} (h : notTuple tg = true) (h2 : notListE tg = true) : swappedStores [tg] e env = pure none := by
  cases tg <;> first | (cases e <;> rfl) | (cases h; done) | (cases h2; done)
theorem sw_notComp {e : Expr} {tg : Option Expr} {line : Nat} {env : PySem.Env} (h : notComp e = true) : swapsWith e tg line env = pure false := by
  cases e <;> first | rfl | (cases h; done)
/-- a list comprehension for a captured name -/
def cellB (sc : Scope) (tg ea : Expr) : Bool := match tg, ea with
  | .Name t _, .ListComp .. => decide (sc.names.lookup t = some .cell)
  | _, _ => false
theorem sw_cell {tg e : Expr} {line : Nat} {env : PySem.Env} (h : cellB env.scope tg e = true) : swapsWith e (some tg) line env = pure false := by
  unfold cellB at h
  split at h
  · rename_i t p a b c d
    have h : env.kindOf t = some .cell := of_decide_eq_true h
    unfold swapsWith
    simp only [h]
    have e1 : (some NameKind.cell == some NameKind.local) = false := by decide
    rw [e1, Bool.and_false, Bool.false_and, Bool.false_and]
  · cases h
theorem fold_notSet {e : Expr} {env : PySem.Env} (h : notSet e = true) : ∀ x, foldedSetIterable e env x = pure x := by
  intro x
  cases e <;> first | rfl | (cases h; done) | trace_state
def opB : Bop → Operator → Bool
  | .add, .Add => true | .sub, .Sub => true | .mul, .Mult => true | .fdiv, .FloorDiv => true | .mod, .Mod => true | .pow, .Pow => true | _, _ => false
theorem opB_ok {o : Bop} {op : Operator} (h : opB o op = true) : op = o.op := by
  cases o <;> cases op <;> first | rfl | cases h
def copB : Cop → CmpOp → Bool
  | .eq, .Eq => true | .ne, .NotEq => true | .lt, .Lt => true | .le, .LtE => true | .gt, .Gt => true | .ge, .GtE => true | .isN, .Is => true | .notN, .IsNot => true | .in_, .In => true | .notIn, .NotIn => true | _, _ => false
theorem copB_ok {o : Cop} {op : CmpOp} (h : copB o op = true) : op = o.op := by
  cases o <;> cases op <;> first | rfl | cases h
theorem behind_of {op : CmpOp} {e : Expr} (h : notSet e = true) : behindInMarks op e = false := by
  cases e <;> first | rfl | (cases h; done)
/-- an expression whose test is its value's truth -/
def plainTest : Expr → Bool
  | .UnaryOp .Not _ _ => false | .BoolOp .. => false | .IfExp .. => false | .Compare .. => false | _ => true
theorem plainTest_ok {e : Expr} {env : PySem.Env} (h : plainTest e = true) : ∀ whole, isTrue e env whole = (do let v ← whole; standAt e.pos; holding [v] (truthy v)) := by
  intro w
  cases e with
  | UnaryOp op a p => cases op <;> first | rfl | (cases h; done)
  | _ => first | rfl | (cases h; done)
def notIf : Expr → Bool
  | .IfExp .. => false | _ => true
def isNil : T → Bool
  | .nil => true | _ => false
def isTrueT : T → Bool
  | .bl true => true | _ => false
/-- names that a comprehension keeps in cells of its own -/
def celS (scope : Scope) (x : Str) : Bool := scope.names.lookup x == some .cell
def inB : Bool → CmpOp → Bool
  | false, .In => true | true, .NotIn => true | _, _ => false
theorem inB_ok {neg : Bool} {op : CmpOp} (h : inB neg op = true) : op = if neg then .NotIn else .In := by
  cases neg <;> cases op <;> first | rfl | cases h
mutual
def chkE (C : Cn) (df : Str → Bool) (sc : Scope) : T → Expr → Bool
  | .var i, .Name x _ => decide (C.N[i]? = some x) && visB sc x && okName x
  | .int i, .Constant (.int j) _ _ => decide (i = j)
  | .str i, .Constant (.str j) _ _ => decide (i = j)
  | .bl i, .Constant (.bool j) _ _ => decide (i = j)
  | .non, .Constant .none _ _ => true
  | .glob g, .Name x _ => decide (C.gname g = some x) && glB sc x && okName x
  | .bin o a b, .BinOp ea op eb _ => opB o op && chkE C df sc a ea && chkE C df sc b eb
  | .neg a, .UnaryOp .USub ea _ => chkE C df sc a ea
  | .not a, .UnaryOp .Not ea _ => notIf ea && chkE C df sc a ea
  | .cmp o a b, .Compare ea [op] [eb] _ => copB o op && chkE C df sc a ea && chkE C df sc b eb && notSet eb
  | .chain o p a b c, .Compare ea [op, op'] [eb, ec] _ => copB o op && copB p op' && chkE C df sc a ea && chkE C df sc b eb && chkE C df sc c ec && notSet ec
  | .and a b, .BoolOp .And (x :: y :: r) p => notIf x && chkE C df sc a x && chkE C df sc b (.BoolOp .And (y :: r) p)
  | .or a b, .BoolOp .Or (x :: y :: r) p => notIf x && chkE C df sc a x && chkE C df sc b (.BoolOp .Or (y :: r) p)
  | .one a, .BoolOp _ [x] _ => notIf x && chkE C df sc a x
  | .ife c a b, .IfExp ec ea eb _ => notIf ec && chkE C df sc c ec && chkE C df sc a ea && chkE C df sc b eb
  | .tup es, .Tuple xs _ _ => chkA C df sc es xs
  | .lst _ es, .List xs _ => chkA C df sc es xs
  | .rep _ a b, .BinOp ea .Mult eb _ => chkE C df sc a ea && chkE C df sc b eb
  | .ix a i, .Subscript ea ei _ => notSlice ei && chkE C df sc a ea && chkE C df sc i ei
  | .sl a lo hi, .Subscript ea (.Slice l h none _) _ => chkE C df sc a ea && (match l with | none => isNil lo | some le => !isNil lo && chkE C df sc lo le) && (match h with | none => isNil hi | some he => !isNil hi && chkE C df sc hi he)
  | .rev a, .Subscript ea (.Slice none none (some (.UnaryOp .USub (.Constant (.int i) _ _) _)) _) _ => decide (i = 1) && chkE C df sc a ea
  | .upper a, .Call (.Attribute ea at_ p1) [] [] p2 => decide (at_ = ("upper" : Str)) && notCall ea && p1.endLine == p2.line && chkE C df sc a ea
  | .call f es, .Call (.Name x _) xs [] _ => decide (C.fname f = some x) && glB sc x && okName x && noStar xs && chkA C df sc es xs
  | .prim p es, .Call (.Name x _) (y :: xs) [] _ => decide (x = p.name) && glB sc x && noStar (y :: xs) && chkA C df sc es (y :: xs)
  | .isi t a, .Call (.Name x _) [ea, .Name y _] [] _ => decide (x = ("isinstance" : Str)) && decide (y = t.nm) && glB sc x && glB sc y && !starred ea && chkE C df sc a ea
  | .comp _ e tg it cond own, .ListComp elt [⟨tge, iter, ifs, isA⟩] scope _ => decide (isA = 0) && blkC C.N sc scope (own.map fun i => (C.N.getD i Str.empty, i)) && notSet iter && chkI C df sc it tge iter &&
      chkG C (celS scope) (relS scope sc) tg tge && (match ifs with | [] => isTrueT cond | [ce] => notIf ce && chkE C (celS scope) (relS scope sc) cond ce | _ => false) && chkE C (celS scope) (relS scope sc) e elt && (tgs tg).all (fun i => own.contains i)
  | .callv i es, .Call (.Name x _) (y :: xs) [] _ => decide (C.N[i]? = some x) && visB sc x && okName x && noStar (y :: xs) && chkA C df sc es (y :: xs)
  | .word w hs dv e, .Call (.Name x _) [.Lambda params body scope _] [] _ => C.lam && decide (C.wname w = some x) && decide (C.whs w = (hs, dv)) && glB sc x && okName x && noPar params && LamX.lamSB sc scope && chkE C.out (fun _ => false) scope e body
  | .lrng1 a, .Call (.Name x _) [.Call (.Name y _) [ea] [] _] [] _ => decide (x = ("list" : Str)) && decide (y = ("range" : Str)) && glB sc x && glB sc y && !starred ea && chkE C df sc a ea
  | .lrng2 a b, .Call (.Name x _) [.Call (.Name y _) [ea, eb] [] _] [] _ => decide (x = ("list" : Str)) && decide (y = ("range" : Str)) && glB sc x && glB sc y && !starred ea && !starred eb && chkE C df sc a ea && chkE C df sc b eb
  | .dz a b, .Call (.Name x _) [.Call (.Name y _) [ea, eb] [] _] [] _ => decide (x = ("dict" : Str)) && decide (y = ("zip" : Str)) && glB sc x && glB sc y && !starred ea && !starred eb && chkE C df sc a ea && chkE C df sc b eb
  | .dnew, .Dict [] [] _ => true
  | .dix a es, .Subscript ea (.Tuple xs _ _) _ => chkE C df sc a ea && chkA C df sc es xs
  | .din neg es a, .Compare (.Tuple xs _ _) [op] [ea] _ => inB neg op && chkA C df sc es xs && chkE C df sc a ea && notSet ea
  | _, _ => false
def chkA (C : Cn) (df : Str → Bool) (sc : Scope) : T → List Expr → Bool
  | .nil, [] => true
  | .cons a l, x :: xs => !starred x && chkE C df sc a x && chkA C df sc l xs
  | _, _ => false
def chkI (C : Cn) (df : Str → Bool) (sc : Scope) : T → Expr → Expr → Bool
  | .one e, _, x => chkE C df sc e x
  | .rng1 a, _, .Call (.Name x _) [ea] [] _ => decide (x = ("range" : Str)) && glB sc x && !starred ea && chkE C df sc a ea
  | .rng2 a b, _, .Call (.Name x _) [ea, eb] [] _ => decide (x = ("range" : Str)) && glB sc x && !starred ea && !starred eb && chkE C df sc a ea && chkE C df sc b eb
  | .rng3 a b, _, .Call (.Name x _) [ea, eb, .UnaryOp .USub (.Constant (.int i) _ _) _] [] _ => decide (x = ("range" : Str)) && decide (i = 1) && glB sc x && !starred ea && !starred eb && chkE C df sc a ea && chkE C df sc b eb
  | .zip a b, .Tuple _ _ _, .Call (.Name x _) [ea, eb] [] _ => decide (x = ("zip" : Str)) && glB sc x && !starred ea && !starred eb && chkE C df sc a ea && chkE C df sc b eb
  | .enum a, .Tuple _ _ _, .Call (.Name x _) [ea] [] _ => decide (x = ("enumerate" : Str)) && glB sc x && !starred ea && chkE C df sc a ea
  | _, _, _ => false
def chkG (C : Cn) (df : Str → Bool) (sc : Scope) : T → Expr → Bool
  | .tv i, .Name x _ => decide (C.N[i]? = some x) && locB sc x && (df x || decide (sc.names.lookup x = some .local))
  | .tt ts, .Tuple xs _ _ => noStar xs && chkGs C df sc ts xs
  | .ts a i, .Subscript ea ei _ => notSlice ei && chkE C df sc a ea && chkE C df sc i ei
  | _, _ => false
def chkGs (C : Cn) (df : Str → Bool) (sc : Scope) : T → List Expr → Bool
  | .nil, [] => true
  | .cons a l, x :: xs => !starred x && chkG C df sc a x && chkGs C df sc l xs
  | _, _ => false
def chkS (C : Cn) (sc : Scope) : T → Stmt → Bool
  | .asg t a, .Assign [tg] ea _ => !starred tg && (notComp ea || cellB sc tg ea) && (notTuple ea || (match tg, ea with
      | .Tuple ts _ _, .Tuple vs _ _ => decide (swD sc ts vs = some none)
      | .Name _ _, _ => true
      | .Subscript .., _ => true
      | _, _ => false)) && chkE C (fun _ => true) sc a ea && chkG C (fun _ => true) sc t tg
  | .asgc i (.comp cl e tg it cond own), .Assign [.Name y py] (.ListComp elt [⟨tge, iter, ifs, isA⟩] scope p2) pos => decide (isA = 0) && decide (C.N[i]? = some y) && decide (sc.names.lookup y = some .local) && py.line == p2.line &&
      !(scope.names.any fun (n, k) => n == y && (k == .local || k == .cell)) &&
      (blkC C.N sc scope (own.map fun i => (C.N.getD i Str.empty, i)) && notSet iter && chkI C (fun _ => true) sc it tge iter &&
      chkG C (celS scope) (relS scope sc) tg tge && (match ifs with | [] => isTrueT cond | [ce] => notIf ce && chkE C (celS scope) (relS scope sc) cond ce | _ => false) && chkE C (celS scope) (relS scope sc) e elt && (tgs tg).all (fun i => own.contains i))
  | .par [i, j] es, .Assign [.Tuple ts k p] (.Tuple vs k2 p2) _ => (match C.N[i]?, C.N[j]? with
      | some x, some y => decide (swD sc ts vs = some (some [x, y])) && decide (sc.names.lookup x = some .local) && decide (sc.names.lookup y = some .local)
      | _, _ => false) && chkA C (fun _ => true) sc es vs
  | .par [i, j, l] es, .Assign [.Tuple ts k p] (.Tuple vs k2 p2) _ => (match C.N[i]?, C.N[j]?, C.N[l]? with
      | some x, some y, some z => decide (swD sc ts vs = some (some [x, y, z])) && decide (sc.names.lookup x = some .local) && decide (sc.names.lookup y = some .local) && decide (sc.names.lookup z = some .local)
      | _, _, _ => false) && chkA C (fun _ => true) sc es vs
  | .app i a, .Expr (.Call (.Attribute (.Name x _) at_ p2) [ea] [] p3) _ => decide (at_ = ("append" : Str)) && decide (C.N[i]? = some x) && visB sc x && okName x && (x == ("super" : Str)) == false && !starred ea && p2.endLine == p3.line && chkE C (fun _ => true) sc a ea
  | .expr a, .Expr ea _ => notComp ea && chkE C (fun _ => true) sc a ea
  | .ret a, .Return (some ea) _ => chkE C (fun _ => true) sc a ea
  | .ret0, .Return none _ => true
  | .pass, .Pass _ => true
  | .ite c a b, .If ec p q _ => notIf ec && chkE C (fun _ => true) sc c ec && chkSs C sc a p && chkSs C sc b q
  | .loop c b, .While ec p [] _ => notIf ec && chkE C (fun _ => true) sc c ec && chkSs C sc b p
  | .for_ t it b, .For tg iter p [] _ => notSet iter && chkI C (fun _ => true) sc it tg iter && chkG C (fun _ => true) sc t tg && chkSs C sc b p
  | .dset a es e, .Assign [.Subscript ea (.Tuple xs _ _) _] ec _ => notComp ec && chkE C (fun _ => true) sc e ec && chkE C (fun _ => true) sc a ea && chkA C (fun _ => true) sc es xs
  | .raise c, .Raise (some (.Call (.Name x _) [.Constant (.str _) _ _] [] _)) none _ => decide (C.cname c = some x) && glB sc x && okName x
  | _, _ => false
def chkSs (C : Cn) (sc : Scope) : T → List Stmt → Bool
  | .nil, [] => true
  | .cons (.build i j b) l, .Assign [.Name x _] (.List [] _) _ :: st :: .Assign [.Name y _] (.Name z _) _ :: xs => decide (C.N[i]? = some x) && decide (z = x) && decide (C.N[j]? = some y) && visB sc x && okName x && locB sc x && locB sc y && chkS C sc b st && chkSs C sc l xs
  | .cons a l, x :: xs => chkS C sc a x && chkSs C sc l xs
  | _, _ => false
end
end Ev
end
section
set_option Elab.async false
set_option linter.all false
set_option maxRecDepth 100000
set_option maxHeartbeats 4000000
namespace Ev
open PySem PySem.Spec PyProof.Rows L2
structure SOk (W : Wd) (C : Cn) (X : Cx) : Prop where
  po : PassesOwn (model X.prog X.w) X.A X.env X.xe
  kind : X.env.scope.kind = .function
  fn : ∀ x, X.fn x = true
  exc : ∀ c x, C.cname c = some x → ExcOk X x (W.cls c)
def isBoolOp : Expr → Bool
  | .BoolOp .. => true | _ => false
abbrev FnO (df : Str → Bool) (X : Cx) : Prop := ∀ x, df x = true → X.fn x = true
def ClE (W : Wd) (G : Glb) (C : Cn) (t : T) : Prop := ∀ (Wx : WX) (X : Cx) (df : Str → Bool), XOk W G C.toCk Wx X → FnO df X → ∀ e, chkE C df X.env.scope t e = true → PE X e (tE W G Wx t) ∧ (notIf e = true → PT X e (tT W G Wx t)) ∧ (isBoolOp e = true → PW X e (tT W G Wx t))
def ClA (W : Wd) (G : Glb) (C : Cn) (t : T) : Prop := ∀ (Wx : WX) (X : Cx) (df : Str → Bool), XOk W G C.toCk Wx X → FnO df X → ∀ es, chkA C df X.env.scope t es = true → PA X es (tA W G Wx t)
def ClI (W : Wd) (G : Glb) (C : Cn) (t : T) : Prop := ∀ (Wx : WX) (X : Cx) (df : Str → Bool), XOk W G C.toCk Wx X → FnO df X → ∀ tg e, chkI C df X.env.scope t tg e = true → PI X tg e (tI W G Wx t)
def ClG (W : Wd) (G : Glb) (C : Cn) (t : T) : Prop := ∀ (Wx : WX) (X : Cx) (df : Str → Bool), XOk W G C.toCk Wx X → FnO df X → ∀ e, chkG C df X.env.scope t e = true → PG X e (gT W G Wx t)
def ClGs (W : Wd) (G : Glb) (C : Cn) (t : T) : Prop := ∀ (Wx : WX) (X : Cx) (df : Str → Bool), XOk W G C.toCk Wx X → FnO df X → ∀ es, chkGs C df X.env.scope t es = true → PGs X es (gTs W G Wx t) ∧ tlen t = es.length
def ClS (W : Wd) (G : Glb) (C : Cn) (t : T) : Prop := ∀ (Wx : WX) (X : Cx), XOk W G C.toCk Wx X → SOk W C X → ∀ e, chkS C X.env.scope t e = true → PS X e (tS W G Wx t)
def ClB (W : Wd) (G : Glb) (C : Cn) (t : T) : Prop := ∀ (Wx : WX) (X : Cx), XOk W G C.toCk Wx X → SOk W C X → ∀ es, chkSs C X.env.scope t es = true → PSs X es (tS W G Wx t)
structure Sd (W : Wd) (G : Glb) (C : Cn) (t : T) : Prop where
  E : ClE W G C t
  A : ClA W G C t
  I : ClI W G C t
  T : ClG W G C t
  Ts : ClGs W G C t
  S : ClS W G C t
  B : ClB W G C t
section
variable {W : Wd} {G : Glb} {C : Cn} {Wx : WX} {X : Cx} {e : Expr} {t a b c : Ev.T}
theorem eTriple (K : XOk W G C.toCk Wx X) (h : PE X e (tE W G Wx t)) (hp : plainTest e = true) : PE X e (tE W G Wx t) ∧ (notIf e = true → PT X e (tT W G Wx t)) ∧ (isBoolOp e = true → PW X e (tT W G Wx t)) :=
  ⟨h, fun _ => t_val K h (plainTest_ok hp), fun hb => by cases e <;> first | (cases hb; done) | (cases hp; done)⟩
/-- what is no list, no target, no statement -/
theorem Sd.ofE (h : ClE W G C t) (hA : ∀ df sc es, chkA C df sc t es = false) (hI : ∀ df sc tg e, chkI C df sc t tg e = false) (hG : ∀ df sc e, chkG C df sc t e = false) (hGs : ∀ df sc e, chkGs C df sc t e = false) (hS : ∀ sc e, chkS C sc t e = false) (hB : ∀ sc e, chkSs C sc t e = false) : Sd W G C t :=
  ⟨h, fun _ _ _ _ _ _ q => by (rw [hA] at q; cases q), fun _ _ _ _ _ _ _ q => by (rw [hI] at q; cases q), fun _ _ _ _ _ _ q => by (rw [hG] at q; cases q), fun _ _ _ _ _ _ q => by (rw [hGs] at q; cases q), fun _ _ _ _ _ q => by (rw [hS] at q; cases q), fun _ _ _ _ _ q => by (rw [hB] at q; cases q)⟩
theorem Sd.ofS (h : ClS W G C t) (hE : ∀ df sc e, chkE C df sc t e = false) (hA : ∀ df sc es, chkA C df sc t es = false) (hI : ∀ df sc tg e, chkI C df sc t tg e = false) (hG : ∀ df sc e, chkG C df sc t e = false) (hGs : ∀ df sc e, chkGs C df sc t e = false) (hB : ∀ sc e, chkSs C sc t e = false) : Sd W G C t :=
  ⟨fun _ _ _ _ _ _ q => by (rw [hE] at q; cases q), fun _ _ _ _ _ _ q => by (rw [hA] at q; cases q), fun _ _ _ _ _ _ _ q => by (rw [hI] at q; cases q), fun _ _ _ _ _ _ q => by (rw [hG] at q; cases q), fun _ _ _ _ _ _ q => by (rw [hGs] at q; cases q), h, fun _ _ _ _ _ q => by (rw [hB] at q; cases q)⟩
theorem sd_var {i : Nat} : Sd W G C (.var i) := by
  refine Sd.ofE (fun Wx X df K hf e h => ?_) (fun _ _ e => by cases e <;> rfl) (fun _ _ _ e => by cases e <;> rfl) (fun _ _ e => by cases e <;> rfl) (fun _ _ e => by cases e <;> rfl) (fun _ e => by cases e <;> rfl) (fun _ e => by cases e <;> rfl)
  cases e with
  | Name x p =>
    simp only [chkE, Bool.and_eq_true, decide_eq_true_eq] at h
    exact eTriple K (s_var K h.1.1 h.1.2 h.2) rfl
  | _ => exact absurd h (by intro z; cases z)

theorem sd_glob {i : Nat} : Sd W G C (.glob i) := by
  refine Sd.ofE (fun Wx X df K hf e h => ?_) (fun _ _ e => by cases e <;> rfl) (fun _ _ _ e => by cases e <;> rfl) (fun _ _ e => by cases e <;> rfl) (fun _ _ e => by cases e <;> rfl) (fun _ e => by cases e <;> rfl) (fun _ e => by cases e <;> rfl)
  cases e with
  | Name x p =>
    simp only [chkE, Bool.and_eq_true, decide_eq_true_eq] at h
    exact eTriple K (s_glob K h.1.1 h.1.2 h.2) rfl
  | _ => exact absurd h (by intro z; cases z)

theorem sd_int {i : Int} : Sd W G C (.int i) := by
  refine Sd.ofE (fun Wx X df K hf e h => ?_) (fun _ _ e => by cases e <;> rfl) (fun _ _ _ e => by cases e <;> rfl) (fun _ _ e => by cases e <;> rfl) (fun _ _ e => by cases e <;> rfl) (fun _ e => by cases e <;> rfl) (fun _ e => by cases e <;> rfl)
  cases e with
  | Constant k j p =>
    cases k with
    | int z =>
      simp only [chkE, decide_eq_true_eq] at h
      subst h
      exact eTriple K s_int rfl
    | _ => exact absurd h (by intro z; cases z)
  | _ => exact absurd h (by intro z; cases z)

theorem sd_str {i : Str} : Sd W G C (.str i) := by
  refine Sd.ofE (fun Wx X df K hf e h => ?_) (fun _ _ e => by cases e <;> rfl) (fun _ _ _ e => by cases e <;> rfl) (fun _ _ e => by cases e <;> rfl) (fun _ _ e => by cases e <;> rfl) (fun _ e => by cases e <;> rfl) (fun _ e => by cases e <;> rfl)
  cases e with
  | Constant k j p =>
    cases k with
    | str z =>
      simp only [chkE, decide_eq_true_eq] at h
      subst h
      exact eTriple K s_str rfl
    | _ => exact absurd h (by intro z; cases z)
  | _ => exact absurd h (by intro z; cases z)

theorem sd_bl {i : Bool} : Sd W G C (.bl i) := by
  refine Sd.ofE (fun Wx X df K hf e h => ?_) (fun _ _ e => by cases e <;> rfl) (fun _ _ _ e => by cases e <;> rfl) (fun _ _ e => by cases e <;> rfl) (fun _ _ e => by cases e <;> rfl) (fun _ e => by cases e <;> rfl) (fun _ e => by cases e <;> rfl)
  cases e with
  | Constant k j p =>
    cases k with
    | bool z =>
      simp only [chkE, decide_eq_true_eq] at h
      subst h
      exact eTriple K s_bl rfl
    | _ => exact absurd h (by intro z; cases z)
  | _ => exact absurd h (by intro z; cases z)

theorem sd_non  : Sd W G C .non := by
  refine Sd.ofE (fun Wx X df K hf e h => ?_) (fun _ _ e => by cases e <;> rfl) (fun _ _ _ e => by cases e <;> rfl) (fun _ _ e => by cases e <;> rfl) (fun _ _ e => by cases e <;> rfl) (fun _ e => by cases e <;> rfl) (fun _ e => by cases e <;> rfl)
  cases e with
  | Constant k j p =>
    cases k with
    | none => exact eTriple K s_non rfl
    | _ => exact absurd h (by intro z; cases z)
  | _ => exact absurd h (by intro z; cases z)

theorem sd_bin {o : Bop} (ha : Sd W G C a) (hb : Sd W G C b) : Sd W G C (.bin o a b) := by
  refine Sd.ofE (fun Wx X df K hf e h => ?_) (fun _ _ e => by cases e <;> rfl) (fun _ _ _ e => by cases e <;> rfl) (fun _ _ e => by cases e <;> rfl) (fun _ _ e => by cases e <;> rfl) (fun _ e => by cases e <;> rfl) (fun _ e => by cases e <;> rfl)
  cases e with
  | BinOp ea op eb p =>
    simp only [chkE, Bool.and_eq_true, decide_eq_true_eq] at h
    obtain ⟨⟨h1, h2⟩, h3⟩ := h
    rw [opB_ok h1]
    exact eTriple K (s_bin K o (ha.E Wx X df K hf _ h2).1 (hb.E Wx X df K hf _ h3).1) rfl
  | _ => exact absurd h (by intro z; cases z)

theorem sd_neg  (ha : Sd W G C a) : Sd W G C (.neg a) := by
  refine Sd.ofE (fun Wx X df K hf e h => ?_) (fun _ _ e => by cases e <;> rfl) (fun _ _ _ e => by cases e <;> rfl) (fun _ _ e => by cases e <;> rfl) (fun _ _ e => by cases e <;> rfl) (fun _ e => by cases e <;> rfl) (fun _ e => by cases e <;> rfl)
  cases e with
  | UnaryOp op ea p =>
    cases op with
    | USub => exact eTriple K (s_neg K (ha.E Wx X df K hf _ h).1) rfl
    | _ => exact absurd h (by intro z; cases z)
  | _ => exact absurd h (by intro z; cases z)

theorem sd_not  (ha : Sd W G C a) : Sd W G C (.not a) := by
  refine Sd.ofE (fun Wx X df K hf e h => ?_) (fun _ _ e => by cases e <;> rfl) (fun _ _ _ e => by cases e <;> rfl) (fun _ _ e => by cases e <;> rfl) (fun _ _ e => by cases e <;> rfl) (fun _ e => by cases e <;> rfl) (fun _ e => by cases e <;> rfl)
  cases e with
  | UnaryOp op ea p =>
    cases op with
    | Not =>
      simp only [chkE, Bool.and_eq_true] at h
      have q := ha.E Wx X df K hf _ h.2
      exact ⟨s_not K q.1, fun _ => t_not (q.2.1 h.1), fun z => by cases z⟩
    | _ => exact absurd h (by intro z; cases z)
  | _ => exact absurd h (by intro z; cases z)

theorem sd_cmp {o : Cop} (ha : Sd W G C a) (hb : Sd W G C b) : Sd W G C (.cmp o a b) := by
  refine Sd.ofE (fun Wx X df K hf e h => ?_) (fun _ _ e => by cases e <;> rfl) (fun _ _ _ e => by cases e <;> rfl) (fun _ _ e => by cases e <;> rfl) (fun _ _ e => by cases e <;> rfl) (fun _ e => by cases e <;> rfl) (fun _ e => by cases e <;> rfl)
  cases e with
  | Compare ea ops es p =>
    match ops, es, h with
    | [op], [eb], h =>
      simp only [chkE, Bool.and_eq_true] at h
      obtain ⟨⟨⟨h1, h2⟩, h3⟩, h4⟩ := h
      rw [copB_ok h1]
      have q1 := (ha.E Wx X df K hf _ h2).1
      have q2 := (hb.E Wx X df K hf _ h3).1
      exact ⟨s_cmp K o q1 q2 (behind_of h4), fun _ => t_cmp K o q1 q2 (behind_of h4), fun z => by cases z⟩
  | _ => exact absurd h (by intro z; cases z)

theorem sd_chain {o o2 : Cop} (ha : Sd W G C a) (hb : Sd W G C b) (hc : Sd W G C c) : Sd W G C (.chain o o2 a b c) := by
  refine Sd.ofE (fun Wx X df K hf e h => ?_) (fun _ _ e => by cases e <;> rfl) (fun _ _ _ e => by cases e <;> rfl) (fun _ _ e => by cases e <;> rfl) (fun _ _ e => by cases e <;> rfl) (fun _ e => by cases e <;> rfl) (fun _ e => by cases e <;> rfl)
  cases e with
  | Compare ea ops es p =>
    match ops, es, h with
    | [op, op'], [eb, ec], h =>
      simp only [chkE, Bool.and_eq_true] at h
      obtain ⟨⟨⟨⟨⟨h1, h2⟩, h3⟩, h4⟩, h5⟩, h6⟩ := h
      rw [copB_ok h1, copB_ok h2]
      have q1 := (ha.E Wx X df K hf _ h3).1
      have q2 := (hb.E Wx X df K hf _ h4).1
      have q3 := (hc.E Wx X df K hf _ h5).1
      have hm : lastMarks [o.op, o2.op] [eb, ec] = false := behind_of h6
      exact ⟨s_chain' K o o2 q1 q2 q3 hm, fun _ => t_chain K o o2 q1 q2 q3 hm, fun z => by cases z⟩
  | _ => exact absurd h (by intro z; cases z)

theorem sd_and  (ha : Sd W G C a) (hb : Sd W G C b) : Sd W G C (.and a b) := by
  refine Sd.ofE (fun Wx X df K hf e h => ?_) (fun _ _ e => by cases e <;> rfl) (fun _ _ _ e => by cases e <;> rfl) (fun _ _ e => by cases e <;> rfl) (fun _ _ e => by cases e <;> rfl) (fun _ e => by cases e <;> rfl) (fun _ e => by cases e <;> rfl)
  cases e with
  | BoolOp op es p =>
    match op, es, h with
    | .And, x :: y :: r, h =>
      simp only [chkE, Bool.and_eq_true] at h
      obtain ⟨⟨h1, h2⟩, h3⟩ := h
      have q1 := ha.E Wx X df K hf _ h2
      have q2 := hb.E Wx X df K hf _ h3
      have w := w_and (pos := p) (q1.2.1 h1) (q2.2.2 rfl)
      exact ⟨s_and (p2 := p) K q1.1 q2.1, fun _ => w.pt, fun _ => w⟩
  | _ => exact absurd h (by intro z; cases z)

theorem sd_or  (ha : Sd W G C a) (hb : Sd W G C b) : Sd W G C (.or a b) := by
  refine Sd.ofE (fun Wx X df K hf e h => ?_) (fun _ _ e => by cases e <;> rfl) (fun _ _ _ e => by cases e <;> rfl) (fun _ _ e => by cases e <;> rfl) (fun _ _ e => by cases e <;> rfl) (fun _ e => by cases e <;> rfl) (fun _ e => by cases e <;> rfl)
  cases e with
  | BoolOp op es p =>
    match op, es, h with
    | .Or, x :: y :: r, h =>
      simp only [chkE, Bool.and_eq_true] at h
      obtain ⟨⟨h1, h2⟩, h3⟩ := h
      have q1 := ha.E Wx X df K hf _ h2
      have q2 := hb.E Wx X df K hf _ h3
      have w := w_or (pos := p) (q1.2.1 h1) (q2.2.2 rfl)
      exact ⟨s_or K q1.1 q2.1, fun _ => w.pt, fun _ => w⟩
  | _ => exact absurd h (by intro z; cases z)

theorem sd_one (ha : Sd W G C a) : Sd W G C (.one a) := by
  refine ⟨fun Wx X df K hf e h => ?_, fun _ _ _ _ _ e q => by (cases e <;> cases q), fun Wx X df K hf tg e h => ?_, fun _ _ _ _ _ e q => by (cases e <;> cases q), fun _ _ _ _ _ e q => by (cases e <;> cases q), fun _ _ _ _ e q => by (cases e <;> cases q), fun _ _ _ _ e q => by (cases e <;> cases q)⟩
  · cases e with
    | BoolOp op es p =>
      match es, h with
      | [x], h =>
        simp only [chkE, Bool.and_eq_true] at h
        have q1 := ha.E Wx X df K hf _ h.2
        have w := w_one (op := op) (pos := p) (q1.2.1 h.1)
        exact ⟨s_one q1.1, fun _ => w.pt, fun _ => w⟩
    | _ => exact absurd h (by intro z; cases z)
  · exact i_one K (ha.E Wx X df K hf e h).1

theorem sd_ife  (ha : Sd W G C a) (hb : Sd W G C b) (hc : Sd W G C c) : Sd W G C (.ife c a b) := by
  refine Sd.ofE (fun Wx X df K hf e h => ?_) (fun _ _ e => by cases e <;> rfl) (fun _ _ _ e => by cases e <;> rfl) (fun _ _ e => by cases e <;> rfl) (fun _ _ e => by cases e <;> rfl) (fun _ e => by cases e <;> rfl) (fun _ e => by cases e <;> rfl)
  cases e with
  | IfExp ec ea eb p =>
    simp only [chkE, Bool.and_eq_true] at h
    obtain ⟨⟨⟨h0, h1⟩, h2⟩, h3⟩ := h
    have q0 := (hc.E Wx X df K hf _ h1).2.1 h0
    exact ⟨s_ife K q0 (ha.E Wx X df K hf _ h2).1 (hb.E Wx X df K hf _ h3).1, fun z => (by cases z), fun z => (by cases z)⟩
  | _ => exact absurd h (by intro z; cases z)

theorem sd_tup  (ha : Sd W G C a) : Sd W G C (.tup a) := by
  refine Sd.ofE (fun Wx X df K hf e h => ?_) (fun _ _ e => by cases e <;> rfl) (fun _ _ _ e => by cases e <;> rfl) (fun _ _ e => by cases e <;> rfl) (fun _ _ e => by cases e <;> rfl) (fun _ e => by cases e <;> rfl) (fun _ e => by cases e <;> rfl)
  cases e with
  | Tuple xs k p =>
    exact eTriple K (s_tup (ha.A Wx X df K hf xs h)) rfl
  | _ => exact absurd h (by intro z; cases z)

theorem sd_lst {cl : Bool} (ha : Sd W G C a) : Sd W G C (.lst cl a) := by
  refine Sd.ofE (fun Wx X df K hf e h => ?_) (fun _ _ e => by cases e <;> rfl) (fun _ _ _ e => by cases e <;> rfl) (fun _ _ e => by cases e <;> rfl) (fun _ _ e => by cases e <;> rfl) (fun _ e => by cases e <;> rfl) (fun _ e => by cases e <;> rfl)
  cases e with
  | List xs p =>
    exact eTriple K (s_lst (ha.A Wx X df K hf xs h)) rfl
  | _ => exact absurd h (by intro z; cases z)

theorem sd_rep {cl : Bool} (ha : Sd W G C a) (hb : Sd W G C b) : Sd W G C (.rep cl a b) := by
  refine Sd.ofE (fun Wx X df K hf e h => ?_) (fun _ _ e => by cases e <;> rfl) (fun _ _ _ e => by cases e <;> rfl) (fun _ _ e => by cases e <;> rfl) (fun _ _ e => by cases e <;> rfl) (fun _ e => by cases e <;> rfl) (fun _ e => by cases e <;> rfl)
  cases e with
  | BinOp ea op eb p =>
    cases op with
    | Mult =>
      simp only [chkE, Bool.and_eq_true] at h
      exact eTriple K (s_rep K (ha.E Wx X df K hf _ h.1).1 (hb.E Wx X df K hf _ h.2).1) rfl
    | _ => exact absurd h (by intro z; cases z)
  | _ => exact absurd h (by intro z; cases z)

theorem isNil_ok {a : Ev.T} (h : isNil a = true) : a = .nil := by
  cases a <;> first | rfl | (cases h; done)
theorem isTrueT_ok {a : Ev.T} (h : isTrueT a = true) : a = .bl true := by
  cases a with
  | bl b => cases b <;> first | rfl | (cases h; done)
  | _ => first | rfl | (cases h; done)
theorem chkO_ok (ha : Sd W G C a) {df : Str → Bool} (K : XOk W G C.toCk Wx X) (hf : FnO df X) {o : Option Expr} (h : (match o with | none => isNil a | some le => !isNil a && chkE C df X.env.scope a le) = true) : PO X o (tO W G Wx a) := by
  cases o with
  | none => rw [isNil_ok h]; exact o_none
  | some e =>
    simp only [Bool.and_eq_true, Bool.not_eq_true'] at h
    exact o_some (ha.E Wx X df K hf e h.2).1 (by intro z; subst z; cases h.1)

theorem sd_ix (ha : Sd W G C a) (hb : Sd W G C b) : Sd W G C (.ix a b) := by
  refine Sd.ofE (fun Wx X df K hf e h => ?_) (fun _ _ e => by cases e <;> rfl) (fun _ _ _ e => by cases e <;> rfl) (fun _ _ e => by cases e <;> rfl) (fun _ _ e => by cases e <;> rfl) (fun _ e => by cases e <;> rfl) (fun _ e => by cases e <;> rfl)
  cases e with
  | Subscript ea ei p =>
    simp only [chkE, Bool.and_eq_true] at h
    exact eTriple K (s_ix K (ha.E Wx X df K hf _ h.1.2).1 (hb.E Wx X df K hf _ h.2).1 h.1.1) rfl
  | _ => exact absurd h (by intro z; cases z)
theorem sd_sl (ha : Sd W G C a) (hb : Sd W G C b) (hc : Sd W G C c) : Sd W G C (.sl a b c) := by
  refine Sd.ofE (fun Wx X df K hf e h => ?_) (fun _ _ e => by cases e <;> rfl) (fun _ _ _ e => by cases e <;> rfl) (fun _ _ e => by cases e <;> rfl) (fun _ _ e => by cases e <;> rfl) (fun _ e => by cases e <;> rfl) (fun _ e => by cases e <;> rfl)
  cases e with
  | Subscript ea ei p =>
    cases ei with
    | Slice l u s p2 =>
      cases s with
      | none =>
        simp only [chkE, Bool.and_eq_true] at h
        exact eTriple K (s_sl K (ha.E Wx X df K hf _ h.1.1).1 (chkO_ok hb K hf h.1.2) (chkO_ok hc K hf h.2)) rfl
      | some _ => exact absurd h (by intro z; cases z)
    | _ => exact absurd h (by intro z; cases z)
  | _ => exact absurd h (by intro z; cases z)
theorem sd_rev (ha : Sd W G C a) : Sd W G C (.rev a) := by
  refine Sd.ofE (fun Wx X df K hf e h => ?_) (fun _ _ e => by cases e <;> rfl) (fun _ _ _ e => by cases e <;> rfl) (fun _ _ e => by cases e <;> rfl) (fun _ _ e => by cases e <;> rfl) (fun _ e => by cases e <;> rfl) (fun _ e => by cases e <;> rfl)
  cases e with
  | Subscript ea ei p =>
    match ei, h with
    | .Slice none none (some (.UnaryOp .USub (.Constant (.int i) k p1) p2)) p3, h =>
      simp only [chkE, Bool.and_eq_true, decide_eq_true_eq] at h
      obtain ⟨h1, h2⟩ := h
      subst h1
      exact eTriple K (s_rev K (ha.E Wx X df K hf _ h2).1) rfl
  | _ => exact absurd h (by intro z; cases z)
theorem sd_upper (ha : Sd W G C a) : Sd W G C (.upper a) := by
  refine Sd.ofE (fun Wx X df K hf e h => ?_) (fun _ _ e => by cases e <;> rfl) (fun _ _ _ e => by cases e <;> rfl) (fun _ _ e => by cases e <;> rfl) (fun _ _ e => by cases e <;> rfl) (fun _ e => by cases e <;> rfl) (fun _ e => by cases e <;> rfl)
  cases e with
  | Call fn xs kws p =>
    match fn, xs, kws, h with
    | .Attribute ea at_ p1, [], [], h =>
      simp only [chkE, Bool.and_eq_true, decide_eq_true_eq] at h
      obtain ⟨⟨⟨h1, h2⟩, h3⟩, h4⟩ := h
      subst h1
      exact eTriple K (s_upper K (ha.E Wx X df K hf _ h4).1 h2 h3) rfl
  | _ => exact absurd h (by intro z; cases z)
theorem chkA_nil {df : Str → Bool} {sc : Scope} (h : chkA C df sc a [] = true) : a = .nil := by
  cases a with
  | nil => rfl
  | _ => exact absurd h (by intro z; cases z)
theorem sd_call {f : Nat} (ha : Sd W G C a) : Sd W G C (.call f a) := by
  refine Sd.ofE (fun Wx X df K hf e h => ?_) (fun _ _ e => by cases e <;> rfl) (fun _ _ _ e => by cases e <;> rfl) (fun _ _ e => by cases e <;> rfl) (fun _ _ e => by cases e <;> rfl) (fun _ e => by cases e <;> rfl) (fun _ e => by cases e <;> rfl)
  cases e with
  | Call fn xs kws p =>
    match fn, kws, h with
    | .Name x p2, [], h =>
      simp only [chkE, Bool.and_eq_true, decide_eq_true_eq] at h
      obtain ⟨⟨⟨⟨h1, h2⟩, h3⟩, h4⟩, h5⟩ := h
      exact eTriple K (s_call K h1 h2 h3 (ha.A Wx X df K hf xs h5) h4 (fun e => by subst e; exact chkA_nil h5)) rfl
  | _ => exact absurd h (by intro z; cases z)
theorem sd_prim {q : Prim} (ha : Sd W G C a) : Sd W G C (.prim q a) := by
  refine Sd.ofE (fun Wx X df K hf e h => ?_) (fun _ _ e => by cases e <;> rfl) (fun _ _ _ e => by cases e <;> rfl) (fun _ _ e => by cases e <;> rfl) (fun _ _ e => by cases e <;> rfl) (fun _ e => by cases e <;> rfl) (fun _ e => by cases e <;> rfl)
  cases e with
  | Call fn xs kws p =>
    match fn, xs, kws, h with
    | .Name x p2, y :: ys, [], h =>
      simp only [chkE, Bool.and_eq_true, decide_eq_true_eq] at h
      obtain ⟨⟨⟨h1, h2⟩, h3⟩, h4⟩ := h
      subst h1
      exact eTriple K (s_prim K h2 (ha.A Wx X df K hf _ h4) h3) rfl
  | _ => exact absurd h (by intro z; cases z)
theorem sd_isi {q : Ty} (ha : Sd W G C a) : Sd W G C (.isi q a) := by
  refine Sd.ofE (fun Wx X df K hf e h => ?_) (fun _ _ e => by cases e <;> rfl) (fun _ _ _ e => by cases e <;> rfl) (fun _ _ e => by cases e <;> rfl) (fun _ _ e => by cases e <;> rfl) (fun _ e => by cases e <;> rfl) (fun _ e => by cases e <;> rfl)
  cases e with
  | Call fn xs kws p =>
    match fn, xs, kws, h with
    | .Name x p2, [ea, .Name y p3], [], h =>
      simp only [chkE, Bool.and_eq_true, decide_eq_true_eq, Bool.not_eq_true'] at h
      obtain ⟨⟨⟨⟨⟨h1, h2⟩, h3⟩, h4⟩, h5⟩, h6⟩ := h
      subst h1; subst h2
      exact eTriple K (s_isi K h3 h4 (ha.E Wx X df K hf _ h6).1 h5) rfl
  | _ => exact absurd h (by intro z; cases z)

theorem chkC_ok (ha : Sd W G C a) (K : XOk W G C.toCk Wx X) {df : Str → Bool} (hf : FnO df X) {ifs : List Expr} (h : (match ifs with | [] => isTrueT a | [ce] => notIf ce && chkE C df X.env.scope a ce | _ => false) = true) : PTs X ifs (tT W G Wx a) := by
  match ifs, h with
  | [], h =>
    rw [isTrueT_ok h]
    refine ⟨fun pins s σ H Q I ⟨ρ, S, mu, hid, he, hg, hf⟩ => pts_nil.run pins s σ H Q I ?_⟩
    exact Fin.here (S := S) (a := true) hf hg
  | [e], h =>
    simp only [Bool.and_eq_true] at h
    exact pts_one ((ha.E Wx X df K hf e h.2).2.1 h.1)
end
end Ev
end
section
set_option Elab.async false
set_option linter.all false
set_option maxRecDepth 100000
set_option maxHeartbeats 4000000
namespace Ev
open PySem PySem.Spec PyProof.Rows L2
section
variable {W : Wd} {G : Glb} {C : Cn} {Wx : WX} {X : Cx} {e : Expr} {t a b c e0 : Ev.T}
theorem tT_bl {σ : L2.St} {H : Hp} {Q : Bool → Hp → Prop} (hb : ∀ ρ S d S', evE G t ρ S = .ok d S' → ∃ b, d = .bl b) (h : tT W G Wx t σ H Q) : tE W G Wx t σ H (fun x H' => ∃ c, x = .bl c ∧ Q c H') := by
  obtain ⟨ρ, S, mu, hid, he, hg, hf⟩ := h
  refine ⟨ρ, S, mu, hid, he, hg, ?_⟩
  revert hf
  cases hv : evE G t ρ S with
  | bad => exact fun hf => hf.elim
  | exc c S1 => exact fun hf => hf
  | ok d S1 =>
    obtain ⟨b, rfl⟩ := hb ρ S d S1 hv
    exact fun hf H' mu' e g v rv => ⟨b, rv, hf H' mu' e g⟩
theorem din_bl {neg : Bool} {es : Ev.T} : ∀ ρ S d S', evE G (.din neg es a) ρ S = .ok d S' → ∃ b, d = .bl b := by
  intro ρ S d S' h
  simp only [evE] at h
  obtain ⟨ds, S1, _, h⟩ := bind_ok h
  obtain ⟨ks, S2, _, h⟩ := bind_ok h
  obtain ⟨x, S3, _, h⟩ := bind_ok h
  cases hd : dicOf S3 x with
  | none => rw [hd] at h; cases h
  | some kvs => rw [hd] at h; cases h; exact ⟨_, rfl⟩
theorem t_din (K : XOk W G C.toCk Wx X) {neg : Bool} {op : CmpOp} (ho : op = if neg then .NotIn else .In) {k : Nat} {tp pos : Pos} {es : Ev.T} {xs : List Expr} {ea : Expr} (hs : PA X xs (tA W G Wx es)) (ha : PE X ea (tE W G Wx a)) (hm : behindInMarks op ea = false) :
    PT X (.Compare (.Tuple xs k tp) [op] [ea] pos) (tT W G Wx (.din neg es a)) := by
  cases neg with
  | false =>
    subst ho
    exact ptImp (pt_cmp (pc_din (by have := K.room.un; omega) (pe_tup hs) ha) hm) fun σ H Q h => din_key σ H _ (tT_bl din_bl h)
  | true =>
    subst ho
    exact ptImp (pt_cmp (pc_dnotin (by have := K.room.un; omega) (pe_tup hs) ha) hm) fun σ H Q h => din_key σ H _ (tT_bl din_bl h)
theorem sd_callv {i : Nat} (ha : Sd W G C a) : Sd W G C (.callv i a) := by
  refine Sd.ofE (fun Wx X df K hf e h => ?_) (fun _ _ e => by cases e <;> rfl) (fun _ _ _ e => by cases e <;> rfl) (fun _ _ e => by cases e <;> rfl) (fun _ _ e => by cases e <;> rfl) (fun _ e => by cases e <;> rfl) (fun _ e => by cases e <;> rfl)
  cases e with
  | Call fn xs kws p =>
    match fn, xs, kws, h with
    | .Name x p2, y :: ys, [], h =>
      simp only [chkE, Bool.and_eq_true, decide_eq_true_eq] at h
      obtain ⟨⟨⟨⟨h1, h2⟩, h3⟩, h4⟩, h5⟩ := h
      exact eTriple K (s_callv K h1 h2 h3 (ha.A Wx X df K hf _ h5) h4) rfl
  | _ => exact absurd h (by intro z; cases z)
theorem sd_word {w : Nat} {hs : List (Nat × Str)} {dv : Str} (ha : Sd W G C.out a) : Sd W G C (.word w hs dv a) := by
  refine Sd.ofE (fun Wx X df K hf e h => ?_) (fun _ _ e => by cases e <;> rfl) (fun _ _ _ e => by cases e <;> rfl) (fun _ _ e => by cases e <;> rfl) (fun _ _ e => by cases e <;> rfl) (fun _ e => by cases e <;> rfl) (fun _ e => by cases e <;> rfl)
  cases e with
  | Call fn xs kws p =>
    match fn, xs, kws, h with
    | .Name x p2, [.Lambda params body scope lpos], [], h =>
      simp only [chkE, Bool.and_eq_true, decide_eq_true_eq] at h
      obtain ⟨⟨⟨⟨⟨⟨⟨h1, h2⟩, h3⟩, h4⟩, h5⟩, h6⟩, h7⟩, h8⟩ := h
      exact eTriple K (s_word K h1 h2 h3 h4 h5 h6 h7 fun A outer s H E f c' K' => (ha.E _ (LamX.lamCx X A outer s H E scope f c') (fun _ => false) K' (fun x z => by cases z) body h8).1) rfl
  | _ => exact absurd h (by intro z; cases z)
theorem sd_lrng1 (ha : Sd W G C a) : Sd W G C (.lrng1 a) := by
  refine Sd.ofE (fun Wx X df K hf e h => ?_) (fun _ _ e => by cases e <;> rfl) (fun _ _ _ e => by cases e <;> rfl) (fun _ _ e => by cases e <;> rfl) (fun _ _ e => by cases e <;> rfl) (fun _ e => by cases e <;> rfl) (fun _ e => by cases e <;> rfl)
  cases e with
  | Call fn xs kws p =>
    match fn, xs, kws, h with
    | .Name x p2, [.Call (.Name y p3) [ea] [] p4], [], h =>
      simp only [chkE, Bool.and_eq_true, decide_eq_true_eq, Bool.not_eq_true'] at h
      obtain ⟨⟨⟨⟨⟨h1, h2⟩, h3⟩, h4⟩, h5⟩, h6⟩ := h
      subst h1; subst h2
      exact eTriple K (s_lrng1 K h3 h4 (ha.E Wx X df K hf _ h6).1 h5) rfl
  | _ => exact absurd h (by intro z; cases z)
theorem sd_lrng2 (ha : Sd W G C a) (hb : Sd W G C b) : Sd W G C (.lrng2 a b) := by
  refine Sd.ofE (fun Wx X df K hf e h => ?_) (fun _ _ e => by cases e <;> rfl) (fun _ _ _ e => by cases e <;> rfl) (fun _ _ e => by cases e <;> rfl) (fun _ _ e => by cases e <;> rfl) (fun _ e => by cases e <;> rfl) (fun _ e => by cases e <;> rfl)
  cases e with
  | Call fn xs kws p =>
    match fn, xs, kws, h with
    | .Name x p2, [.Call (.Name y p3) [ea, eb] [] p4], [], h =>
      simp only [chkE, Bool.and_eq_true, decide_eq_true_eq, Bool.not_eq_true'] at h
      obtain ⟨⟨⟨⟨⟨⟨⟨h1, h2⟩, h3⟩, h4⟩, h5⟩, h6⟩, h7⟩, h8⟩ := h
      subst h1; subst h2
      exact eTriple K (s_lrng2 K h3 h4 (ha.E Wx X df K hf _ h7).1 h5 (hb.E Wx X df K hf _ h8).1 h6) rfl
  | _ => exact absurd h (by intro z; cases z)
theorem sd_dz (ha : Sd W G C a) (hb : Sd W G C b) : Sd W G C (.dz a b) := by
  refine Sd.ofE (fun Wx X df K hf e h => ?_) (fun _ _ e => by cases e <;> rfl) (fun _ _ _ e => by cases e <;> rfl) (fun _ _ e => by cases e <;> rfl) (fun _ _ e => by cases e <;> rfl) (fun _ e => by cases e <;> rfl) (fun _ e => by cases e <;> rfl)
  cases e with
  | Call fn xs kws p =>
    match fn, xs, kws, h with
    | .Name x p2, [.Call (.Name y p3) [ea, eb] [] p4], [], h =>
      simp only [chkE, Bool.and_eq_true, decide_eq_true_eq, Bool.not_eq_true'] at h
      obtain ⟨⟨⟨⟨⟨⟨⟨h1, h2⟩, h3⟩, h4⟩, h5⟩, h6⟩, h7⟩, h8⟩ := h
      subst h1; subst h2
      exact eTriple K (s_dz K h3 h4 (ha.E Wx X df K hf _ h7).1 h5 (hb.E Wx X df K hf _ h8).1 h6) rfl
  | _ => exact absurd h (by intro z; cases z)
theorem sd_dnew : Sd W G C .dnew := by
  refine Sd.ofE (fun Wx X df K hf e h => ?_) (fun _ _ e => by cases e <;> rfl) (fun _ _ _ e => by cases e <;> rfl) (fun _ _ e => by cases e <;> rfl) (fun _ _ e => by cases e <;> rfl) (fun _ e => by cases e <;> rfl) (fun _ e => by cases e <;> rfl)
  cases e with
  | Dict ks vs p =>
    match ks, vs, h with
    | [], [], h => exact eTriple K s_dnew rfl
  | _ => exact absurd h (by intro z; cases z)
theorem sd_dix (ha : Sd W G C a) (hb : Sd W G C b) : Sd W G C (.dix a b) := by
  refine Sd.ofE (fun Wx X df K hf e h => ?_) (fun _ _ e => by cases e <;> rfl) (fun _ _ _ e => by cases e <;> rfl) (fun _ _ e => by cases e <;> rfl) (fun _ _ e => by cases e <;> rfl) (fun _ e => by cases e <;> rfl) (fun _ e => by cases e <;> rfl)
  cases e with
  | Subscript ea ei p =>
    match ei, h with
    | .Tuple xs k p2, h =>
      simp only [chkE, Bool.and_eq_true] at h
      exact eTriple K (s_dix K (ha.E Wx X df K hf _ h.1).1 (hb.A Wx X df K hf _ h.2)) rfl
  | _ => exact absurd h (by intro z; cases z)
theorem sd_din {neg : Bool} (hb : Sd W G C b) (ha : Sd W G C a) : Sd W G C (.din neg b a) := by
  refine Sd.ofE (fun Wx X df K hf e h => ?_) (fun _ _ e => by cases e <;> rfl) (fun _ _ _ e => by cases e <;> rfl) (fun _ _ e => by cases e <;> rfl) (fun _ _ e => by cases e <;> rfl) (fun _ e => by cases e <;> rfl) (fun _ e => by cases e <;> rfl)
  cases e with
  | Compare ea ops es p =>
    match ea, ops, es, h with
    | .Tuple xs k p2, [op], [ec], h =>
      simp only [chkE, Bool.and_eq_true] at h
      obtain ⟨⟨⟨h1, h2⟩, h3⟩, h4⟩ := h
      have A := hb.A Wx X df K hf _ h2
      have E := (ha.E Wx X df K hf _ h3).1
      exact ⟨s_din K (inB_ok h1) A E (behind_of h4), fun _ => t_din K (inB_ok h1) A E (behind_of h4), fun z => by cases z⟩
  | _ => exact absurd h (by intro z; cases z)
end
end Ev
end
section
set_option Elab.async false
set_option linter.all false
set_option maxRecDepth 100000
set_option maxHeartbeats 4000000
namespace Ev
open PySem PySem.Spec PyProof.Rows L2
section
variable {W : Wd} {G : Glb} {C : Cn} {Wx : WX} {X : Cx} {e : Expr} {t a b c e0 : Ev.T}
theorem locB_of {sc : Scope} {x : Str} (h : sc.names.lookup x = some .local) : locB sc x = true := by unfold locB; rw [h]
theorem swaps_yes {env : PySem.Env} (hk : env.scope.kind = .function) {y : Str} {elt : Expr} {gens : List Comprehension} {scope : Scope} {py p2 : Pos} {line : Nat} (h1 : env.scope.names.lookup y = some .local) (h2 : py.line = p2.line)
    (h3 : (scope.names.any fun (n, k) => n == y && (k == .local || k == .cell)) = false) : swapsWith (.ListComp elt gens scope p2) (some (.Name y py)) line env = pure true := by
  have hb : env.blockKind = .function := by unfold Env.blockKind; rw [hk]; rfl
  have hl : env.kindOf y = some .local := h1
  unfold swapsWith
  simp only [hb, hl, h2]
  erw [h3]
  simp [Expr.pos]
theorem par_no {sc : Scope} {is : List Nat} {tgs : List Expr} {ea : Expr} {p : Pos} (h : chkS C sc (.par is a) (.Assign tgs ea p) = true) (n : ∀ vs k q, ea ≠ .Tuple vs k q) : False := by
  unfold chkS at h
  split at h <;> simp_all
theorem par_no2 {sc : Scope} {is : List Nat} {e : Stmt} (h : chkS C sc (.par is a) e = true) (n : ∀ tgs ea p, e ≠ .Assign tgs ea p) : False := by
  unfold chkS at h
  split at h <;> simp_all
theorem asgc_no {sc : Scope} {i : Nat} {tgs : List Expr} {ea : Expr} {p : Pos} (h : chkS C sc (.asgc i a) (.Assign tgs ea p) = true) (n : ∀ vs k q q2, ea ≠ .ListComp vs k q q2) : False := by
  unfold chkS at h
  split at h <;> simp_all
theorem asgc_no2 {sc : Scope} {i : Nat} {e : Stmt} (h : chkS C sc (.asgc i a) e = true) (n : ∀ tgs ea p, e ≠ .Assign tgs ea p) : False := by
  unfold chkS at h
  split at h <;> simp_all

theorem sd_nil  : Sd W G C (.nil) := by
  refine ⟨fun _ _ _ _ _ e q => by (cases e <;> cases q), fun Wx X df K hf es h => ?_, fun _ _ _ _ _ _ e q => by (cases e <;> cases q), fun _ _ _ _ _ e q => by (cases e <;> cases q), fun Wx X df K hf es h => ?_, fun _ _ _ _ e q => by (cases e <;> cases q), fun Wx X K so es h => ?_⟩
  · cases es with
    | nil => exact a_nil
    | _ => exact absurd h (by intro z; cases z)
  · cases es with
    | nil => exact ⟨gs_nil, rfl⟩
    | _ => exact absurd h (by intro z; cases z)
  · cases es with
    | nil => exact ss_nil
    | _ => exact absurd h (by intro z; cases z)

theorem sd_cons (ha : Sd W G C a) (hb : Sd W G C b) (hp : ∀ i j b, a = .build i j b → Sd W G C b) : Sd W G C (.cons a b) := by
  refine ⟨fun _ _ _ _ _ e q => by (cases e <;> cases q), fun Wx X df K hf es h => ?_, fun _ _ _ _ _ _ e q => by (cases e <;> cases q), fun _ _ _ _ _ e q => by (cases e <;> cases q), fun Wx X df K hf es h => ?_, fun _ _ _ _ e q => by (cases e <;> cases q), fun Wx X K so es h => ?_⟩
  · cases es with
    | cons x xs =>
      simp only [chkA, Bool.and_eq_true, Bool.not_eq_true'] at h
      exact a_cons (ha.E Wx X df K hf _ h.1.2).1 (hb.A Wx X df K hf _ h.2) h.1.1
    | _ => exact absurd h (by intro z; cases z)
  · cases es with
    | cons x xs =>
      simp only [chkGs, Bool.and_eq_true, Bool.not_eq_true'] at h
      have q := hb.Ts Wx X df K hf _ h.2
      exact ⟨gs_cons (ha.T Wx X df K hf _ h.1.2) q.1 h.1.1, by simp only [tlen, q.2, List.length_cons]⟩
    | _ => exact absurd h (by intro z; cases z)
  · cases es with
    | cons x xs =>
      unfold chkSs at h
      split at h
      · rename_i heq _; cases heq
      · rename_i i j b' l x1 p1 p2 p3 st y p4 z p5 p6 sts heq1 heq2
        cases heq1
        cases heq2
        simp only [Bool.and_eq_true, decide_eq_true_eq] at h
        obtain ⟨⟨⟨⟨⟨⟨⟨⟨k1, k2⟩, k3⟩, k4⟩, k5⟩, k6⟩, k7⟩, k8⟩, k9⟩ := h
        subst k2
        exact ss_build (s_asg (s_lst a_nil) (g_tv K k1 k6 (.inl (so.fn _))) rfl rfl rfl) ((hp _ _ _ rfl).S Wx X K so _ k8) (s_asg (s_var K k1 k4 k5) (g_tv K k3 k7 (.inl (so.fn _))) rfl rfl rfl) (hb.B Wx X K so _ k9)
      · rename_i heq1 heq2
        cases heq1
        cases heq2
        simp only [Bool.and_eq_true] at h
        exact ss_cons (ha.S Wx X K so _ h.1) (hb.B Wx X K so _ h.2)
      · cases h
    | nil =>
      unfold chkSs at h
      split at h <;> simp_all

theorem sd_rng1 (ha : Sd W G C a) : Sd W G C (.rng1 a) := by
  refine ⟨fun _ _ _ _ _ e q => by (cases e <;> cases q), fun _ _ _ _ _ e q => by (cases e <;> cases q), fun Wx X df K hf tg e h => ?_, fun _ _ _ _ _ e q => by (cases e <;> cases q), fun _ _ _ _ _ e q => by (cases e <;> cases q), fun _ _ _ _ e q => by (cases e <;> cases q), fun _ _ _ _ e q => by (cases e <;> cases q)⟩
  · cases e with
    | Call fn xs kws p =>
      match fn, xs, kws, h with
      | .Name x p2, [ea], [], h =>
        simp only [chkI, Bool.and_eq_true, decide_eq_true_eq, Bool.not_eq_true'] at h
        obtain ⟨⟨⟨h1, h2⟩, h3⟩, h4⟩ := h
        subst h1
        exact i_rng1 K h2 (ha.E Wx X df K hf _ h4).1 h3
    | _ => exact absurd h (by intro z; cases z)

theorem sd_rng2 (ha : Sd W G C a) (hb : Sd W G C b) : Sd W G C (.rng2 a b) := by
  refine ⟨fun _ _ _ _ _ e q => by (cases e <;> cases q), fun _ _ _ _ _ e q => by (cases e <;> cases q), fun Wx X df K hf tg e h => ?_, fun _ _ _ _ _ e q => by (cases e <;> cases q), fun _ _ _ _ _ e q => by (cases e <;> cases q), fun _ _ _ _ e q => by (cases e <;> cases q), fun _ _ _ _ e q => by (cases e <;> cases q)⟩
  · cases e with
    | Call fn xs kws p =>
      match fn, xs, kws, h with
      | .Name x p2, [ea, eb], [], h =>
        simp only [chkI, Bool.and_eq_true, decide_eq_true_eq, Bool.not_eq_true'] at h
        obtain ⟨⟨⟨⟨⟨h1, h2⟩, h3⟩, h4⟩, h5⟩, h6⟩ := h
        subst h1
        exact i_rng2 K h2 (ha.E Wx X df K hf _ h5).1 h3 (hb.E Wx X df K hf _ h6).1 h4
    | _ => exact absurd h (by intro z; cases z)

theorem sd_rng3 (ha : Sd W G C a) (hb : Sd W G C b) : Sd W G C (.rng3 a b) := by
  refine ⟨fun _ _ _ _ _ e q => by (cases e <;> cases q), fun _ _ _ _ _ e q => by (cases e <;> cases q), fun Wx X df K hf tg e h => ?_, fun _ _ _ _ _ e q => by (cases e <;> cases q), fun _ _ _ _ _ e q => by (cases e <;> cases q), fun _ _ _ _ e q => by (cases e <;> cases q), fun _ _ _ _ e q => by (cases e <;> cases q)⟩
  · cases e with
    | Call fn xs kws p =>
      match fn, xs, kws, h with
      | .Name x p2, [ea, eb, .UnaryOp .USub (.Constant (.int i) z q) q2], [], h =>
        simp only [chkI, Bool.and_eq_true, decide_eq_true_eq, Bool.not_eq_true'] at h
        obtain ⟨⟨⟨⟨⟨⟨h1, h0⟩, h2⟩, h3⟩, h4⟩, h5⟩, h6⟩ := h
        subst h1; subst h0
        exact i_rng3 K h2 (ha.E Wx X df K hf _ h5).1 h3 (hb.E Wx X df K hf _ h6).1 h4
    | _ => exact absurd h (by intro z; cases z)

theorem sd_zip (ha : Sd W G C a) (hb : Sd W G C b) : Sd W G C (.zip a b) := by
  refine ⟨fun _ _ _ _ _ e q => by (cases e <;> cases q), fun _ _ _ _ _ e q => by (cases e <;> cases q), fun Wx X df K hf tg e h => ?_, fun _ _ _ _ _ e q => by (cases e <;> cases q), fun _ _ _ _ _ e q => by (cases e <;> cases q), fun _ _ _ _ e q => by (cases e <;> cases q), fun _ _ _ _ e q => by (cases e <;> cases q)⟩
  · cases e with
    | Call fn xs kws p =>
      match tg, fn, xs, kws, h with
      | .Tuple _ _ _, .Name x p2, [ea, eb], [], h =>
        simp only [chkI, Bool.and_eq_true, decide_eq_true_eq, Bool.not_eq_true'] at h
        obtain ⟨⟨⟨⟨⟨h1, h2⟩, h3⟩, h4⟩, h5⟩, h6⟩ := h
        subst h1
        exact i_zip K h2 (ha.E Wx X df K hf _ h5).1 h3 (hb.E Wx X df K hf _ h6).1 h4
    | _ => cases tg <;> exact absurd h (by intro z; cases z)

theorem sd_enum (ha : Sd W G C a) : Sd W G C (.enum a) := by
  refine ⟨fun _ _ _ _ _ e q => by (cases e <;> cases q), fun _ _ _ _ _ e q => by (cases e <;> cases q), fun Wx X df K hf tg e h => ?_, fun _ _ _ _ _ e q => by (cases e <;> cases q), fun _ _ _ _ _ e q => by (cases e <;> cases q), fun _ _ _ _ e q => by (cases e <;> cases q), fun _ _ _ _ e q => by (cases e <;> cases q)⟩
  · cases e with
    | Call fn xs kws p =>
      match tg, fn, xs, kws, h with
      | .Tuple _ _ _, .Name x p2, [ea], [], h =>
        simp only [chkI, Bool.and_eq_true, decide_eq_true_eq, Bool.not_eq_true'] at h
        obtain ⟨⟨⟨h1, h2⟩, h3⟩, h4⟩ := h
        subst h1
        exact i_enum K h2 (ha.E Wx X df K hf _ h4).1 h3
    | _ => cases tg <;> exact absurd h (by intro z; cases z)

theorem sd_tv {i : Nat} : Sd W G C (.tv i) := by
  refine ⟨fun _ _ _ _ _ e q => by (cases e <;> cases q), fun _ _ _ _ _ e q => by (cases e <;> cases q), fun _ _ _ _ _ _ e q => by (cases e <;> cases q), fun Wx X df K hf e h => ?_, fun _ _ _ _ _ e q => by (cases e <;> cases q), fun _ _ _ _ e q => by (cases e <;> cases q), fun _ _ _ _ e q => by (cases e <;> cases q)⟩
  · cases e with
    | Name x p =>
      simp only [chkG, Bool.and_eq_true, decide_eq_true_eq] at h
      obtain ⟨⟨h1, h2⟩, h3⟩ := h
      rw [Bool.or_eq_true, decide_eq_true_eq] at h3
      exact g_tv K h1 h2 (h3.imp (hf x) id)
    | _ => exact absurd h (by intro z; cases z)

theorem sd_tt (ha : Sd W G C a) : Sd W G C (.tt a) := by
  refine ⟨fun _ _ _ _ _ e q => by (cases e <;> cases q), fun _ _ _ _ _ e q => by (cases e <;> cases q), fun _ _ _ _ _ _ e q => by (cases e <;> cases q), fun Wx X df K hf e h => ?_, fun _ _ _ _ _ e q => by (cases e <;> cases q), fun _ _ _ _ e q => by (cases e <;> cases q), fun _ _ _ _ e q => by (cases e <;> cases q)⟩
  · cases e with
    | Tuple xs k p =>
      simp only [chkG, Bool.and_eq_true] at h
      have q := ha.Ts Wx X df K hf _ h.2
      exact g_tt K q.1 h.1 q.2
    | _ => exact absurd h (by intro z; cases z)

theorem sd_ts (ha : Sd W G C a) (hb : Sd W G C b) : Sd W G C (.ts a b) := by
  refine ⟨fun _ _ _ _ _ e q => by (cases e <;> cases q), fun _ _ _ _ _ e q => by (cases e <;> cases q), fun _ _ _ _ _ _ e q => by (cases e <;> cases q), fun Wx X df K hf e h => ?_, fun _ _ _ _ _ e q => by (cases e <;> cases q), fun _ _ _ _ e q => by (cases e <;> cases q), fun _ _ _ _ e q => by (cases e <;> cases q)⟩
  · cases e with
    | Subscript ea ei p =>
      simp only [chkG, Bool.and_eq_true] at h
      exact g_ts K (ha.E Wx X df K hf _ h.1.2).1 (hb.E Wx X df K hf _ h.2).1 h.1.1
    | _ => exact absurd h (by intro z; cases z)

theorem sd_comp {cl : Bool} {own : List Nat} (he : Sd W G C e0) (ht : Sd W G C t) (hi : Sd W G C a) (hc : Sd W G C c) : Sd W G C (.comp cl e0 t a c own) := by
  refine ⟨fun Wx X df K hf e h => ?_, fun _ _ _ _ _ e q => by (cases e <;> cases q), fun _ _ _ _ _ _ e q => by (cases e <;> cases q), fun _ _ _ _ _ e q => by (cases e <;> cases q), fun _ _ _ _ _ e q => by (cases e <;> cases q), fun _ _ _ _ e q => by (cases e <;> cases q), fun _ _ _ _ e q => by (cases e <;> cases q)⟩
  · cases e with
    | ListComp elt gens scope p =>
      match gens, h with
      | [⟨tge, iter, ifs, isA⟩], h =>
        simp only [chkE, Bool.and_eq_true, decide_eq_true_eq, List.all_eq_true, List.contains_iff_mem] at h
        obtain ⟨⟨⟨⟨⟨⟨⟨h1, h2⟩, h3⟩, h4⟩, h5⟩, h6⟩, h7⟩, h8⟩ := h
        subst h1
        have nf : ∀ s H cenv fp, FnO (celS scope) (X.blk s H scope cenv fp) := fun _ _ _ _ _ z => z
        have g1 := fun s H Cc clo fp => ht.T W0 (X.blk s H scope (compEnvC scope clo Cc X.env) fp) (celS scope) K.blk (nf _ _ _ _) tge h5
        have g2 := fun s H Cc clo fp => chkC_ok (X := X.blk s H scope (compEnvC scope clo Cc X.env) fp) hc K.blk (nf _ _ _ _) h6
        have g3 := fun s H Cc clo fp => (he.E W0 (X.blk s H scope (compEnvC scope clo Cc X.env) fp) (celS scope) K.blk (nf _ _ _ _) elt h7).1
        have gi := hi.I Wx X df K hf tge iter h4
        have ok : BlkOk X.N X.env.scope scope (own.map fun i => (C.N.getD i Str.empty, i)) := blkOk_by (by rw [K.hN]; exact h2)
        exact eTriple K (peImp (pe_lc K.calm K.nd gi ok g1 g2 g3 (fold_notSet h3)) (s_comp K gi ok g1 g2 g3 (fold_notSet h3) h8)) rfl
    | _ => exact absurd h (by intro z; cases z)

theorem sd_asg (ht : Sd W G C t) (ha : Sd W G C a) : Sd W G C (.asg t a) := by
  refine ⟨fun _ _ _ _ _ e q => by (cases e <;> cases q), fun _ _ _ _ _ e q => by (cases e <;> cases q), fun _ _ _ _ _ _ e q => by (cases e <;> cases q), fun _ _ _ _ _ e q => by (cases e <;> cases q), fun _ _ _ _ _ e q => by (cases e <;> cases q), fun Wx X K so e h => ?_, fun _ _ _ _ e q => by (cases e <;> cases q)⟩
  · cases e with
    | Assign tgs ea p =>
      match tgs, h with
      | [tg], h =>
        simp only [chkS, Bool.and_eq_true, Bool.not_eq_true', Bool.or_eq_true] at h
        obtain ⟨⟨⟨⟨h1, h2⟩, h3⟩, h4⟩, h5⟩ := h
        have hw : swappedStores [tg] ea X.env = pure none := by
          rcases h3 with h3 | h3
          · exact sw_notTuple h3
          · split at h3
            · exact swD_ok so.kind (of_decide_eq_true h3)
            · exact sw_notTarget rfl rfl
            · exact sw_notTarget rfl rfl
            · cases h3
        exact s_asg (ha.E Wx X (fun _ => true) K (fun x _ => so.fn x) _ h4).1 (ht.T Wx X (fun _ => true) K (fun x _ => so.fn x) _ h5) (h2.elim sw_notComp sw_cell) hw h1
    | _ => exact absurd h (by intro z; cases z)

theorem sd_par {is : List Nat} (ha : Sd W G C a) : Sd W G C (.par is a) := by
  refine ⟨fun _ _ _ _ _ e q => by (cases e <;> cases q), fun _ _ _ _ _ e q => by (cases e <;> cases q), fun _ _ _ _ _ _ e q => by (cases e <;> cases q), fun _ _ _ _ _ e q => by (cases e <;> cases q), fun _ _ _ _ _ e q => by (cases e <;> cases q), fun Wx X K so e h => ?_, fun _ _ _ _ e q => by (cases e <;> cases q)⟩
  · cases e with
    | Assign tgs ea p =>
      cases ea with
      | Tuple vs k2 p2 =>
        match is, tgs, h with
        | [i, j], [.Tuple ts k p3], h =>
          simp only [chkS, Bool.and_eq_true] at h
          obtain ⟨h1, h2⟩ := h
          cases hx : C.N[i]? with
          | none => rw [hx] at h1; cases h1
          | some x =>
            cases hy : C.N[j]? with
            | none => rw [hx, hy] at h1; cases h1
            | some y =>
              rw [hx, hy] at h1
              simp only [Bool.and_eq_true, decide_eq_true_eq] at h1
              exact s_par2 K hx hy h1.1.2 h1.2 (ha.A Wx X (fun _ => true) K (fun x _ => so.fn x) _ h2) (swD_ok so.kind h1.1.1) rfl
        | [i, j, l], [.Tuple ts k p3], h =>
          simp only [chkS, Bool.and_eq_true] at h
          obtain ⟨h1, h2⟩ := h
          cases hx : C.N[i]? with
          | none => rw [hx] at h1; cases h1
          | some x =>
            cases hy : C.N[j]? with
            | none => rw [hx, hy] at h1; cases h1
            | some y =>
              cases hz : C.N[l]? with
              | none => rw [hx, hy, hz] at h1; cases h1
              | some z =>
                rw [hx, hy, hz] at h1
                simp only [Bool.and_eq_true, decide_eq_true_eq] at h1
                exact s_par3 K hx hy hz h1.1.1.2 h1.1.2 h1.2 (ha.A Wx X (fun _ => true) K (fun x _ => so.fn x) _ h2) (swD_ok so.kind h1.1.1.1) rfl
      | _ => exact (par_no h (by intro _ _ _ z; cases z)).elim
    | _ => exact (par_no2 h (by intro _ _ _ z; cases z)).elim

theorem sd_app {i : Nat} (ha : Sd W G C a) : Sd W G C (.app i a) := by
  refine ⟨fun _ _ _ _ _ e q => by (cases e <;> cases q), fun _ _ _ _ _ e q => by (cases e <;> cases q), fun _ _ _ _ _ _ e q => by (cases e <;> cases q), fun _ _ _ _ _ e q => by (cases e <;> cases q), fun _ _ _ _ _ e q => by (cases e <;> cases q), fun Wx X K so e h => ?_, fun _ _ _ _ e q => by (cases e <;> cases q)⟩
  · cases e with
    | Expr ee p =>
      cases ee with
      | Call fn xs kws p3 =>
        match fn, xs, kws, h with
        | .Attribute (.Name x _) at_ p2, [ea], [], h =>
          simp only [chkS, Bool.and_eq_true, decide_eq_true_eq, Bool.not_eq_true', beq_eq_false_iff_ne, ne_eq] at h
          obtain ⟨⟨⟨⟨⟨⟨⟨h1, h2⟩, h3⟩, h4⟩, h5⟩, h6⟩, h7⟩, h8⟩ := h
          subst h1
          exact s_app K h2 h3 h4 (by simpa using h5) (ha.E Wx X (fun _ => true) K (fun x _ => so.fn x) _ h8).1 h6 h7
      | _ => exact absurd h (by intro z; cases z)
    | _ => exact absurd h (by intro z; cases z)

theorem sd_expr (ha : Sd W G C a) : Sd W G C (.expr a) := by
  refine ⟨fun _ _ _ _ _ e q => by (cases e <;> cases q), fun _ _ _ _ _ e q => by (cases e <;> cases q), fun _ _ _ _ _ _ e q => by (cases e <;> cases q), fun _ _ _ _ _ e q => by (cases e <;> cases q), fun _ _ _ _ _ e q => by (cases e <;> cases q), fun Wx X K so e h => ?_, fun _ _ _ _ e q => by (cases e <;> cases q)⟩
  · cases e with
    | Expr ea p =>
      simp only [chkS, Bool.and_eq_true] at h
      exact s_expr (ha.E Wx X (fun _ => true) K (fun x _ => so.fn x) _ h.2).1 (sw_notComp h.1)
    | _ => exact absurd h (by intro z; cases z)

theorem sd_ret (ha : Sd W G C a) : Sd W G C (.ret a) := by
  refine ⟨fun _ _ _ _ _ e q => by (cases e <;> cases q), fun _ _ _ _ _ e q => by (cases e <;> cases q), fun _ _ _ _ _ _ e q => by (cases e <;> cases q), fun _ _ _ _ _ e q => by (cases e <;> cases q), fun _ _ _ _ _ e q => by (cases e <;> cases q), fun Wx X K so e h => ?_, fun _ _ _ _ e q => by (cases e <;> cases q)⟩
  · cases e with
    | Return o p =>
      cases o with
      | some ea => exact s_ret (ha.E Wx X (fun _ => true) K (fun x _ => so.fn x) _ h).1
      | _ => exact absurd h (by intro z; cases z)
    | _ => exact absurd h (by intro z; cases z)

theorem sd_ret0  : Sd W G C (.ret0) := by
  refine ⟨fun _ _ _ _ _ e q => by (cases e <;> cases q), fun _ _ _ _ _ e q => by (cases e <;> cases q), fun _ _ _ _ _ _ e q => by (cases e <;> cases q), fun _ _ _ _ _ e q => by (cases e <;> cases q), fun _ _ _ _ _ e q => by (cases e <;> cases q), fun Wx X K so e h => ?_, fun _ _ _ _ e q => by (cases e <;> cases q)⟩
  · cases e with
    | Return o p =>
      cases o with
      | none => exact s_ret0
      | _ => exact absurd h (by intro z; cases z)
    | _ => exact absurd h (by intro z; cases z)

theorem sd_pass  : Sd W G C (.pass) := by
  refine ⟨fun _ _ _ _ _ e q => by (cases e <;> cases q), fun _ _ _ _ _ e q => by (cases e <;> cases q), fun _ _ _ _ _ _ e q => by (cases e <;> cases q), fun _ _ _ _ _ e q => by (cases e <;> cases q), fun _ _ _ _ _ e q => by (cases e <;> cases q), fun Wx X K so e h => ?_, fun _ _ _ _ e q => by (cases e <;> cases q)⟩
  · cases e with
    | Pass p => exact s_pass
    | _ => exact absurd h (by intro z; cases z)

theorem sd_ite (hc : Sd W G C c) (ha : Sd W G C a) (hb : Sd W G C b) : Sd W G C (.ite c a b) := by
  refine ⟨fun _ _ _ _ _ e q => by (cases e <;> cases q), fun _ _ _ _ _ e q => by (cases e <;> cases q), fun _ _ _ _ _ _ e q => by (cases e <;> cases q), fun _ _ _ _ _ e q => by (cases e <;> cases q), fun _ _ _ _ _ e q => by (cases e <;> cases q), fun Wx X K so e h => ?_, fun _ _ _ _ e q => by (cases e <;> cases q)⟩
  · cases e with
    | If ec p q _ =>
      simp only [chkS, Bool.and_eq_true] at h
      obtain ⟨⟨⟨h1, h2⟩, h3⟩, h4⟩ := h
      exact s_ite ((hc.E Wx X (fun _ => true) K (fun x _ => so.fn x) _ h2).2.1 h1) (ha.B Wx X K so _ h3) (hb.B Wx X K so _ h4)
    | _ => exact absurd h (by intro z; cases z)

theorem sd_loop (hc : Sd W G C c) (hb : Sd W G C b) : Sd W G C (.loop c b) := by
  refine ⟨fun _ _ _ _ _ e q => by (cases e <;> cases q), fun _ _ _ _ _ e q => by (cases e <;> cases q), fun _ _ _ _ _ _ e q => by (cases e <;> cases q), fun _ _ _ _ _ e q => by (cases e <;> cases q), fun _ _ _ _ _ e q => by (cases e <;> cases q), fun Wx X K so e h => ?_, fun _ _ _ _ e q => by (cases e <;> cases q)⟩
  · cases e with
    | While ec p q _ =>
      cases q with
      | nil =>
        simp only [chkS, Bool.and_eq_true] at h
        obtain ⟨⟨h1, h2⟩, h3⟩ := h
        exact s_loop so.po ((hc.E Wx X (fun _ => true) K (fun x _ => so.fn x) _ h2).2.1 h1) (hb.B Wx X K so _ h3)
      | _ => exact absurd h (by intro z; cases z)
    | _ => exact absurd h (by intro z; cases z)

theorem sd_for_ (ht : Sd W G C t) (hi : Sd W G C a) (hb : Sd W G C b) : Sd W G C (.for_ t a b) := by
  refine ⟨fun _ _ _ _ _ e q => by (cases e <;> cases q), fun _ _ _ _ _ e q => by (cases e <;> cases q), fun _ _ _ _ _ _ e q => by (cases e <;> cases q), fun _ _ _ _ _ e q => by (cases e <;> cases q), fun _ _ _ _ _ e q => by (cases e <;> cases q), fun Wx X K so e h => ?_, fun _ _ _ _ e q => by (cases e <;> cases q)⟩
  · cases e with
    | For tg iter p q _ =>
      cases q with
      | nil =>
        simp only [chkS, Bool.and_eq_true] at h
        obtain ⟨⟨⟨h1, h2⟩, h3⟩, h4⟩ := h
        exact s_for K so.po (hi.I Wx X (fun _ => true) K (fun x _ => so.fn x) _ _ h2) (ht.T Wx X (fun _ => true) K (fun x _ => so.fn x) _ h3) (hb.B Wx X K so _ h4) (fold_notSet h1)
      | _ => exact absurd h (by intro z; cases z)
    | _ => exact absurd h (by intro z; cases z)

theorem sd_raise {cn : Nat} : Sd W G C (.raise cn) := by
  refine ⟨fun _ _ _ _ _ e q => by (cases e <;> cases q), fun _ _ _ _ _ e q => by (cases e <;> cases q), fun _ _ _ _ _ _ e q => by (cases e <;> cases q), fun _ _ _ _ _ e q => by (cases e <;> cases q), fun _ _ _ _ _ e q => by (cases e <;> cases q), fun Wx X K so e h => ?_, fun _ _ _ _ e q => by (cases e <;> cases q)⟩
  · cases e with
    | Raise o o2 p =>
      match o, o2, h with
      | some (.Call (.Name x _) [.Constant (.str m) j p2] [] p3), none, h =>
        simp only [chkS, Bool.and_eq_true, decide_eq_true_eq] at h
        exact s_raise K (so.exc _ _ h.1.1) h.1.2 h.2
    | _ => exact absurd h (by intro z; cases z)

theorem sd_asgc {i : Nat} (ha : Sd W G C a) (hp : ∀ cl e0 t a1 c own, a = .comp cl e0 t a1 c own → Sd W G C e0 ∧ Sd W G C t ∧ Sd W G C a1 ∧ Sd W G C c) : Sd W G C (.asgc i a) := by
  refine ⟨fun _ _ _ _ _ e q => by (cases e <;> cases q), fun _ _ _ _ _ e q => by (cases e <;> cases q), fun _ _ _ _ _ _ e q => by (cases e <;> cases q), fun _ _ _ _ _ e q => by (cases e <;> cases q), fun _ _ _ _ _ e q => by (cases e <;> cases q), fun Wx X K so e h => ?_, fun _ _ _ _ e q => by (cases e <;> cases q)⟩
  · cases e with
    | Assign tgs ea p =>
      cases ea with
      | ListComp elt gens scope p2 =>
        match a, hp, tgs, gens, h with
        | .comp cl e0 t a1 c own, hp, [.Name y py], [⟨tge, iter, ifs, isA⟩], h =>
          obtain ⟨he, ht, hi, hc⟩ := hp _ _ _ _ _ _ rfl
          simp only [chkS, Bool.and_eq_true, decide_eq_true_eq, List.all_eq_true, List.contains_iff_mem, beq_iff_eq, Bool.not_eq_true'] at h
          obtain ⟨⟨⟨⟨⟨h1, k1⟩, k2⟩, k3⟩, k4⟩, ⟨⟨⟨⟨⟨h2, h3⟩, h4⟩, h5⟩, h6⟩, h7⟩, h8⟩ := h
          subst h1
          have nf : ∀ s H cenv fp, FnO (celS scope) (X.blk s H scope cenv fp) := fun _ _ _ _ _ z => z
          have g1 := fun s H Cc clo fp => ht.T W0 (X.blk s H scope (compEnvC scope clo Cc X.env) fp) (celS scope) K.blk (nf _ _ _ _) tge h5
          have g2 := fun s H Cc clo fp => chkC_ok (X := X.blk s H scope (compEnvC scope clo Cc X.env) fp) hc K.blk (nf _ _ _ _) h6
          have g3 := fun s H Cc clo fp => (he.E W0 (X.blk s H scope (compEnvC scope clo Cc X.env) fp) (celS scope) K.blk (nf _ _ _ _) elt h7).1
          have gi := hi.I Wx X (fun _ => true) K (fun x _ => so.fn x) tge iter h4
          have ok : BlkOk X.N X.env.scope scope (own.map fun i => (C.N.getD i Str.empty, i)) := blkOk_by (by rw [K.hN]; exact h2)
          exact s_asgc K gi ok g1 g2 g3 (fold_notSet h3) h8 k1 k2 (swaps_yes so.kind k2 k3 k4)
      | _ => exact (asgc_no h (by intro _ _ _ _ z; cases z)).elim
    | _ => exact (asgc_no2 h (by intro _ _ _ z; cases z)).elim

theorem sd_try1 {hs : List (Nat × Str)} : Sd W G C (.try1 a hs) := by
  refine ⟨fun _ _ _ _ _ e q => by (cases e <;> cases q), fun _ _ _ _ _ e q => by (cases e <;> cases q), fun _ _ _ _ _ _ e q => by (cases e <;> cases q), fun _ _ _ _ _ e q => by (cases e <;> cases q), fun _ _ _ _ _ e q => by (cases e <;> cases q), fun _ _ _ _ e q => by (cases e <;> cases q), fun _ _ _ _ e q => by (cases e <;> cases q)⟩

theorem sd_build {i j : Nat} : Sd W G C (.build i j a) := by
  refine ⟨fun _ _ _ _ _ e q => by (cases e <;> cases q), fun _ _ _ _ _ e q => by (cases e <;> cases q), fun _ _ _ _ _ _ e q => by (cases e <;> cases q), fun _ _ _ _ _ e q => by (cases e <;> cases q), fun _ _ _ _ _ e q => by (cases e <;> cases q), fun _ _ _ _ e q => by (cases e <;> cases q), fun _ _ _ _ e q => by (cases e <;> cases q)⟩

theorem sd_dset {es : Ev.T} (ha : Sd W G C a) (hs : Sd W G C es) (hc : Sd W G C c) : Sd W G C (.dset a es c) := by
  refine ⟨fun _ _ _ _ _ e q => by (cases e <;> cases q), fun _ _ _ _ _ e q => by (cases e <;> cases q), fun _ _ _ _ _ _ e q => by (cases e <;> cases q), fun _ _ _ _ _ e q => by (cases e <;> cases q), fun _ _ _ _ _ e q => by (cases e <;> cases q), fun Wx X K so e h => ?_, fun _ _ _ _ e q => by (cases e <;> cases q)⟩
  · cases e with
    | Assign tgs ec p =>
      match tgs, h with
      | [.Subscript ea (.Tuple xs k p2) p3], h =>
        simp only [chkS, Bool.and_eq_true] at h
        obtain ⟨⟨⟨h1, h2⟩, h3⟩, h4⟩ := h
        exact s_dset K (hc.E Wx X (fun _ => true) K (fun x _ => so.fn x) _ h2).1 (ha.E Wx X (fun _ => true) K (fun x _ => so.fn x) _ h3).1 (hs.A Wx X (fun _ => true) K (fun x _ => so.fn x) _ h4) (sw_notComp h1)
    | _ => exact absurd h (by intro z; cases z)

theorem sound_aux : ∀ (t : Ev.T) (C : Cn), Sd W G C t ∧ (∀ cl e0 t1 a1 c own, t = .comp cl e0 t1 a1 c own → Sd W G C e0 ∧ Sd W G C t1 ∧ Sd W G C a1 ∧ Sd W G C c) ∧ ∀ i j b, t = .build i j b → Sd W G C b := by
  intro t
  induction t with
  | comp cl e tg it c own i1 i2 i3 i4 => exact fun C => ⟨sd_comp (i1 C).1 (i2 C).1 (i3 C).1 (i4 C).1, fun _ _ _ _ _ _ h => (by cases h; exact ⟨(i1 C).1, (i2 C).1, (i3 C).1, (i4 C).1⟩), fun _ _ _ h => (by cases h)⟩
  | asgc i e i1 => exact fun C => ⟨sd_asgc (i1 C).1 (i1 C).2.1, fun _ _ _ _ _ _ h => (by cases h), fun _ _ _ h => (by cases h)⟩
  | var i => exact fun C => ⟨sd_var, fun _ _ _ _ _ _ h => (by cases h), fun _ _ _ h => (by cases h)⟩
  | int i => exact fun C => ⟨sd_int, fun _ _ _ _ _ _ h => (by cases h), fun _ _ _ h => (by cases h)⟩
  | str i => exact fun C => ⟨sd_str, fun _ _ _ _ _ _ h => (by cases h), fun _ _ _ h => (by cases h)⟩
  | bl i => exact fun C => ⟨sd_bl, fun _ _ _ _ _ _ h => (by cases h), fun _ _ _ h => (by cases h)⟩
  | non => exact fun C => ⟨sd_non, fun _ _ _ _ _ _ h => (by cases h), fun _ _ _ h => (by cases h)⟩
  | glob i => exact fun C => ⟨sd_glob, fun _ _ _ _ _ _ h => (by cases h), fun _ _ _ h => (by cases h)⟩
  | bin o a b i1 i2 => exact fun C => ⟨sd_bin (i1 C).1 (i2 C).1, fun _ _ _ _ _ _ h => (by cases h), fun _ _ _ h => (by cases h)⟩
  | neg a i1 => exact fun C => ⟨sd_neg (i1 C).1, fun _ _ _ _ _ _ h => (by cases h), fun _ _ _ h => (by cases h)⟩
  | not a i1 => exact fun C => ⟨sd_not (i1 C).1, fun _ _ _ _ _ _ h => (by cases h), fun _ _ _ h => (by cases h)⟩
  | cmp o a b i1 i2 => exact fun C => ⟨sd_cmp (i1 C).1 (i2 C).1, fun _ _ _ _ _ _ h => (by cases h), fun _ _ _ h => (by cases h)⟩
  | chain o p a b c i1 i2 i3 => exact fun C => ⟨sd_chain (i1 C).1 (i2 C).1 (i3 C).1, fun _ _ _ _ _ _ h => (by cases h), fun _ _ _ h => (by cases h)⟩
  | and a b i1 i2 => exact fun C => ⟨sd_and (i1 C).1 (i2 C).1, fun _ _ _ _ _ _ h => (by cases h), fun _ _ _ h => (by cases h)⟩
  | or a b i1 i2 => exact fun C => ⟨sd_or (i1 C).1 (i2 C).1, fun _ _ _ _ _ _ h => (by cases h), fun _ _ _ h => (by cases h)⟩
  | one a i1 => exact fun C => ⟨sd_one (i1 C).1, fun _ _ _ _ _ _ h => (by cases h), fun _ _ _ h => (by cases h)⟩
  | ife c a b i1 i2 i3 => exact fun C => ⟨sd_ife (i2 C).1 (i3 C).1 (i1 C).1, fun _ _ _ _ _ _ h => (by cases h), fun _ _ _ h => (by cases h)⟩
  | tup a i1 => exact fun C => ⟨sd_tup (i1 C).1, fun _ _ _ _ _ _ h => (by cases h), fun _ _ _ h => (by cases h)⟩
  | lst cl a i1 => exact fun C => ⟨sd_lst (i1 C).1, fun _ _ _ _ _ _ h => (by cases h), fun _ _ _ h => (by cases h)⟩
  | rep cl a b i1 i2 => exact fun C => ⟨sd_rep (i1 C).1 (i2 C).1, fun _ _ _ _ _ _ h => (by cases h), fun _ _ _ h => (by cases h)⟩
  | ix a b i1 i2 => exact fun C => ⟨sd_ix (i1 C).1 (i2 C).1, fun _ _ _ _ _ _ h => (by cases h), fun _ _ _ h => (by cases h)⟩
  | sl a b c i1 i2 i3 => exact fun C => ⟨sd_sl (i1 C).1 (i2 C).1 (i3 C).1, fun _ _ _ _ _ _ h => (by cases h), fun _ _ _ h => (by cases h)⟩
  | rev a i1 => exact fun C => ⟨sd_rev (i1 C).1, fun _ _ _ _ _ _ h => (by cases h), fun _ _ _ h => (by cases h)⟩
  | upper a i1 => exact fun C => ⟨sd_upper (i1 C).1, fun _ _ _ _ _ _ h => (by cases h), fun _ _ _ h => (by cases h)⟩
  | call f a i1 => exact fun C => ⟨sd_call (i1 C).1, fun _ _ _ _ _ _ h => (by cases h), fun _ _ _ h => (by cases h)⟩
  | prim p a i1 => exact fun C => ⟨sd_prim (i1 C).1, fun _ _ _ _ _ _ h => (by cases h), fun _ _ _ h => (by cases h)⟩
  | isi p a i1 => exact fun C => ⟨sd_isi (i1 C).1, fun _ _ _ _ _ _ h => (by cases h), fun _ _ _ h => (by cases h)⟩
  | rng1 a i1 => exact fun C => ⟨sd_rng1 (i1 C).1, fun _ _ _ _ _ _ h => (by cases h), fun _ _ _ h => (by cases h)⟩
  | rng2 a b i1 i2 => exact fun C => ⟨sd_rng2 (i1 C).1 (i2 C).1, fun _ _ _ _ _ _ h => (by cases h), fun _ _ _ h => (by cases h)⟩
  | rng3 a b i1 i2 => exact fun C => ⟨sd_rng3 (i1 C).1 (i2 C).1, fun _ _ _ _ _ _ h => (by cases h), fun _ _ _ h => (by cases h)⟩
  | zip a b i1 i2 => exact fun C => ⟨sd_zip (i1 C).1 (i2 C).1, fun _ _ _ _ _ _ h => (by cases h), fun _ _ _ h => (by cases h)⟩
  | enum a i1 => exact fun C => ⟨sd_enum (i1 C).1, fun _ _ _ _ _ _ h => (by cases h), fun _ _ _ h => (by cases h)⟩
  | nil => exact fun C => ⟨sd_nil, fun _ _ _ _ _ _ h => (by cases h), fun _ _ _ h => (by cases h)⟩
  | cons a b i1 i2 => exact fun C => ⟨sd_cons (i1 C).1 (i2 C).1 (i1 C).2.2, fun _ _ _ _ _ _ h => (by cases h), fun _ _ _ h => (by cases h)⟩
  | tv i => exact fun C => ⟨sd_tv, fun _ _ _ _ _ _ h => (by cases h), fun _ _ _ h => (by cases h)⟩
  | tt a i1 => exact fun C => ⟨sd_tt (i1 C).1, fun _ _ _ _ _ _ h => (by cases h), fun _ _ _ h => (by cases h)⟩
  | ts a b i1 i2 => exact fun C => ⟨sd_ts (i1 C).1 (i2 C).1, fun _ _ _ _ _ _ h => (by cases h), fun _ _ _ h => (by cases h)⟩
  | asg t a i1 i2 => exact fun C => ⟨sd_asg (i1 C).1 (i2 C).1, fun _ _ _ _ _ _ h => (by cases h), fun _ _ _ h => (by cases h)⟩
  | par is a i1 => exact fun C => ⟨sd_par (i1 C).1, fun _ _ _ _ _ _ h => (by cases h), fun _ _ _ h => (by cases h)⟩
  | expr a i1 => exact fun C => ⟨sd_expr (i1 C).1, fun _ _ _ _ _ _ h => (by cases h), fun _ _ _ h => (by cases h)⟩
  | ret a i1 => exact fun C => ⟨sd_ret (i1 C).1, fun _ _ _ _ _ _ h => (by cases h), fun _ _ _ h => (by cases h)⟩
  | ret0 => exact fun C => ⟨sd_ret0, fun _ _ _ _ _ _ h => (by cases h), fun _ _ _ h => (by cases h)⟩
  | ite c a b i1 i2 i3 => exact fun C => ⟨sd_ite (i1 C).1 (i2 C).1 (i3 C).1, fun _ _ _ _ _ _ h => (by cases h), fun _ _ _ h => (by cases h)⟩
  | loop c b i1 i2 => exact fun C => ⟨sd_loop (i1 C).1 (i2 C).1, fun _ _ _ _ _ _ h => (by cases h), fun _ _ _ h => (by cases h)⟩
  | for_ t a b i1 i2 i3 => exact fun C => ⟨sd_for_ (i1 C).1 (i2 C).1 (i3 C).1, fun _ _ _ _ _ _ h => (by cases h), fun _ _ _ h => (by cases h)⟩
  | raise c => exact fun C => ⟨sd_raise, fun _ _ _ _ _ _ h => (by cases h), fun _ _ _ h => (by cases h)⟩
  | pass => exact fun C => ⟨sd_pass, fun _ _ _ _ _ _ h => (by cases h), fun _ _ _ h => (by cases h)⟩
  | app i a i1 => exact fun C => ⟨sd_app (i1 C).1, fun _ _ _ _ _ _ h => (by cases h), fun _ _ _ h => (by cases h)⟩
  | callv i a i1 => exact fun C => ⟨sd_callv (i1 C).1, fun _ _ _ _ _ _ h => (by cases h), fun _ _ _ h => (by cases h)⟩
  | word w hs dv a i1 => exact fun C => ⟨sd_word (i1 C.out).1, fun _ _ _ _ _ _ h => (by cases h), fun _ _ _ h => (by cases h)⟩
  | lrng1 a i1 => exact fun C => ⟨sd_lrng1 (i1 C).1, fun _ _ _ _ _ _ h => (by cases h), fun _ _ _ h => (by cases h)⟩
  | dz a b i1 i2 => exact fun C => ⟨sd_dz (i1 C).1 (i2 C).1, fun _ _ _ _ _ _ h => (by cases h), fun _ _ _ h => (by cases h)⟩
  | lrng2 a b i1 i2 => exact fun C => ⟨sd_lrng2 (i1 C).1 (i2 C).1, fun _ _ _ _ _ _ h => (by cases h), fun _ _ _ h => (by cases h)⟩
  | dnew => exact fun C => ⟨sd_dnew, fun _ _ _ _ _ _ h => (by cases h), fun _ _ _ h => (by cases h)⟩
  | dix a b i1 i2 => exact fun C => ⟨sd_dix (i1 C).1 (i2 C).1, fun _ _ _ _ _ _ h => (by cases h), fun _ _ _ h => (by cases h)⟩
  | din neg b a i1 i2 => exact fun C => ⟨sd_din (i1 C).1 (i2 C).1, fun _ _ _ _ _ _ h => (by cases h), fun _ _ _ h => (by cases h)⟩
  | dset a b c i1 i2 i3 => exact fun C => ⟨sd_dset (i1 C).1 (i2 C).1 (i3 C).1, fun _ _ _ _ _ _ h => (by cases h), fun _ _ _ h => (by cases h)⟩
  | build i j a i1 => exact fun C => ⟨sd_build, fun _ _ _ _ _ _ h => (by cases h), fun _ _ _ h => (by cases h; exact (i1 C).1)⟩
  | try1 a hs i1 => exact fun C => ⟨sd_try1, fun _ _ _ _ _ _ h => (by cases h), fun _ _ _ h => (by cases h)⟩
theorem sound (t : Ev.T) : Sd W G C t := (sound_aux t C).1
end
end Ev
end
section
set_option Elab.async false
set_option linter.all false
set_option maxRecDepth 100000
set_option maxHeartbeats 1000000
namespace Ev
open PySem PySem.Spec PyProof.Rows L2
/-! ### the store cut back -/
section
variable {W : Wd} {mu mu' hid : List Addr} {H H' : Hp} {S S' : Store}
theorem Fin.trunc {x : R Ev.D} {Q : VK} {E : Nat → List Addr → Hp → Prop} (g : Good W mu hid S H) (h : Fin W mu hid H (trunc S.length x) (fun d S' mu' H' => ∀ v, Rep W mu' hid H' d v → Q v H') E) :
    Fin W mu hid H x (fun d S' mu' H' => ∀ v, Rep W mu' hid H' d v → Q v H') E := by
  cases x with
  | bad => exact h
  | exc c S1 => exact h
  | ok d S1 =>
    unfold Ev.trunc at h
    simp only at h
    split at h
    · exact h
    · rename_i hl
      split at h
      · rename_i hb
        simp only [Bool.and_eq_true] at hb
        intro H' mu' e g' v r
        have hm : mu'.take S.length = mu := by
          obtain ⟨t, rfl⟩ := e.pre
          rw [← g.len, List.take_left]
        have g2 := g'.cut (Nat.le_of_not_le hl) hb.2
        have r2 := Rep.cut d v hb.1 r
        rw [hm] at g2 r2
        exact h H' mu ⟨⟨[], by simp⟩, fun _ z => .inl z, e.keep, e.there⟩ g2 v r2
      · exact h
end
/-! ### a def, by its text -/
theorem repl_len {W : Wd} {mu hid : List Addr} {H : Hp} : ∀ {ds : List Ev.D} {vs : List V}, RepL W mu hid H ds vs → vs.length = ds.length
  | [], _, h => by cases h; rfl
  | d :: ds, _, ⟨v, vs, e, _, r⟩ => by subst e; simp [repl_len r]
theorem start_env {W : Wd} {mu hid : List Addr} {H : Hp} {N : List Str} {m : Nat} {ds : List Ev.D} {vs : List V} (r : RepL W mu hid H ds vs) (hm : m = N.length) :
    EnvR W mu hid H (ds.map some ++ List.replicate (m - ds.length) none) (L2.start N vs) := by
  have hl := repl_len r
  unfold L2.start
  refine ⟨by simp [hl, hm], fun i d h => ?_⟩
  by_cases hi : i < ds.length
  · rw [List.getElem?_append_left (by simpa using hi), List.getElem?_map] at h
    have key : ∀ {ds : List Ev.D} {vs : List V} {i : Nat}, RepL W mu hid H ds vs → (ds[i]?).map some = some (some d) → ∃ v, vs[i]? = some v ∧ Rep W mu hid H d v := by
      intro ds
      induction ds with
      | nil => intro vs i _ h; simp at h
      | cons d0 ds ih =>
        intro vs i ⟨v, vs', e, r1, r2⟩ h
        subst e
        cases i with
        | zero => simp at h; subst h; exact ⟨v, rfl, r1⟩
        | succ i => exact ih (i := i) r2 h
    obtain ⟨v, e, rv⟩ := key r h
    refine ⟨v, ?_, rv⟩
    have hi2 : i < vs.length := by rw [hl]; exact hi
    rw [List.getElem?_append_left (by simpa using hi2), List.getElem?_map, e]; rfl
  · rw [List.getElem?_append_right (by simpa using Nat.le_of_not_lt hi), List.getElem?_replicate] at h
    split at h <;> cases h
/-- what stands around the defs -/
structure Wrl (P : Program) (w : World) (W : Wd) (mg : Str → Option Value) (base : Heap) (glob : Nat → Option Ev.D) (C : Cn) (lv nf : Nat) (call : Nat → List Ev.D → Store → R Ev.D) : Prop where
  fns : ∀ f x, C.fname f = some x → ∃ fd ps, FnOk P w W.K mg base (L2.CX P w) lv (W.fa f) fd ps (spF W (call f)) ∧ mg x = some (.ref (W.fa f)) ∧ PySem.W.keepIn W.K (.ref (W.fa f)) = true ∧ L2.Binds W.K fd ps []
  globs : ∀ g x d, C.gname g = some x → glob g = some d → ∃ v u, mg x = some u ∧ RelV v u ∧ ∀ mu hid H, Rep W mu hid H d v
  blt : ∀ x, x ∈ bltNames → mg x = none
  exc : ∀ c x, C.cname c = some x → ∃ A : Addr, W.cls c = .ref A ∧ mg x = some (.ref A) ∧ PySem.W.excIn W.K A [.type "ValueError", .type "Exception", .type "BaseException", .type "object"] "ValueError.__new__" = true ∧ PySem.W.keepIn W.K (.ref A) = true ∧ PySem.W.subIn W.K (.ref A) (.type "BaseException") = some true ∧ PySem.W.typeIn W.K (.ref A) = some (.type "type")
  fnr : ∀ f, f < nf → ∃ x, C.fname f = some x
  exm : ∀ c c' x x', C.cname c = some x → C.cname c' = some x' → PySem.W.exmOne W.K (W.cls c) (W.cls c') = some (decide (c' = c))
  wds : ∀ w x, C.wname w = some x → WordAt W.K mg C.cname (C.whs w) x
/-- a def's code object and its table -/
def LamAt (W : Wd) (mg : Str → Option Value) (base : Heap) (f : Addr) (qual : Str) : Prop :=
  ∃ c Pt, LamX.TabB base mg c Pt ∧ (∀ oc od fd osl, W.K.lookup f = some ⟨oc, od, .func fd, osl⟩ → fd.code = .ref c) ∧ (Pt, (qual ++ ".<locals>.") ++ "<lambda>") ∈ W.tabs ∧ ∀ p ∈ W.tabs, p.1 = Pt → p.2 = (qual ++ ".<locals>.") ++ "<lambda>"
/-- does this text say this def -/
def chkFn (C : Cn) (ps : List Str) (scope : Scope) (body : List Stmt) (F : Fn) : Bool :=
  C8.scC C.N ps scope && decide (F.n = ps.length) && decide (F.m = C.N.length) && chkSs C scope F.body body
theorem fn_ok {P : Program} {w : World} {W : Wd} {mg : Str → Option Value} {base : Heap} {C : Cn} {G : Glb} {F : Fn} {x qual : Str} {params : Arguments} {body : List Stmt} {scope : Scope} {dvs : List V} {kws : List (Str × V)} {f : Addr} {fd : FuncData} {ps : List Str}
    (D : FunD W.K x qual params body scope dvs kws f fd) (O : Wrl P w W mg base G.glob C G.lv G.nf G.call) (hl : C.lam = true → LamAt W mg base f qual) (h : chkFn C ps scope body F = true) : FnOk P w W.K mg base (L2.CX P w) (G.lv + C.sl + 1) f fd ps (spF W (F.run G)) := by
  unfold chkFn at h
  simp only [Bool.and_eq_true, decide_eq_true_eq] at h
  obtain ⟨⟨⟨h1, h2⟩, h3⟩, h4⟩ := h
  have S := C8.fnScope_by h1
  obtain ⟨oc, od, dV, kV, doc, pm, an, cdv, ct, osl, rfl, lk, hcd, _, _⟩ := D.ex
  refine fn_of lk hcd S (fun vs H Q E ⟨ds, S, mu, hid, r, g, hf⟩ => ?_) fun A outer s H vs Q E hr ⟨ds, S0, mu, hid, r, g, hf⟩ => ?_
  · unfold Fn.run at hf
    split at hf
    · rename_i hl
      rw [repl_len r, hl, h2]
    · exact hf.elim
  · refine ⟨tS W G (fun cls d _ H => E cls d H) F.body, (sound F.body).B (fun cls d _ H => E cls d H) (cxOf (L2.CX P w) P w W.K mg base C.N qual scope f cdv A outer s H E) ?_ ?_ body h4, ?_⟩
    · refine ⟨rfl, rfl, S.nd, rfl, hr, takes_of rfl rfl rfl rfl, O.fns, O.globs, O.blt, O.fnr, fun c x' hx => ?_, O.exm, O.wds, fun hC => ?_⟩
      · obtain ⟨A', e1, e2, _⟩ := O.exc c x' hx
        rw [e1]; exact e2
      · obtain ⟨c, Pt, k1, k2, k3, k4⟩ := hl hC
        have hc2 := k2 _ _ _ _ lk
        have hc3 : cdv = .ref c := hc2
        subst hc3
        have eq : (cxOf (L2.CX P w) P w W.K mg base C.N qual scope f (.ref c) A outer s H E).env.qual = qual ++ ".<locals>." := rfl
        refine ⟨c, Pt, k1, rfl, ?_, ?_⟩
        · rw [eq]; exact k3
        · rw [eq]; exact k4
    · refine ⟨passes_of rfl, S.kind, fun _ => rfl, fun c x' hx => ⟨?_⟩⟩
      obtain ⟨A', e1, e2, e3, e4, e5, e6⟩ := O.exc c x' hx
      exact ⟨A', e1, e2, e3, e4, raises_own e5 e6⟩
    · unfold Fn.run at hf
      split at hf
      · rename_i hl
        have f1 := (hf.trunc g).bind
        refine ⟨_, S0, mu, hid, start_env r h3, g, ?_⟩
        rw [hl]
        refine f1.mono (fun fl S1 mu1 H1 _ _ ⟨e1, g1, f2⟩ => ?_) fun c mu' H' he dx σ' => he dx
        cases fl with
        | nx ρ' => intro σ' _ _; exact f2.here g1 _ rfl
        | rt d => intro v rv; exact f2.here g1 v rv
      · exact hf.elim
/-! ### a program -/
structure Prg where
  fns : List Fn
  glob : Nat → Option Ev.D
  fuel : Nat
def Prg.run (p : Prg) : Nat → Nat → List Ev.D → Store → R Ev.D
  | 0, _ => fun _ _ => .bad
  | k + 1, i => match p.fns[i]? with
    | some F => F.run ⟨p.run k, p.glob, p.fuel, p.fns.length, 4 * k⟩
    | none => fun _ _ => .bad
theorem bad_ok {P : Program} {w : World} {W : Wd} {mg : Str → Option Value} {base : Heap} {k : Nat} {f : Addr} {fd : FuncData} {ps : List Str} : FnOk P w W.K mg base (L2.CX P w) k f fd ps (spF W fun _ _ => .bad) :=
  ⟨fun vs H Q E ⟨_, _, _, _, _, _, hf⟩ => hf.elim, fun A outer s H args us vs Q E _ _ _ _ ⟨_, _, _, _, _, _, hf⟩ => hf.elim⟩
/-- what the text is -/
structure Txt where
  x : Str
  ps : List Str
  N : List Str
  params : Arguments
  body : List Stmt
  scope : Scope
  lam : Bool
/-- names of the defs, the constants, the classes, the word defs -/
structure Nms where
  f : Nat → Option Str
  g : Nat → Option Str
  c : Nat → Option Str
  w : Nat → Option Str
  wh : Nat → List (Nat × Str) × Str
def Nms.cn (m : Nms) (N : List Str) (l : Bool) : Cn := { N := N, fname := m.f, gname := m.g, cname := m.c, wname := m.w, whs := m.wh, lam := l }
def chkP (m : Nms) : List Txt → List Fn → Bool
  | [], [] => true
  | t :: ts, F :: Fs => chkFn (m.cn t.N t.lam) t.ps t.scope t.body F && chkP m ts Fs
  | _, _ => false
theorem chkP_at {m : Nms} : ∀ {ts : List Txt} {Fs : List Fn} {i : Nat} {t : Txt}, chkP m ts Fs = true → ts[i]? = some t → ∃ F, Fs[i]? = some F ∧ chkFn (m.cn t.N t.lam) t.ps t.scope t.body F = true
  | [], _, _, _, _, h => by simp at h
  | t :: ts, [], _, _, h, _ => by cases h
  | t :: ts, F :: Fs, 0, u, h, e => by
    simp only [chkP, Bool.and_eq_true] at h
    cases e
    exact ⟨F, rfl, h.1⟩
  | t :: ts, F :: Fs, i + 1, u, h, e => by
    simp only [chkP, Bool.and_eq_true] at h
    obtain ⟨F', e1, e2⟩ := chkP_at (i := i) h.2 (by simpa using e)
    exact ⟨F', by simpa using e1, e2⟩
theorem chkP_len {m : Nms} : ∀ {ts : List Txt} {Fs : List Fn}, chkP m ts Fs = true → Fs.length = ts.length
  | [], [], _ => rfl
  | [], _ :: _, h => by cases h
  | _ :: _, [], h => by cases h
  | t :: ts, F :: Fs, h => by
    simp only [chkP, Bool.and_eq_true] at h
    rw [List.length_cons, List.length_cons, chkP_len h.2]
/-- every def keeps what the evaluator says, at each depth -/
theorem prg_ok {P : Program} {w : World} {W : Wd} {mg : Str → Option Value} {base : Heap} {p : Prg} {m : Nms} {ts : List Txt} {fds : Nat → FuncData} (hc : chkP m ts p.fns = true)
    (hd : ∀ (i : Nat) (t : Txt), ts[i]? = some t → FunD W.K t.x t.x t.params t.body t.scope [] [] (W.fa i) (fds i) ∧ mg t.x = some (.ref (W.fa i)) ∧ L2.Binds W.K (fds i) t.ps [])
    (hn : ∀ (i : Nat), m.f i = ts[i]?.map (·.x))
    (hg : ∀ g x d, m.g g = some x → p.glob g = some d → ∃ v u, mg x = some u ∧ RelV v u ∧ ∀ mu hid H, Rep W mu hid H d v)
    (hb : ∀ x, x ∈ bltNames → mg x = none)
    (hx : ∀ c x, m.c c = some x → ∃ A : Addr, W.cls c = .ref A ∧ mg x = some (.ref A) ∧ PySem.W.excIn W.K A [.type "ValueError", .type "Exception", .type "BaseException", .type "object"] "ValueError.__new__" = true ∧ PySem.W.keepIn W.K (.ref A) = true ∧ PySem.W.subIn W.K (.ref A) (.type "BaseException") = some true ∧ PySem.W.typeIn W.K (.ref A) = some (.type "type"))
    (he : ∀ c c' x x', m.c c = some x → m.c c' = some x' → PySem.W.exmOne W.K (W.cls c) (W.cls c') = some (decide (c' = c)))
    (hw : ∀ w x, m.w w = some x → WordAt W.K mg m.c (m.wh w) x)
    (hl : ∀ (i : Nat) (t : Txt), ts[i]? = some t → t.lam = true → LamAt W mg base (W.fa i) t.x) :
    ∀ (k i : Nat) (t : Txt), ts[i]? = some t → FnOk P w W.K mg base (L2.CX P w) (4 * k) (W.fa i) (fds i) t.ps (spF W (p.run k i))
  | 0, i, t, ht => bad_ok
  | k + 1, i, t, ht => by
    obtain ⟨D, e, b⟩ := hd i t ht
    obtain ⟨F, e1, e2⟩ := chkP_at hc ht
    have hrun : p.run (k + 1) i = F.run ⟨p.run k, p.glob, p.fuel, p.fns.length, 4 * k⟩ := by simp only [Prg.run, e1]
    rw [hrun]
    have key := fn_ok (P := P) (w := w) (mg := mg) (base := base) (G := ⟨p.run k, p.glob, p.fuel, p.fns.length, 4 * k⟩) D ⟨fun f' x' hf => ?_, hg, hb, hx, fun f hf => ?_, he, hw⟩ (hl i t ht) e2
    · refine key.mono ?_
      show 4 * k + Ck.sl _ + 1 ≤ 4 * (k + 1)
      unfold Ck.sl
      split <;> omega
    · have hf : m.f f' = some x' := hf
      rw [hn] at hf
      obtain ⟨t', ht', rfl⟩ := Option.map_eq_some_iff.mp hf
      obtain ⟨D', e', b'⟩ := hd f' t' ht'
      exact ⟨fds f', t'.ps, prg_ok hc hd hn hg hb hx he hw hl k f' t' ht', e', D'.kp, b'⟩
    · have hf : f < p.fns.length := hf
      rw [chkP_len hc] at hf
      exact ⟨ts[f].x, by show m.f f = _; rw [hn, List.getElem?_eq_getElem hf]; rfl⟩
end Ev
end
section
set_option Elab.async false
set_option linter.all false
set_option maxRecDepth 100000
set_option maxHeartbeats 1000000
namespace Ev
open PySem PySem.Spec PyProof.Rows L2
/-! ### behind the top -/
abbrev nameAt (l : List Str) (i : Nat) : Str := l.getD i Str.empty
def Txt.dd (t : Txt) : He.DefD := ⟨(t.x, none), t.x, t.x, t.params, t.body, t.scope, [], []⟩
abbrev BindsAll (t : Txt) : Prop := ∀ (kV doc pm : Value) (an : Option Addr) (cdv ct : Value) (us : List Value), us.length = t.ps.length → bindArgs (PySem.W.fnOf t.x t.x t.params t.body t.scope .none kV doc pm an cdv ct) ⟨us, []⟩ = pure (t.ps.zip us)
/-- a word def: its text, its clauses, what it tells else -/
structure Wt where
  t : Txt
  hs : List (Nat × Str)
  dv : Str
def chkW (cn : Nat → Option Str) (u : Wt) : Bool := match u.t.ps with
  | [a] => C8.scC u.t.N u.t.ps u.t.scope && decide (u.t.N[0]? = some a) && visB u.t.scope a && okName a && wordB cn u.t.scope a u.hs u.dv u.t.body
  | _ => false
def exms (xs : List Str) : List He.Fa := (List.range xs.length).flatMap fun i => (List.range xs.length).map fun j => He.Fa.exm (nameAt xs i) (nameAt xs j) (decide (j = i))
def faOf (fn xs fr : List Str) : List He.Fa := fn.map He.Fa.glo ++ (xs.map He.Fa.glo ++ (xs.map He.Fa.exc ++ (fr.map He.Fa.free ++ exms xs)))
def lamOf (ts : List Txt) : List He.Defn := (ts.filter (·.lam)).map fun t => (t.x, none)
def exB (ts : List Txt) (K : PySem.W.Frag) : Bool := decide (((lamOf ts).map fun p => (He.cT K p).2).Nodup)
def tabsOf (K : PySem.W.Frag) (ts : List Txt) : List (Addr × Str) := (lamOf ts).map fun p => ((He.cT K p).2, (p.1 ++ ".<locals>.") ++ "<lambda>")
theorem faIn {K : PySem.W.Frag} {fa : List He.Fa} {fn : List He.DefD} (c : He.SaysD fa fn K) {f : He.Fa} (h : f ∈ fa) : f.ok K = true := He.SaysD.facts c h
theorem nodup_inj {α β : Type} {f : α → β} : ∀ {l : List α}, (l.map f).Nodup → ∀ {a b : α}, a ∈ l → b ∈ l → f a = f b → a = b
  | [], _, _, _, h, _, _ => absurd h List.not_mem_nil
  | x :: l, hn, a, b, ha, hb, e => by
    rw [List.map_cons, List.nodup_cons] at hn
    rcases List.mem_cons.1 ha with e1 | h1
    · rcases List.mem_cons.1 hb with e2 | h2
      · rw [e1, e2]
      · exact absurd (by rw [← e1, e]; exact List.mem_map_of_mem h2) hn.1
    · rcases List.mem_cons.1 hb with e2 | h2
      · exact absurd (by rw [← e2, ← e]; exact List.mem_map_of_mem h1) hn.1
      · exact nodup_inj hn.2 h1 h2 e
/-- the names -/
def nms (ts : List Txt) (gs xs : List Str) (ws : List Wt) : Nms :=
  ⟨fun i => ts[i]?.map (·.x), fun g => gs[g]?, fun c => xs[c]?, fun w => ws[w]?.map (·.t.x), fun w => match ws[w]? with | some u => (u.hs, u.dv) | none => ([], Str.empty)⟩
/-- the world behind the top -/
def wdOf (K : PySem.W.Frag) (ts : List Txt) (xs : List Str) : Wd := ⟨K, fun i => He.ga K (nameAt (ts.map (·.x)) i), fun c => .ref (He.ga K (nameAt xs c)), tabsOf K ts⟩
abbrev allT (ts : List Txt) (ws : List Wt) : List Txt := ts ++ ws.map (·.t)
theorem nameAt_of {ts : List Txt} {i : Nat} {t : Txt} (h : ts[i]? = some t) : nameAt (ts.map (·.x)) i = t.x := by
  unfold nameAt
  rw [List.getD_eq_getElem?_getD, List.getElem?_map, h]; rfl
section
variable {P : Program} {w : World} {K : PySem.W.Frag} {h : Heap} {mg : Str → Option Value} {p : Prg} {ts : List Txt} {ws : List Wt} {xs gs : List Str}
theorem fun_at (c : He.SaysD (faOf ((allT ts ws).map (·.x)) xs bltNames) ((allT ts ws).map Txt.dd) K) {t : Txt} (ht : t ∈ allT ts ws) : ∃ fd, FunD K t.x t.x t.params t.body t.scope [] [] (He.ga K t.x) fd := He.SaysD.defs c (List.mem_map_of_mem ht)
theorem glo_at (X : K.In h) (Gn : h.Ns mainGlobals mg) (c : He.SaysD (faOf ((allT ts ws).map (·.x)) xs bltNames) ((allT ts ws).map Txt.dd) K) {t : Txt} (ht : t ∈ allT ts ws) : mg t.x = some (.ref (He.ga K t.x)) :=
  He.glo_ok X Gn (faIn c (f := .glo t.x) (by unfold faOf; exact List.mem_append_left _ (List.mem_map_of_mem (List.mem_map_of_mem ht))))
theorem word_at (X : K.In h) (Gn : h.Ns mainGlobals mg) (c : He.SaysD (faOf ((allT ts ws).map (·.x)) xs bltNames) ((allT ts ws).map Txt.dd) K) (hcw : ws.all (chkW fun c => xs[c]?) = true) (hbw : ∀ u ∈ ws, BindsAll u.t) :
    ∀ w x, (nms ts gs xs ws).w w = some x → WordAt K mg (fun c => xs[c]?) ((nms ts gs xs ws).wh w) x := by
  intro w x hx
  have hx : ws[w]?.map (·.t.x) = some x := hx
  obtain ⟨u, hu, rfl⟩ := Option.map_eq_some_iff.mp hx
  have hm := List.mem_of_getElem? hu
  have hm2 : u.t ∈ allT ts ws := List.mem_append_right _ (List.mem_map_of_mem hm)
  have hc := List.all_eq_true.1 hcw u hm
  unfold chkW at hc
  split at hc
  · rename_i a hps
    simp only [Bool.and_eq_true, decide_eq_true_eq] at hc
    obtain ⟨⟨⟨⟨h1, h2⟩, h3⟩, h4⟩, h5⟩ := hc
    obtain ⟨fd, D⟩ := fun_at c hm2
    obtain ⟨oc, od, dV, kV, doc, pm, an, cdv, ct, osl, rfl, lk, hcd, hD, _⟩ := D.ex
    have S := C8.fnScope_by h1
    have B := D.bindsN fun kV doc pm an cdv ct us hl => hbw u hm kV doc pm an cdv ct us hl
    rw [hps] at S B
    have hwh : (nms ts gs xs ws).wh w = (u.hs, u.dv) := by simp only [nms, hu]
    rw [hwh]
    exact ⟨_, u.t.params, u.t.body, u.t.scope, dV, kV, doc, pm, cdv, ct, oc, an, od, osl, u.t.N, a, glo_at X Gn c hm2, D.kp, lk, hcd, B, S, h2, vis_of h3, h4, h5⟩
  · cases hc
theorem lam_at {base : Heap} (c : He.SaysD (faOf ((allT ts ws).map (·.x)) xs bltNames) ((allT ts ws).map Txt.dd) K) (hex : exB ts K = true) (TB : ∀ q ∈ (lamOf ts).map (He.cT K), LamX.TabB base mg q.1 q.2) (i : Nat) (t : Txt) (ht : ts[i]? = some t) (hl : t.lam = true) :
    LamAt (wdOf K ts xs) mg base ((wdOf K ts xs).fa i) t.x := by
  have hm := List.mem_of_getElem? ht
  have hin : (t.x, none) ∈ lamOf ts := List.mem_map.2 ⟨t, List.mem_filter.2 ⟨hm, hl⟩, rfl⟩
  obtain ⟨fd0, D⟩ := fun_at c (ws := ws) (List.mem_append_left _ hm)
  obtain ⟨oc, od, dV, kV, doc, pm, an, cdv, ct, osl, rfl, lk, hcd, hD, _⟩ := D.ex
  obtain ⟨c0, rfl⟩ := He.codeIn_ref hcd
  have ec : He.codeOf K (t.x, none) = c0 := He.codeOf_eq (p := (t.x, none)) lk rfl
  refine ⟨(He.cT K (t.x, none)).1, (He.cT K (t.x, none)).2, TB _ (List.mem_map_of_mem hin), fun oc' od' fd' osl' h' => ?_, List.mem_map.2 ⟨_, hin, rfl⟩, fun q hq e => ?_⟩
  · have h' : K.lookup (He.ga K (nameAt (ts.map (·.x)) i)) = some ⟨oc', od', .func fd', osl'⟩ := h'
    rw [nameAt_of ht, lk] at h'
    cases h'
    show Value.ref c0 = .ref (He.codeOf K (t.x, none))
    rw [ec]
  · obtain ⟨q', hq', rfl⟩ := List.mem_map.1 hq
    have := nodup_inj (of_decide_eq_true hex) hq' hin e
    rw [this]
theorem prg_facts (X : K.In h) (Gn : h.Ns mainGlobals mg) (c : He.SaysD (faOf ((allT ts ws).map (·.x)) xs bltNames) ((allT ts ws).map Txt.dd) K) (hc : chkP (nms ts gs xs ws) ts p.fns = true) (hb : ∀ t ∈ ts, BindsAll t)
    (hcw : ws.all (chkW fun c => xs[c]?) = true) (hbw : ∀ u ∈ ws, BindsAll u.t) (hex : exB ts K = true)
    (hg : ∀ g x d, gs[g]? = some x → p.glob g = some d → ∃ v u, mg x = some u ∧ RelV v u ∧ ∀ mu hid H, Rep (wdOf K ts xs) mu hid H d v) (k i : Nat) (t : Txt) (ht : ts[i]? = some t) :
    ∃ fd : FuncData, mg t.x = some (.ref (He.ga K t.x)) ∧ (∀ (s : Shared) (us : List Value), us.length = t.ps.length → BindsTo s fd ⟨us, []⟩ (t.ps.zip us)) ∧
      ∀ base : Heap, (∀ q ∈ (lamOf ts).map (He.cT K), LamX.TabB base mg q.1 q.2) → FnOk P w K mg base (L2.CX P w) (4 * k) (He.ga K t.x) fd t.ps (spF (wdOf K ts xs) (p.run k i)) := by
  have hD : ∀ i : Nat, ∃ fd, ∀ t, ts[i]? = some t → FunD K t.x t.x t.params t.body t.scope [] [] (He.ga K t.x) fd := fun i => by
    cases e : ts[i]? with
    | none => exact ⟨default, fun t h => by cases h⟩
    | some t =>
      obtain ⟨fd, D⟩ := fun_at c (ws := ws) (List.mem_append_left _ (List.mem_of_getElem? e))
      exact ⟨fd, fun t' h => by cases h; exact D⟩
  obtain ⟨fds, hfd⟩ := Classical.axiomOfChoice hD
  have hmg : ∀ (i : Nat) (t : Txt), ts[i]? = some t → mg t.x = some (.ref (He.ga K t.x)) := fun i t h => glo_at X Gn c (List.mem_append_left _ (List.mem_of_getElem? h))
  have hD2 : ∀ (i : Nat) (t : Txt), ts[i]? = some t → FunD K t.x t.x t.params t.body t.scope [] [] (He.ga K t.x) (fds i) ∧ mg t.x = some (.ref (He.ga K t.x)) ∧ L2.Binds K (fds i) t.ps [] := fun i t h =>
    ⟨hfd i t h, hmg i t h, (hfd i t h).bindsN fun kV doc pm an cdv ct us hl => hb t (List.mem_of_getElem? h) kV doc pm an cdv ct us hl⟩
  refine ⟨fds i, hmg i t ht, fun s us hl => FunD.bindsA (hfd i t ht) (fun kV doc pm an cdv ct us hl => hb t (List.mem_of_getElem? ht) kV doc pm an cdv ct us hl) s us hl, fun base TB => ?_⟩
  have xat : ∀ (cn : Nat) (x : Str), xs[cn]? = some x → nameAt xs cn = x := fun cn x h => by unfold nameAt; rw [List.getD_eq_getElem?_getD, h]; rfl
  have key := prg_ok (P := P) (w := w) (W := wdOf K ts xs) (mg := mg) (base := base) (p := p) (ts := ts) (fds := fds) (m := nms ts gs xs ws) hc (fun i t h => by
      have := hD2 i t h
      show FunD K t.x t.x t.params t.body t.scope [] [] (He.ga K (nameAt (ts.map (·.x)) i)) (fds i) ∧ mg t.x = some (.ref (He.ga K (nameAt (ts.map (·.x)) i))) ∧ L2.Binds K (fds i) t.ps []
      rw [nameAt_of h]
      exact this)
    (fun i => rfl) hg
    (fun x hx => He.free_ok X Gn (faIn c (f := .free x) (by unfold faOf; exact List.mem_append_right _ (List.mem_append_right _ (List.mem_append_right _ (List.mem_append_left _ (List.mem_map_of_mem hx)))))))
    (fun cn x h => by
      have h : xs[cn]? = some x := h
      have hm := List.mem_of_getElem? h
      have g1 := He.glo_ok X Gn (faIn c (f := .glo x) (by unfold faOf; exact List.mem_append_right _ (List.mem_append_left _ (List.mem_map_of_mem hm))))
      obtain ⟨q1, q2, q3, q4⟩ := He.exc_ok (faIn c (f := .exc x) (by unfold faOf; exact List.mem_append_right _ (List.mem_append_right _ (List.mem_append_left _ (List.mem_map_of_mem hm)))))
      exact ⟨He.ga K x, by show Value.ref (He.ga K (nameAt xs cn)) = _; rw [xat cn x h], g1, q1, q2, q3, q4⟩)
    (fun c1 c2 x1 x2 h1 h2 => by
      have h1 : xs[c1]? = some x1 := h1
      have h2 : xs[c2]? = some x2 := h2
      have l1 := (List.getElem?_eq_some_iff.mp h1).1
      have l2 := (List.getElem?_eq_some_iff.mp h2).1
      exact He.exm_ok (faIn c (f := .exm (nameAt xs c1) (nameAt xs c2) (decide (c2 = c1))) (by
        unfold faOf exms
        refine List.mem_append_right _ (List.mem_append_right _ (List.mem_append_right _ (List.mem_append_right _ ?_)))
        exact List.mem_flatMap.2 ⟨c1, List.mem_range.2 l1, List.mem_map.2 ⟨c2, List.mem_range.2 l2, rfl⟩⟩)))
    (word_at X Gn c hcw hbw) (lam_at c hex TB) k i t ht
  have e : (wdOf K ts xs).fa i = He.ga K t.x := by show He.ga K (nameAt (ts.map (·.x)) i) = _; rw [nameAt_of ht]
  rw [e] at key
  exact key
end
/-- the constants are defs -/
def chkGl (ts : List Txt) : List Str → List Nat → Bool
  | [], [] => true
  | g :: gs, i :: gl => decide (ts[i]?.map (·.x) = some g) && chkGl ts gs gl
  | _, _ => false
theorem chkGl_at {ts : List Txt} : ∀ {gs : List Str} {gl : List Nat} {g : Nat} {x : Str} {i : Nat}, chkGl ts gs gl = true → gs[g]? = some x → gl[g]? = some i → ts[i]?.map (·.x) = some x
  | [], _, _, _, _, _, h, _ => by simp at h
  | _ :: _, [], _, _, _, h, _, _ => by cases h
  | y :: gs, j :: gl, 0, x, i, h, h1, h2 => by
    simp only [chkGl, Bool.and_eq_true, decide_eq_true_eq] at h
    simp at h1 h2
    rw [← h1, ← h2]; exact h.1
  | y :: gs, j :: gl, g + 1, x, i, h, h1, h2 => by
    simp only [chkGl, Bool.and_eq_true, decide_eq_true_eq] at h
    exact chkGl_at (g := g) h.2 (by simpa using h1) (by simpa using h2)
theorem glob_fns {K : PySem.W.Frag} {h : Heap} {mg : Str → Option Value} {p : Prg} {ts : List Txt} {ws : List Wt} {xs gs : List Str} {gl : List Nat} (X : K.In h) (Gn : h.Ns mainGlobals mg)
    (c : He.SaysD (faOf ((allT ts ws).map (·.x)) xs bltNames) ((allT ts ws).map Txt.dd) K) (he : p.glob = fun g => (gl[g]?).map Ev.D.fn) (hc : chkGl ts gs gl = true) :
    ∀ g x d, gs[g]? = some x → p.glob g = some d → ∃ v u, mg x = some u ∧ RelV v u ∧ ∀ mu hid H, Rep (wdOf K ts xs) mu hid H d v := by
  intro g x d h1 h2
  rw [he] at h2
  obtain ⟨i, hi, rfl⟩ := Option.map_eq_some_iff.mp h2
  obtain ⟨t, ht, rfl⟩ := Option.map_eq_some_iff.mp (chkGl_at hc h1 hi)
  refine ⟨.ref (He.ga K t.x), .ref (He.ga K t.x), glo_at X Gn c (List.mem_append_left _ (List.mem_of_getElem? ht)), rfl, fun mu hid H => ?_⟩
  show V.ref (He.ga K t.x) = .ref (He.ga K (nameAt (ts.map (·.x)) i))
  rw [nameAt_of ht]
/-- nothing leaves -/
theorem fn_no {P : Program} {w : World} {K : PySem.W.Frag} {mg : Str → Option Value} {base : Heap} {k : Nat} {f : Addr} {fd : FuncData} {ps : List Str} {sp : Sp} (F : FnOk P w K mg base (L2.CX P w) k f fd ps sp) :
    FnOk P w K mg base L2.CX0 k f fd ps (fun vs H Q _ => sp vs H Q fun _ _ _ => False) := by
  refine ⟨fun vs H Q E h => F.len _ _ _ _ h, fun A outer s H args us vs Q E hr e0 hb r h => ?_⟩
  refine codeAny_mono (F.run A outer s H args us vs Q _ hr e0 hb r h) fun r s' hq => ?_
  cases r with
  | ok fl => cases fl <;> exact hq
  | error e => obtain ⟨_, _, _, _, _, _, _, _, _, _, _, _, z⟩ := (show L2.CX P w outer H s _ e s' from hq); exact z.elim
/-- the law is kept, if the evaluator says so of every script -/
theorem law_of {l : PySem.W.OpenLaw} {q : Program} {loose : List Str} {XP : (Str → Option Value) → Heap → Prop} {d : DefRec} {p : Prg} {ts : List Txt} {ws : List Wt} {xs gs : List Str} {k i n : Nat} {t : Txt}
    (hn : l.most = some n) (hn2 : n ≤ sizeLine) (hdf : d.params.defaults = []) (hr : Room (4 * k) callerA) (hx : d.name = t.x) (hps : t.ps = [("script" : Str)])
    (hc : chkP (nms ts gs xs ws) ts p.fns = true) (hb : ∀ t ∈ ts, BindsAll t) (ht : ts[i]? = some t) (hcw : ws.all (chkW fun c => xs[c]?) = true) (hbw : ∀ u ∈ ws, BindsAll u.t)
    (hg : ∀ (K : PySem.W.Frag) (h : Heap) (mg : Str → Option Value), K.In h → h.Ns mainGlobals mg → He.SaysD (faOf ((allT ts ws).map (·.x)) xs bltNames) ((allT ts ws).map Txt.dd) K →
      ∀ g x d, gs[g]? = some x → p.glob g = some d → ∃ v u, mg x = some u ∧ RelV v u ∧ ∀ mu hid H, Rep (wdOf K ts xs) mu hid H d v)
    (hrun : ∀ ns : List Int, ns.length ≤ n → ∃ S, p.run k i [.scr ns] [] = .ok (.bl true) S) :
    PySem.W.WalkO q loose XP (He.hookX 4 (faOf ((allT ts ws).map (·.x)) xs bltNames) ((allT ts ws).map Txt.dd) [] (lamOf ts) (exB ts)).says l.row.toRowW d [] (fun f vs => PySem.call f vs) := by
  refine LamX.walk_ofTsE (l := l) (n := n) (k := 4 * k) (x := "script") (CX := fun _ => L2.CX0) hn hn2 hdf hr ?F (fun _ _ _ _ _ z => z)
  intro w mg fa h Y G hmg
  obtain ⟨K, KX, Z⟩ := Y
  have c := Z.t.d
  obtain ⟨fd, e1, e2, e3⟩ := prg_facts (P := l.prog) (w := w) (ws := ws) KX G c hc hb hcw hbw Z.more (hg K h mg KX G c) k i t ht
  rw [hx, e1] at hmg
  cases hmg
  refine ⟨K, KX, fd, (lamOf ts).map (He.cT K), _, fun q hq => ?_, fun q hq => ?_, fun q hq => ?_, fun s u => ?_, ?_, fun base _ _ TB => by have := fn_no (e3 base TB); rw [hps] at this; exact this⟩
  · obtain ⟨q', hq', rfl⟩ := List.mem_map.1 hq
    exact Z.empty q' hq'
  · obtain ⟨q', hq', rfl⟩ := List.mem_map.1 hq
    exact Z.out q' hq'
  · obtain ⟨q', hq', rfl⟩ := List.mem_map.1 hq
    exact PySem.W.codeHd_of_K KX (Z.hd q' hq')
  · have := e2 s [u] (by rw [hps]; rfl)
    rw [hps] at this
    exact this
  · intro H a ns hl hbits hT hS
    obtain ⟨S, hS2⟩ := hrun ns hl
    refine ⟨[.scr ns], [], [], [], ⟨.ref a, [], rfl, ⟨a, rfl, ?_⟩, rfl⟩, ⟨rfl, List.nodup_nil, fun n o h => by simp at h, fun a h => by simp at h, fun a h => by simp at h, fun q hq => ?_⟩, ?_⟩
    · rcases hS with h | h
      · exact .inl ⟨h, List.not_mem_nil, List.not_mem_nil⟩
      · exact .inr h
    · obtain ⟨q', hq', rfl⟩ := List.mem_map.1 hq
      exact LamX.TabS.nil (hT _ (List.mem_map_of_mem hq'))
    · rw [hS2]
      intro H' mu' _ _ v rv
      exact rv
end Ev
end
section
set_option Elab.async false
set_option linter.all false
set_option maxRecDepth 100000
set_option maxHeartbeats 1000000
namespace Ev
open PySem (Str)
section
variable {α β : Type} {S S' : Store}
@[simp] theorem R.bind_ok (a : α) (f : α → Store → R β) : (R.ok a S).bind f = f a S := id rfl
@[simp] theorem R.bind_exc (c : Nat) (f : α → Store → R β) : (R.exc c S : R α).bind f = .exc c S := id rfl
@[simp] theorem R.bind_bad (f : α → Store → R β) : (R.bad : R α).bind f = .bad := id rfl
@[simp] theorem R.ofO_some (a : α) : R.ofO (some a) S = .ok a S := id rfl
@[simp] theorem R.ofO_none : R.ofO (none : Option α) S = .bad := id rfl
theorem R.bind_eq_ok {x : R α} {f : α → Store → R β} {a : α} (h : x = .ok a S) : x.bind f = f a S := by rw [h]; rfl
@[simp] theorem view_int (i : Int) : view S (.int i) = .int i := id rfl
@[simp] theorem view_bl (i : Bool) : view S (.bl i) = .bl i := id rfl
@[simp] theorem view_str (i : Str) : view S (.str i) = .str i := id rfl
@[simp] theorem view_non : view S .non = .non := id rfl
@[simp] theorem view_tup (ds : List D) : view S (.tup ds) = .tup ds := id rfl
@[simp] theorem view_lst (ds : List D) : view S (.lst ds) = .lst ds := id rfl
@[simp] theorem view_scr (ns : List Int) : view S (.scr ns) = .scr ns := id rfl
theorem trunc_same (d : D) : trunc S.length (.ok d S) = .ok d S := by simp [trunc]
theorem trunc_le {n : Nat} (d : D) (h : S.length ≤ n) : trunc n (.ok d S) = .ok d S := by simp [trunc, h]
theorem compL_map {g : D → Env → Store → R Env} {c : Env → Store → R Bool} {e : Env → Store → R D} {ρ : Env} (f : D → D) : ∀ (ds acc : List D),
    (∀ d ∈ ds, ∃ ρ1, g d ρ S = .ok ρ1 S ∧ c ρ1 S = .ok true S ∧ e ρ1 S = .ok (f d) S) → acc.length + ds.length ≤ 1000000 → compL g c e ρ ds acc S = .ok (acc.reverse ++ ds.map f) S
  | [], acc, _, _ => by simp [compL]
  | d :: ds, acc, h, hl => by
    obtain ⟨ρ1, h1, h2, h3⟩ := h d List.mem_cons_self
    simp only [List.length_cons] at hl
    have ih := compL_map (g := g) (c := c) (e := e) (ρ := ρ) f ds (f d :: acc) (fun x hx => h x (List.mem_cons_of_mem _ hx)) (by simp only [List.length_cons]; omega)
    simp only [compL, h1, h2, h3]
    rw [if_pos (by omega), ih]
    simp
theorem compL_filter {g : D → Env → Store → R Env} {c : Env → Store → R Bool} {e : Env → Store → R D} {ρ : Env} (p : D → Bool) (f : D → D) : ∀ (ds acc : List D),
    (∀ d ∈ ds, ∃ ρ1, g d ρ S = .ok ρ1 S ∧ c ρ1 S = .ok (p d) S ∧ e ρ1 S = .ok (f d) S) → acc.length + ds.length ≤ 1000000 → compL g c e ρ ds acc S = .ok (acc.reverse ++ (ds.filter p).map f) S
  | [], acc, _, _ => by simp [compL]
  | d :: ds, acc, h, hl => by
    obtain ⟨ρ1, h1, h2, h3⟩ := h d List.mem_cons_self
    simp only [List.length_cons] at hl
    cases hp : p d with
    | true =>
      rw [hp] at h2
      have ih := compL_filter (g := g) (c := c) (e := e) (ρ := ρ) p f ds (f d :: acc) (fun x hx => h x (List.mem_cons_of_mem _ hx)) (by simp only [List.length_cons]; omega)
      simp only [compL, h1, h2, h3]
      rw [if_pos (by omega), ih]
      simp [hp]
    | false =>
      rw [hp] at h2
      have ih := compL_filter (g := g) (c := c) (e := e) (ρ := ρ) p f ds acc (fun x hx => h x (List.mem_cons_of_mem _ hx)) (by omega)
      simp only [compL, h1, h2]
      rw [ih]
      simp [hp]
@[simp] theorem bools_map (bs : List α) (f : α → Bool) : bools (bs.map fun a => .bl (f a)) = some (bs.map f) := by
  induction bs with
  | nil => rfl
  | cons b bs ih => simp [bools, ih]
end
end Ev
end
section
set_option Elab.async false
set_option linter.all false
set_option maxRecDepth 100000
set_option maxHeartbeats 1000000
namespace Ev
open PySem (Str)
def cnd (G : Glb) (c : T) (ρ : Env) (S : Store) : R Bool := tst (evE G c ρ S)
def flThen (f : Fl) (g : Env → Store → R Fl) (S : Store) : R Fl := match f with
  | .nx ρ => g ρ S
  | .rt d => .ok (.rt d) S
def flEnd (f : Fl) (S : Store) : R D := match f with
  | .nx _ => .ok .non S
  | .rt d => .ok d S
section
variable {G : Glb} {ρ : Env} {S : Store} {a b c l e tg it cond es : T} {d : D} {ds : List D}
theorem e_var {i : Nat} : evE G (.var i) ρ S = R.ofO (getV ρ i) S := by simp only [evE]
theorem e_int {i : Int} : evE G (.int i) ρ S = .ok (.int i) S := by simp only [evE]
theorem e_str {i : Str} : evE G (.str i) ρ S = .ok (.str i) S := by simp only [evE]
theorem e_bl {i : Bool} : evE G (.bl i) ρ S = .ok (.bl i) S := by simp only [evE]
theorem e_non : evE G .non ρ S = .ok .non S := by simp only [evE]
theorem e_bin {o : Bop} : evE G (.bin o a b) ρ S = (evE G a ρ S).bind fun x S1 => (evE G b ρ S1).bind fun y S2 => R.ofO (binD o (view S2 x) (view S2 y)) S2 := by simp only [evE]
theorem e_neg : evE G (.neg a) ρ S = (evE G a ρ S).bind fun x S1 => R.ofO ((asInt x).map fun i => .int (-i)) S1 := by simp only [evE]
theorem e_not : evE G (.not a) ρ S = (tst (evE G a ρ S)).bind fun b S1 => .ok (.bl (!b)) S1 := by simp only [evE]
theorem e_cmp {o : Cop} : evE G (.cmp o a b) ρ S = (evE G a ρ S).bind fun x S1 => (evE G b ρ S1).bind fun y S2 => R.ofO ((cmpD S2 o (view S2 x) (view S2 y)).map D.bl) S2 := by simp only [evE]
theorem e_chain {o p : Cop} : evE G (.chain o p a b c) ρ S = (evE G a ρ S).bind fun x S1 => (evE G b ρ S1).bind fun y S2 => (R.ofO (cmpD S2 o (view S2 x) (view S2 y)) S2).bind fun k S3 =>
      if k then (evE G c ρ S3).bind fun z S4 => R.ofO ((cmpD S4 p (view S4 y) (view S4 z)).map D.bl) S4 else .ok (.bl false) S3 := by simp only [evE]
theorem e_and : evE G (.and a b) ρ S = (evE G a ρ S).bind fun x S1 => (R.ofO (truth (view S1 x)) S1).bind fun k S2 => if k then evE G b ρ S2 else .ok x S2 := by simp only [evE]
theorem e_or : evE G (.or a b) ρ S = (evE G a ρ S).bind fun x S1 => (R.ofO (truth (view S1 x)) S1).bind fun k S2 => if k then .ok x S2 else evE G b ρ S2 := by simp only [evE]
theorem e_one : evE G (.one a) ρ S = evE G a ρ S := by simp only [evE]
theorem e_ife : evE G (.ife c a b) ρ S = (tst (evE G c ρ S)).bind fun k S1 => if k then evE G a ρ S1 else evE G b ρ S1 := by simp only [evE]
theorem e_tup : evE G (.tup es) ρ S = (evA G es ρ S).bind fun ds S1 => if ds.length ≤ 1000000 then .ok (.tup ds) S1 else .bad := by simp only [evE]
theorem e_lst {cl : Bool} : evE G (.lst cl es) ρ S = (evA G es ρ S).bind fun ds S1 => if ds.length ≤ 1000000 then mkL cl ds S1 else .bad := by simp only [evE]
theorem e_ix : evE G (.ix a b) ρ S = (evE G a ρ S).bind fun x S1 => (evE G b ρ S1).bind fun y S2 => R.ofO (ixD (view S2 x) y) S2 := by simp only [evE]
theorem e_call {f : Nat} : evE G (.call f es) ρ S = (evA G es ρ S).bind fun ds S1 => G.call f ds S1 := by simp only [evE]
theorem e_prim {p : Prim} : evE G (.prim p es) ρ S = (evA G es ρ S).bind fun ds S1 => R.ofO (primD p (ds.map (view S1))) S1 := by simp only [evE]
theorem e_isi {t : Ty} : evE G (.isi t a) ρ S = (evE G a ρ S).bind fun x S1 => R.ofO (match view S1 x with
      | .fn _ => none | .cel _ => none | .scr _ => none
      | y => some (.bl (isTy t y))) S1 := by
  simp only [evE]
  congr 1; funext x S1
  cases view S1 x <;> rfl
theorem e_callv {i : Nat} : evE G (.callv i es) ρ S = (R.ofO (getV ρ i) S).bind fun v S0 => match v with
      | .fn f => if f < G.nf then (evA G es ρ S0).bind fun ds S1 => G.call f ds S1 else .bad
      | _ => .bad := by simp only [evE] <;> rfl
theorem e_dnew : evE G .dnew ρ S = .ok (.cel S.length) (S ++ [.dT []]) := by simp only [evE]
theorem e_dz : evE G (.dz a b) ρ S = (evE G a ρ S).bind fun x S1 => (evE G b ρ S1).bind fun y S2 => (R.ofO (dzD x y) S2).bind fun kvs S3 => .ok (.cel S3.length) (S3 ++ [.dT kvs]) := by simp only [evE]
theorem e_dix : evE G (.dix a es) ρ S = (evE G a ρ S).bind fun x S1 => (evA G es ρ S1).bind fun ds S2 => R.ofO (dgetD S2 x ds) S2 := by simp only [evE]
theorem e_din {neg : Bool} : evE G (.din neg es a) ρ S = (evA G es ρ S).bind fun ds S1 => (R.ofO (keyT ds) S1).bind fun ks S2 => (evE G a ρ S2).bind fun x S3 => R.ofO ((dicOf S3 x).map fun kvs => .bl (if neg then !(getK kvs ks).isSome else (getK kvs ks).isSome)) S3 := by simp only [evE]
theorem s_dset' {o : T} : evS G (.dset o es e) ρ S = (evE G e ρ S).bind fun v S1 => (evE G o ρ S1).bind fun x S2 => (evA G es ρ S2).bind fun ds S3 => (R.ofO (dputD x ds v S3) S3).bind fun S4 _ => .ok (.nx ρ) S4 := by simp only [evS]
def rngLI (d : D) : Option D := match d with
  | .int j => if 0 ≤ j ∧ j ≤ 1000000 then some (.lst (rngL 0 1 j.toNat)) else none
  | _ => none
def rngLI2 (c d : D) : Option D := match c, d with
  | .int i, .int j => if 0 ≤ i ∧ i ≤ 1000000 ∧ 0 ≤ j ∧ j ≤ 1000000 then some (.lst (rngL i 1 (j - i).toNat)) else none
  | _, _ => none
theorem e_lrng1 : evE G (.lrng1 a) ρ S = (evE G a ρ S).bind fun d S1 => R.ofO (rngLI d) S1 := by
  simp only [evE]
  congr 1; funext d S1
  cases d <;> first | rfl | (simp only [rngLI]; split <;> rfl)
theorem e_lrng2 : evE G (.lrng2 a b) ρ S = (evE G a ρ S).bind fun c S1 => (evE G b ρ S1).bind fun d S2 => R.ofO (rngLI2 c d) S2 := by
  simp only [evE]
  congr 1; funext c S1
  congr 1; funext d S2
  cases c <;> cases d <;> first | rfl | (simp only [rngLI2]; split <;> rfl)
/-- what a word def makes of an ending -/
def wordE (hs : List (Nat × Str)) (dv : Str) (x : R D) : R D := match x with
  | .ok _ S1 => .ok (.str dv) S1
  | .exc c S1 => (match handler c hs with
    | some x => .ok (.str x) S1
    | none => .bad)
  | .bad => .bad
theorem e_word {w : Nat} {hs : List (Nat × Str)} {dv : Str} : evE G (.word w hs dv e) ρ S = wordE hs dv (evE G e ρ S) := by
  simp only [evE]
  cases evE G e ρ S <;> rfl
theorem w_ok {hs : List (Nat × Str)} {dv : Str} : wordE hs dv (.ok d S) = .ok (.str dv) S := id rfl
theorem w_exc {c : Nat} {x : Str} {hs : List (Nat × Str)} {dv : Str} (h : handler c hs = some x) : wordE hs dv (.exc c S) = .ok (.str x) S := by
  unfold wordE; simp only [h]
theorem a_nil' : evA G .nil ρ S = .ok [] S := by simp only [evA]
theorem a_cons' : evA G (.cons a l) ρ S = (evE G a ρ S).bind fun d S1 => (evA G l ρ S1).bind fun ds S2 => .ok (d :: ds) S2 := by simp only [evA]
theorem s_nil : evS G .nil ρ S = .ok (.nx ρ) S := by simp only [evS]
theorem s_cons : evS G (.cons a l) ρ S = (evS G a ρ S).bind fun f S1 => flThen f (evS G l) S1 := by
  simp only [evS]
  rfl
theorem fl_nx {g : Env → Store → R Fl} : flThen (.nx ρ) g S = g ρ S := id rfl
theorem fl_rt {g : Env → Store → R Fl} : flThen (.rt d) g S = .ok (.rt d) S := id rfl
theorem end_nx : flEnd (.nx ρ) S = .ok .non S := id rfl
theorem end_rt : flEnd (.rt d) S = .ok d S := id rfl
theorem fn_run (F : Fn) (h : ds.length = F.n) : F.run G ds S = trunc S.length ((evS G F.body (ds.map some ++ List.replicate (F.m - F.n) none) S).bind flEnd) := by
  unfold Fn.run
  rw [if_pos h]
  rfl
theorem s_ret' : evS G (.ret e) ρ S = (evE G e ρ S).bind fun d S1 => .ok (.rt d) S1 := by simp only [evS]
theorem s_ite' : evS G (.ite c a b) ρ S = (tst (evE G c ρ S)).bind fun k S1 => if k then evS G a ρ S1 else evS G b ρ S1 := by simp only [evS]
theorem s_asg' : evS G (.asg tg e) ρ S = (evE G e ρ S).bind fun d S1 => (evG G tg d ρ S1).bind fun ρ1 S2 => .ok (.nx ρ1) S2 := by simp only [evS]
theorem s_par' {is : List Nat} : evS G (.par is es) ρ S = (evA G es ρ S).bind fun ds S1 => (R.ofO (setL is ds ρ) S1).bind fun ρ1 S2 => .ok (.nx ρ1) S2 := by simp only [evS]
theorem s_asgc' {i : Nat} : evS G (.asgc i e) ρ S = (evE G e ρ S).bind fun d S1 => .ok (.nx (ρ.set i (some d))) S1 := by simp only [evS]
theorem s_expr' : evS G (.expr e) ρ S = (evE G e ρ S).bind fun _ S1 => .ok (.nx ρ) S1 := by simp only [evS]
theorem s_raise' {n : Nat} : evS G (.raise n) ρ S = .exc n S := by simp only [evS]
theorem s_loop' : evS G (.loop c b) ρ S = whileL (cnd G c) (evS G b) G.fuel ρ S := by simp only [evS] <;> rfl
theorem s_for' : evS G (.for_ tg it b) ρ S = (evI G it ρ S).bind fun ds S1 => forL (evG G tg) (evS G b) ds ρ S1 := by simp only [evS]
theorem s_app' {i : Nat} : evS G (.app i e) ρ S = (R.ofO (getV ρ i) S).bind fun o S0 => (R.ofO (cellL o S0) S0).bind fun _ S0 => (evE G e ρ S0).bind fun d S1 => (R.ofO (appD o d S1) S1).bind fun S2 _ => .ok (.nx ρ) S2 := by simp only [evS]
theorem g_tv' {i : Nat} : evG G (.tv i) d ρ S = .ok (ρ.set i (some d)) S := by simp only [evG]
theorem g_tt' : evG G (.tt tg) (.tup ds) ρ S = if ds.length = tlen tg then evGs G tg ds ρ S else .bad := by simp only [evG]
theorem gs_nil' : evGs G .nil [] ρ S = .ok ρ S := by simp only [evGs]
theorem gs_cons' : evGs G (.cons a l) (d :: ds) ρ S = (evG G a d ρ S).bind fun ρ1 S1 => evGs G l ds ρ1 S1 := by simp only [evGs]
theorem g_ts' : evG G (.ts a b) d ρ S = (evE G a ρ S).bind fun x S1 => (evE G b ρ S1).bind fun y S2 => (R.ofO (setItemD x y d S2) S2).bind fun S3 _ => .ok ρ S3 := by simp only [evG]
def items : D → Option (List D)
  | .tup ds => some ds
  | .lst ds => some ds
  | .scr ns => some (ns.map D.int)
  | _ => none
def rngI (d : D) : Option (List D) := match d with
  | .int j => if small j then some (rngL 0 1 j.toNat) else none
  | _ => none
def rngI2 (c d : D) : Option (List D) := match c, d with
  | .int i, .int j => if small i && small j then some (rngL i 1 (j - i).toNat) else none
  | _, _ => none
def rngI3 (c d : D) : Option (List D) := match c, d with
  | .int i, .int j => if small i && small j then some (rngL i (-1) (i - j).toNat) else none
  | _, _ => none
def zipI (c d : D) : Option (List D) := match c, d with
  | .tup xs, .tup ys => some (List.zipWith (fun x y => D.tup [x, y]) xs ys)
  | .lst xs, .lst ys => some (List.zipWith (fun x y => D.tup [x, y]) xs ys)
  | _, _ => none
theorem i_one' : evI G (.one a) ρ S = (evE G a ρ S).bind fun d S1 => R.ofO (items d) S1 := by
  simp only [evI]
  congr 1; funext d S1
  cases d <;> rfl
theorem i_rng1' : evI G (.rng1 a) ρ S = (evE G a ρ S).bind fun d S1 => R.ofO (rngI d) S1 := by
  simp only [evI]
  congr 1; funext d S1
  cases d <;> first | rfl | (simp only [rngI]; split <;> rfl)
theorem i_rng2' : evI G (.rng2 a b) ρ S = (evE G a ρ S).bind fun c S1 => (evE G b ρ S1).bind fun d S2 => R.ofO (rngI2 c d) S2 := by
  simp only [evI]
  congr 1; funext c S1
  congr 1; funext d S2
  cases c <;> cases d <;> first | rfl | (simp only [rngI2]; split <;> rfl)
def enumI : D → Option (List D)
  | .lst xs => some (List.zipWith (fun x y => D.tup [x, y]) (rngL 0 1 xs.length) xs)
  | .tup xs => some (List.zipWith (fun x y => D.tup [x, y]) (rngL 0 1 xs.length) xs)
  | _ => none
theorem i_enum' : evI G (.enum a) ρ S = (evE G a ρ S).bind fun d S1 => R.ofO (enumI d) S1 := by
  simp only [evI]
  congr 1; funext d S1
  cases d <;> rfl
theorem enumI_lst {xs : List D} : enumI (.lst xs) = some (List.zipWith (fun x y => D.tup [x, y]) (rngL 0 1 xs.length) xs) := id rfl
theorem enumI_tup {xs : List D} : enumI (.tup xs) = some (List.zipWith (fun x y => D.tup [x, y]) (rngL 0 1 xs.length) xs) := id rfl
theorem i_rng3' : evI G (.rng3 a b) ρ S = (evE G a ρ S).bind fun c S1 => (evE G b ρ S1).bind fun d S2 => R.ofO (rngI3 c d) S2 := by
  simp only [evI]
  congr 1; funext c S1
  congr 1; funext d S2
  cases c <;> cases d <;> first | rfl | (simp only [rngI3]; split <;> rfl)
theorem i_zip' : evI G (.zip a b) ρ S = (evE G a ρ S).bind fun c S1 => (evE G b ρ S1).bind fun d S2 => R.ofO (zipI c d) S2 := by
  simp only [evI]
  congr 1; funext c S1
  congr 1; funext d S2
  cases c <;> cases d <;> rfl
def mkC (cl : Bool) (x : R (List D)) : R D := match x with
  | .ok vs S => mkL cl vs S
  | _ => .bad
@[simp] theorem mkC_ok {cl : Bool} {vs : List D} : mkC cl (.ok vs S) = mkL cl vs S := id rfl
theorem mkL_f : mkL false ds S = .ok (.lst ds) S := id rfl
theorem e_comp {cl : Bool} {own : List Nat} : evE G (.comp cl e tg it cond own) ρ S = (evI G it ρ S).bind fun ds S1 => mkC cl (compL (evG G tg) (cnd G cond) (evE G e) (wipeE ρ own) ds [] S1) := by
  simp only [evE]
  rfl
def slD (d : D) (l h : Option Int) : Option D := match d with
  | .tup ds => some (.tup (cutD ds l h))
  | .lst ds => some (.lst (cutD ds l h))
  | .str x => if x.length ≤ 1000000 then some (.str (L2.cutS x l h)) else none
  | _ => none
def optE (G : Glb) (t : T) (ρ : Env) (S : Store) : R (Option Int) := match t with
  | .nil => .ok none S
  | _ => (evE G t ρ S).bind fun d S1 => R.ofO ((asInt d).map some) S1
theorem optE_nil : optE G .nil ρ S = .ok none S := id rfl
theorem optE_int {i : Int} : optE G (.int i) ρ S = .ok (some i) S := by simp only [optE, e_int, R.bind_ok, asInt, Option.map_some, R.ofO_some]
theorem optE_neg {i : Int} : optE G (.neg (.int i)) ρ S = .ok (some (-i)) S := by simp only [optE, e_neg, e_int, R.bind_ok, asInt, Option.map_some, R.ofO_some]
theorem optE_var {n : Nat} : optE G (.var n) ρ S = (evE G (.var n) ρ S).bind fun d S1 => R.ofO ((asInt d).map some) S1 := id rfl
theorem optE_bin {o : Bop} : optE G (.bin o a b) ρ S = (evE G (.bin o a b) ρ S).bind fun d S1 => R.ofO ((asInt d).map some) S1 := id rfl
theorem e_sl {lo hi : T} : evE G (.sl a lo hi) ρ S = (evE G a ρ S).bind fun x S1 => (optE G lo ρ S1).bind fun l S2 => (optE G hi ρ S2).bind fun h S3 => R.ofO (slD (view S3 x) l h) S3 := by
  simp only [evE]
  congr 1; funext x S1
  have h1 : ∀ (t : T) (ρ : Env) (S : Store), optInt t (evE G t) ρ S = optE G t ρ S := fun t ρ S => by cases t <;> rfl
  rw [h1]
  congr 1; funext l S2
  rw [h1]
  congr 1; funext h S3
  cases view S3 x <;> first | rfl | (simp only [slD]; split <;> rfl)
theorem e_rep {cl : Bool} : evE G (.rep cl a b) ρ S = (evE G a ρ S).bind fun x S1 => (evE G b ρ S1).bind fun y S2 => (R.ofO (binD .mul (view S2 x) y) S2).bind fun z S3 => match z with
      | .lst ds => mkL cl ds S3
      | _ => .bad := by simp only [evE] <;> rfl
theorem e_rev : evE G (.rev a) ρ S = (evE G a ρ S).bind fun x S1 => R.ofO (match x with
      | .tup ds => some (.tup ds.reverse)
      | _ => none) S1 := by
  simp only [evE]
  congr 1; funext x S1
  cases x <;> rfl
theorem e_upper : evE G (.upper a) ρ S = (evE G a ρ S).bind fun x S1 => R.ofO (match x with
      | .str z => if z.length ≤ 1000000 then some (.str (PySem.Txt.upper z)) else none
      | _ => none) S1 := by
  simp only [evE]
  congr 1; funext x S1
  cases x <;> first | rfl | (simp only []; split <;> rfl)
theorem ite_and {p q : Bool} : (if p = true then R.ok (D.bl q) S else R.ok (D.bl false) S) = .ok (.bl (p && q)) S := by cases p <;> rfl
theorem ite_and' {p q : Bool} : (if p = true then R.ok (D.bl q) S else R.ok (D.bl p) S) = .ok (.bl (p && q)) S := by cases p <;> rfl
theorem ite_or {p q : Bool} : (if p = true then R.ok (D.bl p) S else R.ok (D.bl q) S) = .ok (.bl (p || q)) S := by cases p <;> rfl
/-- neither def nor cell nor script -/
def isDat : D → Bool
  | .fn _ => false | .cel _ => false | .scr _ => false | _ => true
theorem view_dat {d : D} (h : isDat d = true) : view S d = d := by cases d <;> first | rfl | (cases h; done)
theorem cnd_eq : cnd G c ρ S = tst (evE G c ρ S) := id rfl
section
variable {i j : Int} {x y : Str} {p q : Bool} {es : List D}
theorem b_add : binD .add (.int i) (.int j) = some (.int (i + j)) := id rfl
theorem b_addT : binD .add (.tup ds) (.tup es) = if ds.length + es.length ≤ 1000000 then some (.tup (ds ++ es)) else none := id rfl
theorem b_addL : binD .add (.lst ds) (.lst es) = if ds.length + es.length ≤ 1000000 then some (.lst (ds ++ es)) else none := id rfl
theorem b_sub : binD .sub (.int i) (.int j) = some (.int (i - j)) := id rfl
theorem b_mul : binD .mul (.int i) (.int j) = if mulOk i j then some (.int (i * j)) else none := id rfl
theorem b_mulT : binD .mul (.tup ds) (.int j) = if 2 ≤ j ∧ j ≤ 1000 ∧ ds.length ≤ 1000 ∧ ds ≠ [] then some (.tup (List.replicate j.toNat ds).flatten) else if j = 1 then some (.tup ds) else none := id rfl
theorem b_fdiv : binD .fdiv (.int i) (.int j) = if divOk j then some (.int (i / j)) else none := id rfl
theorem b_mod : binD .mod (.int i) (.int j) = if 0 < j then some (.int (i % j)) else none := id rfl
theorem b_addB : binD .add (.bl p) (.int j) = some (.int ((if p = true then (1 : Int) else 0) + j)) := id rfl
theorem b_subB : binD .sub (.bl p) (.int j) = some (.int ((if p = true then (1 : Int) else 0) - j)) := id rfl
theorem b_mulB : binD .mul (.bl p) (.int j) = some (.int ((if p = true then (1 : Int) else 0) * j)) := id rfl
theorem b_pow : binD .pow (.int i) (.int j) = if 0 ≤ j ∧ j ≤ 1000000 ∧ i.natAbs < 18446744073709551616 then some (.int (i ^ j.toNat)) else none := id rfl
theorem b_mulL : binD .mul (.lst ds) (.int j) = if 0 ≤ j ∧ j ≤ 1000 ∧ ds.length ≤ 1000 then some (.lst (List.replicate j.toNat ds).flatten) else none := id rfl
theorem c_lt : cmpD S .lt (.int i) (.int j) = some (decide (i < j)) := id rfl
theorem c_le : cmpD S .le (.int i) (.int j) = some (decide (i ≤ j)) := id rfl
theorem c_gt : cmpD S .gt (.int i) (.int j) = some (decide (j < i)) := id rfl
theorem c_ge : cmpD S .ge (.int i) (.int j) = some (decide (j ≤ i)) := id rfl
theorem c_isB {a b : Bool} : cmpD S .isN (.bl a) (.bl b) = some (a == b) := id rfl
theorem c_notB {a b : Bool} : cmpD S .notN (.bl a) (.bl b) = some (!(a == b)) := id rfl
theorem c_isN : cmpD S .isN d .non = some (isNon d) := by cases d <;> rfl
theorem c_notN : cmpD S .notN d .non = some (!isNon d) := by cases d <;> rfl
theorem w_nil : wipeE ρ [] = ρ := id rfl
theorem w_cons {v : Nat} {vs : List Nat} : wipeE ρ (v :: vs) = (wipeE ρ vs).set v none := id rfl
theorem bs_nil : bools [] = some [] := id rfl
theorem bs_cons {es : List D} : bools (.bl p :: es) = (bools es).map (p :: ·) := id rfl
theorem l0 : ((0 : Nat) < 1000000) = True := by simp
theorem l1 : ((1 : Nat) < 1000000) = True := by simp
theorem l2 : ((2 : Nat) < 1000000) = True := by simp
theorem l3 : ((3 : Nat) < 1000000) = True := by simp
theorem nn_non : isNon .non = true := id rfl
theorem nn_int : isNon (.int i) = false := id rfl
theorem nn_bl : isNon (.bl p) = false := id rfl
theorem nn_str : isNon (.str x) = false := id rfl
theorem nn_tup : isNon (.tup ds) = false := id rfl
theorem nn_lst : isNon (.lst ds) = false := id rfl
theorem beq_dec : (i == j) = decide (i = j) := by by_cases h : i = j <;> simp [h]
theorem pow12 : binD .pow (.int 10) (.int 12) = some (.int 1000000000000) := by rw [b_pow, if_pos (by decide)]; rfl
theorem pow18 : binD .pow (.int 10) (.int 18) = some (.int 1000000000000000000) := by rw [b_pow, if_pos (by decide)]; rfl
theorem pow31 : binD .pow (.int 10) (.int 31) = some (.int 10000000000000000000000000000000) := by rw [b_pow, if_pos (by decide)]; rfl
theorem pow6 : binD .pow (.int 10) (.int 6) = some (.int 1000000) := by rw [b_pow, if_pos (by decide)]; rfl
theorem c_eq3 {a b c a' b' c' : Int} : cmpD S .eq (.tup [.int a, .int b, .int c]) (.tup [.int a', .int b', .int c']) = some (decide (a = a') && (decide (b = b') && decide (c = c'))) := by
  simp only [cmpD, der, derL, okD, okL, Bool.and_self, if_true, eqD, eqL, beq_dec, Bool.and_true]
theorem c_eqI : cmpD S .eq (.int i) (.int j) = some (decide (i = j)) := by simp only [cmpD, der, okD, Bool.and_self, if_true, eqD, beq_dec]
theorem c_neI : cmpD S .ne (.int i) (.int j) = some (!decide (i = j)) := by simp only [cmpD, der, okD, Bool.and_self, if_true, eqD, beq_dec]
theorem t_bl : truth (.bl p) = some p := id rfl
theorem t_int : truth (.int i) = some (i != 0) := id rfl
theorem t_non : truth .non = some false := id rfl
theorem t_tup : truth (.tup ds) = some (!ds.isEmpty) := id rfl
theorem t_lst : truth (.lst ds) = some (!ds.isEmpty) := id rfl
theorem p_len_t : primD .len [.tup ds] = some (.int ds.length) := id rfl
theorem p_len_l : primD .len [.lst ds] = some (.int ds.length) := id rfl
theorem p_abs : primD .abs [.int i] = some (.int (if i < 0 then -i else i)) := id rfl
theorem p_int : primD .int [.int i] = some (.int i) := id rfl
theorem p_all : primD .all [.lst ds] = (bools ds).map fun bs => .bl (bs.all id) := id rfl
theorem p_any : primD .any [.lst ds] = (bools ds).map fun bs => .bl (bs.any id) := id rfl
theorem p_tupL : primD .tuple [.lst ds] = some (.tup ds) := id rfl
theorem p_tupT : primD .tuple [.tup ds] = some (.tup ds) := id rfl
theorem p_lstT : primD .list [.tup ds] = some (.lst ds) := id rfl
theorem p_lstL : primD .list [.lst ds] = some (.lst ds) := id rfl
theorem p_max2 : primD .max [.int i, .int j] = some (.int (if j > i then j else i)) := id rfl
theorem p_min2 : primD .min [.int i, .int j] = some (.int (if j < i then j else i)) := id rfl
theorem x_tup : ixD (.tup ds) (.int i) = L2.atI ds i := id rfl
theorem x_lst : ixD (.lst ds) (.int i) = L2.atI ds i := id rfl
theorem n_int : asInt (.int i) = some i := id rfl
theorem it_tup : items (.tup ds) = some ds := id rfl
theorem it_lst : items (.lst ds) = some ds := id rfl
theorem sl_tup {l h : Option Int} : slD (.tup ds) l h = some (.tup (cutD ds l h)) := id rfl
theorem sl_lst {l h : Option Int} : slD (.lst ds) l h = some (.lst (cutD ds l h)) := id rfl
theorem at_nat {n : Nat} (h : n < ds.length) : L2.atI ds (n : Int) = ds[n]? := by
  unfold L2.atI L2.ixN
  have h1 : ¬ ((n : Int) < 0) := by omega
  simp [h1, h]
theorem at0 : L2.atI (d :: ds) 0 = some d := at_nat (n := 0) (by simp)
theorem at1 {d2 : D} : L2.atI (d :: d2 :: ds) 1 = some d2 := at_nat (n := 1) (by simp)
theorem at2 {d2 d3 : D} : L2.atI (d :: d2 :: d3 :: ds) 2 = some d3 := at_nat (n := 2) (by simp)
theorem sl1 {r : Env} : setL [] [] r = some r := id rfl
theorem sl2 {k : Nat} {is : List Nat} {r : Env} : setL (k :: is) (d :: ds) r = (setL is ds r).map fun ρ' => ρ'.set k (some d) := id rfl
end
theorem tst_okR {b : Bool} {S1 : Store} (h : truth (view S1 d) = some b) : tst (.ok d S1) = .ok b S1 := by simp only [tst, R.bind_ok, h, R.ofO_some]
@[simp] theorem tst_bl {b : Bool} {S1 : Store} : tst (.ok (.bl b) S1) = .ok b S1 := id rfl
theorem getV0 {x : Option D} {r : Env} : getV (x :: r) 0 = x := by cases x <;> rfl
theorem getVs {x : Option D} {r : Env} {n : Nat} : getV (x :: r) (n + 1) = getV r n := by simp only [getV, List.getElem?_cons_succ]
end
end Ev
end
section
set_option Elab.async false
set_option linter.all false
set_option maxRecDepth 100000
set_option maxHeartbeats 1000000
/-! What an evaluation ends with, as a predicate. -/
namespace Ev
open PySem (Str)
section
variable {α β : Type} {S S' : Store} {G : Glb} {ρ : Env}
def Ok (x : R α) (Q : α → Store → Prop) : Prop := match x with
  | .ok a S => Q a S
  | _ => False
theorem Ok_ok {a : α} {Q : α → Store → Prop} : Ok (.ok a S) Q = Q a S := id rfl
theorem Ok_exc {c : Nat} {Q : α → Store → Prop} : Ok (.exc c S) Q = False := id rfl
theorem Ok_bad {Q : α → Store → Prop} : Ok .bad Q = False := id rfl
theorem Ok_bind {x : R α} {f : α → Store → R β} {Q : β → Store → Prop} : Ok (x.bind f) Q = Ok x (fun a S => Ok (f a S) Q) := by cases x <;> rfl
theorem Ok.mono {x : R α} {P Q : α → Store → Prop} (h : Ok x P) (hp : ∀ a S, P a S → Q a S) : Ok x Q := by
  cases x with
  | ok a S => exact hp a S h
  | _ => exact h
theorem Ok_iff {x : R α} {Q : α → Store → Prop} : Ok x Q ↔ ∃ a S, x = .ok a S ∧ Q a S := by
  cases x with
  | ok a S => exact ⟨fun h => ⟨a, S, rfl, h⟩, fun ⟨_, _, e, h⟩ => by cases e; exact h⟩
  | exc c S => exact ⟨fun h => h.elim, fun ⟨_, _, e, _⟩ => by cases e⟩
  | bad => exact ⟨fun h => h.elim, fun ⟨_, _, e, _⟩ => by cases e⟩
theorem Ok.of {x : R α} {Q : α → Store → Prop} {a : α} (h : x = .ok a S) (q : Q a S) : Ok x Q := by rw [h]; exact q
theorem Ok_tst {x : R D} {Q : Bool → Store → Prop} : Ok (tst x) Q = Ok x (fun d S => Ok (R.ofO (truth (view S d)) S) Q) := by cases x <;> rfl
theorem Ok_mkC {cl : Bool} {x : R (List D)} {Q : D → Store → Prop} : Ok (mkC cl x) Q = Ok x (fun vs S => Ok (mkL cl vs S) Q) := by cases x <;> rfl
theorem Ok_mkLf {ds : List D} {Q : D → Store → Prop} : Ok (mkL false ds S) Q = Q (.lst ds) S := id rfl
theorem Ok_mkLt {ds : List D} {Q : D → Store → Prop} : Ok (mkL true ds S) Q = Q (.cel S.length) (S ++ [.lst ds]) := id rfl
theorem Ok_flThen {f : Fl} {g : Env → Store → R Fl} {Q : Fl → Store → Prop} : Ok (flThen f g S) Q = match f with | .nx ρ => Ok (g ρ S) Q | .rt d => Q (.rt d) S := by cases f <;> rfl
/-- the store cut back behind a def -/
theorem Ok_trunc {x : R D} {n : Nat} {Q : D → Store → Prop} (h : Ok x fun d S => (S.length ≤ n ∧ Q d S) ∨ (below n d = true ∧ (S.take n).all (belowO n) = true ∧ Q d (S.take n)) ∨ (below n d = false ∧ Q d S)) : Ok (trunc n x) Q := by
  cases x with
  | ok d S =>
    have h : (S.length ≤ n ∧ Q d S) ∨ (below n d = true ∧ (S.take n).all (belowO n) = true ∧ Q d (S.take n)) ∨ (below n d = false ∧ Q d S) := h
    unfold trunc
    by_cases hl : S.length ≤ n
    · simp only [hl, if_true]
      rcases h with h | ⟨_, _, h⟩ | h
      · exact h.2
      · rw [List.take_of_length_le hl] at h; exact h
      · exact h.2
    · rcases h with h | ⟨h1, h2, h⟩ | ⟨h1, h⟩
      · exact absurd h.1 hl
      · simp only [hl, if_false, h1, h2, Bool.and_self, if_true]; exact h
      · simp only [hl, if_false, h1, Bool.false_and, Bool.false_eq_true]; exact h
  | _ => exact h
/-- a def's run -/
theorem Ok_fn {F : Fn} {ds : List D} {Q : D → Store → Prop} (hl : ds.length = F.n) (h : Ok (evS G F.body (ds.map some ++ List.replicate (F.m - F.n) none) S) fun f S1 => Ok (flEnd f S1) fun d S2 => (S2.length ≤ S.length ∧ Q d S2) ∨ (below S.length d = true ∧ (S2.take S.length).all (belowO S.length) = true ∧ Q d (S2.take S.length)) ∨ (below S.length d = false ∧ Q d S2)) : Ok (F.run G ds S) Q := by
  rw [fn_run F hl]
  refine Ok_trunc ?_
  rw [Ok_bind]
  exact h
theorem forL_ind {g : D → Env → Store → R Env} {b : Env → Store → R Fl} (I : List D → Env → Store → Prop) {Q : Fl → Store → Prop}
    (step : ∀ d ds ρ S, I (d :: ds) ρ S → Ok (g d ρ S) fun ρ1 S1 => Ok (b ρ1 S1) fun f S2 => match f with | .nx ρ2 => I ds ρ2 S2 | .rt v => Q (.rt v) S2)
    (fin : ∀ ρ S, I [] ρ S → Q (.nx ρ) S) : ∀ (ds : List D) (ρ : Env) (S : Store), I ds ρ S → Ok (forL g b ds ρ S) Q
  | [], ρ, S, h => fin ρ S h
  | d :: ds, ρ, S, h => by
    simp only [forL, Ok_bind]
    refine (step d ds ρ S h).mono fun ρ1 S1 h1 => h1.mono fun f S2 h2 => ?_
    cases f with
    | nx ρ2 => exact forL_ind I step fin ds ρ2 S2 h2
    | rt v => exact h2
/-- a comprehension without a condition -/
theorem compL_all {g : D → Env → Store → R Env} {c : Env → Store → R Bool} {e : Env → Store → R D} (I : Store → Prop) (P : D → Prop) {Q : List D → Store → Prop} :
    ∀ (ds acc : List D) (S : Store), (∀ d ∈ ds, ∀ S, I S → Ok (g d ρ S) fun ρ1 S1 => Ok (c ρ1 S1) fun b S2 => b = true ∧ Ok (e ρ1 S2) fun v S3 => I S3 ∧ P v) → I S → (∀ d ∈ acc, P d) → acc.length + ds.length ≤ 1000000 →
    (∀ vs S', I S' → (∀ d ∈ vs, P d) → vs.length = acc.length + ds.length → Q vs S') → Ok (compL g c e ρ ds acc S) Q
  | [], acc, S, h, hI, ha, hl, q => by
    simp only [compL, Ok_ok]
    exact q _ _ hI (fun d hd => ha d (by simpa using hd)) (by simp)
  | d :: ds, acc, S, h, hI, ha, hl, q => by
    simp only [List.length_cons] at hl
    obtain ⟨ρ1, S1, e1, h1⟩ := Ok_iff.1 (h d List.mem_cons_self S hI)
    obtain ⟨b, S2, e2, hb, h2⟩ := Ok_iff.1 h1
    obtain ⟨v, S3, e3, h3, hv⟩ := Ok_iff.1 h2
    subst hb
    simp only [compL, e1, e2, e3, show acc.length < 1000000 by omega, if_true]
    refine compL_all I P ds (v :: acc) S3 (fun x hx => h x (List.mem_cons_of_mem _ hx)) h3 (fun x hx => ?_) (by simp only [List.length_cons]; omega) fun vs S' i1 i2 i3 => q vs S' i1 i2 (by simp only [List.length_cons] at i3 ⊢; omega)
    rcases List.mem_cons.1 hx with rfl | hx
    · exact hv
    · exact ha x hx
end
end Ev
end
section
set_option Elab.async false
set_option linter.all false
set_option maxRecDepth 100000
set_option maxHeartbeats 1000000
set_option exponentiation.threshold 100000
/-! ### gcd by a loop -/
namespace Ev
open PySem (Str)
theorem gcd_step {a b : Int} (ha : 0 ≤ a) (hb : 0 < b) : Int.gcd b (a % b) = Int.gcd a b := by
  have h : a = a % b + b * (a / b) := by have := Int.mul_ediv_add_emod a b; omega
  conv => rhs; rw [h]
  rw [Int.gcd_comm (a % b + b * (a / b)) b, Int.gcd_add_mul_left_right]
theorem gcd_loop {c : Env → Store → R Bool} {bd : Env → Store → R Fl} {env : Int → Int → Env} {S : Store} (hc : ∀ a b : Int, 0 ≤ b → c (env a b) S = .ok (decide (b ≠ 0)) S) (hb : ∀ a b : Int, 0 ≤ a → 0 < b → bd (env a b) S = .ok (.nx (env b (a % b))) S) :
    ∀ (m n : Nat) (a b : Int), 0 ≤ a → 0 ≤ b → b < 2 ^ m → 2 * m + 1 ≤ n → whileL c bd n (env a b) S = .ok (.nx (env (Int.gcd a b) 0)) S
  | 0, n + 1, a, b, ha, hb0, hm, _ => by
    have e : b = 0 := by omega
    subst e
    have : ((Int.gcd a 0 : Nat) : Int) = a := by rw [Int.gcd_zero_right]; omega
    rw [this]
    simp only [whileL, hc a 0 (by omega), R.bind_ok]
    simp
  | m + 1, n + 1, a, b, ha, hb0, hm, hn => by
    by_cases h0 : b = 0
    · subst h0
      have : ((Int.gcd a 0 : Nat) : Int) = a := by rw [Int.gcd_zero_right]; omega
      rw [this]
      simp only [whileL, hc a 0 (by omega), R.bind_ok]
      simp
    · have hbp : 0 < b := by omega
      have r0 := Int.emod_nonneg a h0
      have r1 := Int.emod_lt_of_pos a hbp
      simp only [whileL, hc a b hb0, R.bind_ok, h0, ne_eq, not_false_eq_true, decide_true, if_true, hb a b ha hbp]
      rw [← gcd_step ha hbp]
      cases n with
      | zero => omega
      | succ n =>
        by_cases h1 : a % b = 0
        · rw [h1]
          have : ((Int.gcd b 0 : Nat) : Int) = b := by rw [Int.gcd_zero_right]; omega
          rw [this]
          simp only [whileL, hc b 0 (by omega), R.bind_ok]
          simp
        · have hr : 0 < a % b := by omega
          simp only [whileL, hc b (a % b) r0, R.bind_ok, h1, ne_eq, not_false_eq_true, decide_true, if_true, hb b (a % b) hb0 hr]
          rw [← gcd_step hb0 hr]
          have q0 := Int.emod_nonneg b h1
          have q1 := Int.emod_lt_of_pos b hr
          have q2 : b % (a % b) ≤ b - a % b := by
            have e := Int.mul_ediv_add_emod b (a % b)
            have h3 : 1 ≤ b / (a % b) := by
              have := Int.le_ediv_of_mul_le (a := 1) (b := b) (c := a % b) hr (by omega)
              exact this
            have h4 : (a % b) * 1 ≤ (a % b) * (b / (a % b)) := Int.mul_le_mul_of_nonneg_left h3 r0
            omega
          have hp : (2 : Int) ^ (m + 1) = 2 * 2 ^ m := by rw [Int.pow_succ]; omega
          refine gcd_loop hc hb m n (a % b) (b % (a % b)) r0 q0 ?_ (by omega)
          rw [hp] at hm
          omega
theorem log2_of {a p : Nat} (h : a < 2 ^ p) (hp : 0 < p) : a.log2 < p := by
  by_cases h0 : a = 0
  · subst h0; simpa using hp
  · exact (Nat.log2_lt h0).mpr h
theorem gcd_divOk {a b : Int} {m : Nat} (hb : b.natAbs < 2 ^ m) (hb0 : b ≠ 0) (hm : m ≤ 8000) : divOk (Int.gcd a b) = true := by
  have h1 : 0 < Int.gcd a b := Int.gcd_pos_of_ne_zero_right a hb0
  have h2 : Int.gcd a b ≤ b.natAbs := Nat.le_of_dvd (by omega) (Int.gcd_dvd_natAbs_right a b)
  have h4 : b.natAbs < 2 ^ 8001 := Nat.lt_of_lt_of_le hb (Nat.pow_le_pow_right (by decide) (by omega))
  have h3 : (Int.gcd a b).log2 < 8001 := log2_of (Nat.lt_of_le_of_lt h2 h4) (by decide)
  unfold divOk
  simp only [Bool.and_eq_true, decide_eq_true_eq, Int.natAbs_natCast]
  omega
theorem mulOk_of {i j : Int} {p q : Nat} (hi : i.natAbs < 2 ^ p) (hj : j.natAbs < 2 ^ q) (hp : 0 < p) (hq : 0 < q) (h : p + q ≤ 1000000) : mulOk i j = true := by
  have h1 := log2_of hi hp
  have h2 := log2_of hj hq
  unfold mulOk
  simp only [Bool.or_eq_true, decide_eq_true_eq]
  right; omega
end Ev
namespace Ev
open PySem (Str)
theorem abs_lt_pow {a : Int} {B : Nat} (h0 : 0 ≤ a) (h : a < 2 ^ B) : a.natAbs < 2 ^ B := by
  have e : ((a.natAbs : Nat) : Int) = a := by omega
  have : ((a.natAbs : Nat) : Int) < ((2 ^ B : Nat) : Int) := by rw [e, Int.natCast_pow]; exact h
  exact_mod_cast this
theorem abs_mul_lt {a b : Int} {p q : Nat} (ha : a.natAbs < 2 ^ p) (hb : b.natAbs < 2 ^ q) : (a * b).natAbs < 2 ^ (p + q) := by
  rw [Int.natAbs_mul, Nat.pow_add]
  exact Nat.mul_lt_mul'' ha hb
theorem abs_add_lt {a b : Int} {p : Nat} (ha : a.natAbs < 2 ^ p) (hb : b.natAbs < 2 ^ p) : (a + b).natAbs < 2 ^ (p + 1) := by
  have := Int.natAbs_add_le a b
  rw [Nat.pow_succ]; omega
theorem abs_mono {a : Int} {p q : Nat} (ha : a.natAbs < 2 ^ p) (h : p ≤ q) : a.natAbs < 2 ^ q := Nat.lt_of_lt_of_le ha (Nat.pow_le_pow_right (by decide) h)
/-- a fraction in lowest terms -/
def fr (q : Rat) : D := .tup [.int q.num, .int (q.den : Int)]
theorem low_fr {a b : Int} (hb : 0 < b) : D.tup [.int (a / (Int.gcd a b : Nat)), .int (b / (Int.gcd a b : Nat))] = fr ((a : Rat) / (b : Rat)) := by
  unfold fr
  rw [← Rat.divInt_eq_div, Rat.num_divInt, Rat.den_divInt, if_neg (by omega), Int.sign_eq_one_of_pos hb, Int.one_mul, Int.gcd_comm b a]
  have : ((b.natAbs / Int.gcd a b : Nat) : Int) = b / (Int.gcd a b : Nat) := by
    rw [Int.natCast_ediv]
    congr 1; omega
  rw [this]
theorem fr_inj {x y : Rat} (h : fr x = fr y) : x = y := by
  unfold fr at h
  simp only [D.tup.injEq, List.cons.injEq, D.int.injEq, and_true] at h
  exact Rat.ext h.1 (by exact_mod_cast h.2)
theorem den_pos (q : Rat) : 0 < (q.den : Int) := by have := q.den_pos; omega
theorem fr_div (q : Rat) : (q.num : Rat) / ((q.den : Int) : Rat) = q := by
  rw [← Rat.divInt_eq_div]; exact Rat.num_divInt_den q
/-- bits enough for both parts -/
def Sz (B : Nat) (q : Rat) : Prop := q.num.natAbs < 2 ^ B ∧ q.den < 2 ^ B
theorem Sz.mono {B B' : Nat} {q : Rat} (h : Sz B q) (hb : B ≤ B') : Sz B' q := ⟨abs_mono h.1 hb, Nat.lt_of_lt_of_le h.2 (Nat.pow_le_pow_right (by decide) hb)⟩
theorem Sz.den {B : Nat} {q : Rat} (h : Sz B q) : (q.den : Int).natAbs < 2 ^ B := by simpa using h.2
theorem Sz.pos {B : Nat} {q : Rat} (h : Sz B q) : 0 < B := by
  rcases Nat.eq_zero_or_pos B with rfl | hB
  · have := h.2; have := q.den_pos; omega
  · exact hB
/-- the size of a quotient -/
theorem Sz.of {a b : Int} {B : Nat} (hb : 0 < b) (ha : a.natAbs < 2 ^ B) (hb2 : b.natAbs < 2 ^ B) : Sz B ((a : Rat) / (b : Rat)) := by
  have h := low_fr (a := a) hb
  unfold fr at h
  simp only [D.tup.injEq, List.cons.injEq, D.int.injEq, and_true] at h
  have hg : 0 < Int.gcd a b := Int.gcd_pos_of_ne_zero_right a (by omega)
  refine ⟨?_, ?_⟩
  · rw [← h.1]
    have : (a / (Int.gcd a b : Nat)).natAbs ≤ a.natAbs := by
      rw [Int.natAbs_ediv_of_dvd (Int.gcd_dvd_left a b)]
      exact Nat.div_le_self _ _
    omega
  · have e : ((((a : Rat) / (b : Rat)).den : Nat) : Int) = b / (Int.gcd a b : Nat) := h.2.symm
    have h3 : b / (Int.gcd a b : Nat) ≤ b := Int.ediv_le_self _ (by omega)
    have h4 : ((b.natAbs : Nat) : Int) = b := by omega
    have h5 : (((a : Rat) / (b : Rat)).den : Int) ≤ (b.natAbs : Nat) := by omega
    have h6 : ((a : Rat) / (b : Rat)).den ≤ b.natAbs := by exact_mod_cast h5
    omega
theorem den_ne (q : Rat) : ((q.den : Int) : Rat) ≠ 0 := by have := q.den_nz; exact_mod_cast this
theorem mul_eq (x y : Rat) : ((x.num * y.num : Int) : Rat) / (((x.den : Int) * (y.den : Int) : Int) : Rat) = x * y := by
  have h1 := fr_div x
  have h2 := fr_div y
  have n1 := den_ne x
  have n2 := den_ne y
  rw [Rat.intCast_mul, Rat.intCast_mul]
  generalize ((x.den : Int) : Rat) = dx at *
  generalize ((y.den : Int) : Rat) = dy at *
  generalize ((x.num : Int) : Rat) = nx at *
  generalize ((y.num : Int) : Rat) = ny at *
  grind
theorem add_eq (x y : Rat) : ((x.num * (y.den : Int) + y.num * (x.den : Int) : Int) : Rat) / (((x.den : Int) * (y.den : Int) : Int) : Rat) = x + y := by
  have h1 := fr_div x
  have h2 := fr_div y
  have n1 := den_ne x
  have n2 := den_ne y
  rw [Rat.intCast_add, Rat.intCast_mul, Rat.intCast_mul, Rat.intCast_mul]
  generalize ((x.den : Int) : Rat) = dx at *
  generalize ((y.den : Int) : Rat) = dy at *
  generalize ((x.num : Int) : Rat) = nx at *
  generalize ((y.num : Int) : Rat) = ny at *
  grind
theorem Sz.mul {B C : Nat} {x y : Rat} (hx : Sz B x) (hy : Sz C y) : Sz (B + C) (x * y) := by
  rw [← mul_eq]
  exact Sz.of (Int.mul_pos (den_pos x) (den_pos y)) (abs_mul_lt hx.1 hy.1) (abs_mul_lt hx.den hy.den)
theorem Sz.add {B C : Nat} {x y : Rat} (hx : Sz B x) (hy : Sz C y) : Sz (B + C + 1) (x + y) := by
  rw [← add_eq]
  refine Sz.of (Int.mul_pos (den_pos x) (den_pos y)) (abs_add_lt (abs_mul_lt hx.1 hy.den) ?_) (abs_mono (abs_mul_lt hx.den hy.den) (by omega))
  rw [Nat.add_comm B C]
  exact abs_mul_lt hy.1 hx.den
theorem mulOk_sz {i j : Int} {p q : Nat} (hi : i.natAbs < 2 ^ p) (hj : j.natAbs < 2 ^ q) (h : p + q ≤ 500000) : mulOk i j = true :=
  mulOk_of (abs_mono hi (Nat.le_succ p)) (abs_mono hj (Nat.le_succ q)) (by omega) (by omega) (by omega)
theorem fr_items (q : Rat) : fr q = .tup [.int q.num, .int (q.den : Int)] := id rfl
theorem okD_fr (k : Nat) (q : Rat) : okD (k + 1) (fr q) = true := by simp [fr, okD, okL]
mutual
theorem eqD_refl : ∀ (k : Nat) (d : D), okD k d = true → eqD d d = true
  | _, .non, _ => rfl
  | _, .bl b, _ => by simp [eqD]
  | _, .int i, _ => by simp [eqD]
  | _, .str x, _ => by simp [eqD]
  | 0, .tup ds, h => by simp [okD] at h
  | 0, .lst ds, h => by simp [okD] at h
  | k + 1, .tup ds, h => by
    have := eqL_refl k ds (by simpa [okD] using h)
    simpa [eqD] using this
  | k + 1, .lst ds, h => by
    have := eqL_refl k ds (by simpa [okD] using h)
    simpa [eqD] using this
  | 0, .cel _, h => by simp [okD] at h
  | _ + 1, .cel _, h => by simp [okD] at h
  | 0, .fn _, h => by simp [okD] at h
  | _ + 1, .fn _, h => by simp [okD] at h
  | 0, .scr _, h => by simp [okD] at h
  | _ + 1, .scr _, h => by simp [okD] at h
theorem eqL_refl : ∀ (k : Nat) (ds : List D), okL k ds = true → eqL ds ds = true
  | _, [], _ => by simp [eqL]
  | k, d :: ds, h => by
    simp only [okL, Bool.and_eq_true] at h
    simp only [eqL, eqD_refl k d h.1, eqL_refl k ds h.2, Bool.and_self]
end
mutual
theorem der_ok {S : Store} : ∀ (k : Nat) (d : D), okD k d = true → der S d = d
  | _, .non, _ => by simp [der]
  | _, .bl b, _ => by simp [der]
  | _, .int i, _ => by simp [der]
  | _, .str x, _ => by simp [der]
  | 0, .tup ds, h => by simp [okD] at h
  | 0, .lst ds, h => by simp [okD] at h
  | k + 1, .tup ds, h => by
    have := derL_ok (S := S) k ds (by simpa [okD] using h)
    simp [der, this]
  | k + 1, .lst ds, h => by
    have := derL_ok (S := S) k ds (by simpa [okD] using h)
    simp [der, this]
  | 0, .cel _, h => by simp [okD] at h
  | _ + 1, .cel _, h => by simp [okD] at h
  | 0, .fn _, h => by simp [okD] at h
  | _ + 1, .fn _, h => by simp [okD] at h
  | 0, .scr _, h => by simp [okD] at h
  | _ + 1, .scr _, h => by simp [okD] at h
theorem derL_ok {S : Store} : ∀ (k : Nat) (ds : List D), okL k ds = true → derL S ds = ds
  | _, [], _ => by simp [derL]
  | k, d :: ds, h => by
    simp only [okL, Bool.and_eq_true] at h
    simp only [derL, der_ok k d h.1, derL_ok k ds h.2]
end
theorem c_ne_same {S : Store} {d : D} (h : okD 16 d = true) : cmpD S .ne d d = some false := by
  simp only [cmpD, der_ok 16 d h, h, Bool.and_self, if_true, eqD_refl 16 d h, Bool.not_true]
theorem c_eq_same {S : Store} {d : D} (h : okD 16 d = true) : cmpD S .eq d d = some true := by
  simp only [cmpD, der_ok 16 d h, h, Bool.and_self, if_true, eqD_refl 16 d h]
theorem okL_all {k : Nat} : ∀ {ds : List D}, (∀ d ∈ ds, okD k d = true) → okL k ds = true
  | [], _ => by simp [okL]
  | d :: ds, h => by
    simp only [okL, Bool.and_eq_true]
    exact ⟨h d List.mem_cons_self, okL_all fun x hx => h x (List.mem_cons_of_mem _ hx)⟩
end Ev
end
section
set_option Elab.async false
set_option linter.all false
set_option maxRecDepth 100000
set_option maxHeartbeats 0
namespace K10
open PySem PySem.Spec PyProof.Rows L2 Ev
def top (i : Nat) : Stmt := PySem.Challenge.pw_oddsuntold_k10_tables_of_odds.main.body.getD i (.Pass ⟨0, 0, 0, 0⟩)
def B_is_from : Ev.T := .cons (.ret (.and (.isi .int (.var 0)) (.and (.not (.isi .bool (.var 0))) (.one (.chain .le .le (.var 1) (.var 0) (.var 2)))))) .nil
def B_divisor : Ev.T := .cons (.par [0, 1] (.cons (.prim .abs (.cons (.var 0) .nil)) (.cons (.prim .abs (.cons (.var 1) .nil)) .nil))) (.cons (.loop (.cmp .ne (.var 1) (.int 0)) (.cons (.par [0, 1] (.cons (.var 1) (.cons (.bin .mod (.var 0) (.var 1)) .nil))) .nil)) (.cons (.ret (.var 0)) .nil))
def B_lowest : Ev.T := .cons (.asg (.tv 2) (.call 1 (.cons (.var 0) (.cons (.var 1) .nil)))) (.cons (.ret (.tup (.cons (.bin .fdiv (.var 0) (.var 2)) (.cons (.bin .fdiv (.var 1) (.var 2)) .nil)))) .nil)
def B_is_fraction : Ev.T := .cons (.ite (.or (.not (.isi .tuple (.var 0))) (.or (.cmp .ne (.prim .len (.cons (.var 0) .nil)) (.int 2)) (.one (.not (.prim .all (.cons (.comp false (.call 0 (.cons (.var 2) (.cons (.int 1) (.cons (.var 1) .nil)))) (.tv 2) (.one (.var 0)) (.bl true) [2]) .nil)))))) (.cons (.ret (.bl false)) .nil) (.nil)) (.cons (.ret (.cmp .eq (.call 1 (.cons (.ix (.var 0) (.int 0)) (.cons (.ix (.var 0) (.int 1)) .nil))) (.int 1))) .nil)
def B_all_pairs : Ev.T := .cons (.asg (.tv 1) (.lst false (.nil))) (.cons (.for_ (.tv 2) (.rng1 (.var 0)) (.cons (.asg (.tv 1) (.bin .add (.var 1) (.comp false (.tup (.cons (.var 2) (.cons (.var 3) .nil))) (.tv 3) (.one (.lrng2 (.bin .add (.var 2) (.int 1)) (.var 0))) (.bl true) [3]))) .nil)) (.cons (.ret (.var 1)) .nil))
def B_is_good_table : Ev.T := .cons (.ite (.or (.not (.isi .tuple (.var 1))) (.one (.cmp .ne (.prim .len (.cons (.var 1) .nil)) (.prim .len (.cons (.call 4 (.cons (.var 0) .nil)) .nil))))) (.cons (.ret (.bl false)) .nil) (.nil)) (.cons (.ret (.prim .all (.cons (.comp false (.call 3 (.cons (.var 2) (.cons (.bin .pow (.int 10) (.int 6)) .nil))) (.tv 2) (.one (.var 1)) (.bl true) [2]) .nil))) .nil)
def B_need_players : Ev.T := .cons (.ite (.not (.call 0 (.cons (.var 0) (.cons (.int 2) (.cons (.int 4) .nil))))) (.cons (.raise 1) .nil) (.nil)) .nil
def B_need_table : Ev.T := .cons (.expr (.call 6 (.cons (.var 0) .nil))) (.cons (.ite (.not (.call 5 (.cons (.var 0) (.cons (.var 1) .nil)))) (.cons (.raise 2) .nil) (.nil)) .nil)
def B_first_wrong : Ev.T := .cons (.asg (.tv 2) (.dz (.call 4 (.cons (.var 0) .nil)) (.var 1))) (.cons (.for_ (.tt (.cons (.tv 3) (.cons (.tv 4) .nil))) (.one (.call 4 (.cons (.var 0) .nil))) (.cons (.for_ (.tv 5) (.rng2 (.bin .add (.var 4) (.int 1)) (.var 0)) (.cons (.par [6, 7] (.cons (.dix (.var 2) (.cons (.var 3) (.cons (.var 4) .nil))) (.cons (.dix (.var 2) (.cons (.var 4) (.cons (.var 5) .nil))) .nil))) (.cons (.ite (.cmp .ne (.call 2 (.cons (.bin .mul (.ix (.var 6) (.int 0)) (.ix (.var 7) (.int 0))) (.cons (.bin .mul (.ix (.var 6) (.int 1)) (.ix (.var 7) (.int 1))) .nil))) (.dix (.var 2) (.cons (.var 3) (.cons (.var 5) .nil)))) (.cons (.ret (.tup (.cons (.var 3) (.cons (.var 4) (.cons (.var 5) .nil))))) .nil) (.nil)) .nil))) .nil)) (.cons (.ret (.non)) .nil))
def B_is_table : Ev.T := .cons (.expr (.call 6 (.cons (.var 0) .nil))) (.cons (.ret (.call 5 (.cons (.var 0) (.cons (.var 1) .nil)))) .nil)
def B_comes_from : Ev.T := .cons (.expr (.call 7 (.cons (.var 0) (.cons (.var 1) .nil)))) (.cons (.ret (.cmp .isN (.call 8 (.cons (.var 0) (.cons (.var 1) .nil))) (.non))) .nil)
def B_wrong_ring : Ev.T := .cons (.expr (.call 7 (.cons (.var 0) (.cons (.var 1) .nil)))) (.cons (.ret (.call 8 (.cons (.var 0) (.cons (.var 1) .nil)))) .nil)
def B_table_of : Ev.T := .cons (.asg (.tv 1) (.and (.isi .tuple (.var 0)) (.one (.chain .le .le (.int 2) (.prim .len (.cons (.var 0) .nil)) (.int 4))))) (.cons (.ite (.or (.not (.var 1)) (.one (.not (.prim .all (.cons (.comp false (.call 3 (.cons (.var 2) (.cons (.int 1000) .nil))) (.tv 2) (.one (.var 0)) (.bl true) [2]) .nil))))) (.cons (.raise 0) .nil) (.nil)) (.cons (.asg (.tv 3) (.tup (.nil))) (.cons (.for_ (.tt (.cons (.tv 4) (.cons (.tv 5) .nil))) (.one (.call 4 (.cons (.prim .len (.cons (.var 0) .nil)) .nil))) (.cons (.par [6, 7] (.cons (.ix (.var 0) (.var 4)) (.cons (.ix (.var 0) (.var 5)) .nil))) (.cons (.asg (.tv 3) (.bin .add (.var 3) (.tup (.cons (.call 2 (.cons (.bin .mul (.ix (.var 6) (.int 0)) (.ix (.var 7) (.int 1))) (.cons (.bin .mul (.ix (.var 6) (.int 1)) (.ix (.var 7) (.int 0))) .nil))) .nil)))) .nil))) (.cons (.ret (.var 3)) .nil))))
def B__law_tank : Ev.T := .cons (.asg (.tv 2) (.ife (.cmp .lt (.var 1) (.prim .len (.cons (.var 0) .nil))) (.prim .abs (.cons (.prim .int (.cons (.ix (.var 0) (.var 1)) .nil)) .nil)) (.bin .add (.bin .mul (.int 97) (.var 1)) (.int 59)))) (.cons (.ret (.lst true (.cons (.ife (.cmp .ge (.var 2) (.bin .pow (.int 10) (.int 18))) (.var 2) (.int 0)) (.cons (.bin .mod (.prim .int (.cons (.bin .add (.bin .add (.bin .mod (.prim .int (.cons (.var 2) .nil)) (.int 2147477971)) (.bin .mul (.int 60089) (.var 1))) (.int 503)) .nil)) (.int 2147477971)) .nil)))) .nil)
def B__law_sip : Ev.T := .cons (.ite (.cmp .gt (.ix (.var 0) (.int 0)) (.int 0)) (.cons (.asg (.tv 2) (.bin .mod (.prim .int (.cons (.ix (.var 0) (.int 0)) .nil)) (.var 1))) (.cons (.asg (.ts (.var 0) (.int 0)) (.bin .fdiv (.prim .int (.cons (.ix (.var 0) (.int 0)) .nil)) (.var 1))) (.cons (.ret (.var 2)) .nil))) (.nil)) (.cons (.asg (.ts (.var 0) (.int 1)) (.bin .mod (.prim .int (.cons (.bin .add (.bin .mul (.ix (.var 0) (.int 1)) (.int 49957)) (.int 4217)) .nil)) (.int 2147477971))) (.cons (.asg (.tv 3) (.bin .mod (.bin .mul (.prim .int (.cons (.ix (.var 0) (.int 1)) .nil)) (.bin .add (.bin .fdiv (.prim .int (.cons (.ix (.var 0) (.int 1)) .nil)) (.int 59)) (.int 41))) (.int 2147477969))) (.cons (.ret (.bin .mod (.prim .int (.cons (.bin .fdiv (.prim .int (.cons (.var 3) .nil)) (.int 27)) .nil)) (.var 1))) .nil)))
def B__law_low : Ev.T := .cons (.par [2, 3] (.cons (.var 0) (.cons (.var 1) .nil))) (.cons (.loop (.cmp .gt (.var 3) (.int 0)) (.cons (.par [2, 3] (.cons (.var 3) (.cons (.bin .mod (.var 2) (.var 3)) .nil))) .nil)) (.cons (.ret (.tup (.cons (.bin .fdiv (.var 0) (.var 2)) (.cons (.bin .fdiv (.var 1) (.var 2)) .nil)))) .nil))
def B__law_pairs : Ev.T := .cons (.asg (.tv 1) (.lst false (.nil))) (.cons (.for_ (.tv 2) (.rng1 (.var 0)) (.cons (.asg (.tv 1) (.bin .add (.var 1) (.comp false (.tup (.cons (.var 2) (.cons (.var 3) .nil))) (.tv 3) (.rng2 (.bin .add (.var 2) (.int 1)) (.var 0)) (.bl true) [3]))) .nil)) (.cons (.ret (.var 1)) .nil))
def B__law_due : Ev.T := .cons (.asg (.tv 2) (.dz (.call 16 (.cons (.var 0) .nil)) (.var 1))) (.cons (.for_ (.tt (.cons (.tv 3) (.cons (.tv 4) .nil))) (.one (.call 16 (.cons (.var 0) .nil))) (.cons (.for_ (.tv 5) (.rng2 (.bin .add (.var 4) (.int 1)) (.var 0)) (.cons (.par [6, 7, 8] (.cons (.dix (.var 2) (.cons (.var 3) (.cons (.var 4) .nil))) (.cons (.dix (.var 2) (.cons (.var 4) (.cons (.var 5) .nil))) (.cons (.dix (.var 2) (.cons (.var 3) (.cons (.var 5) .nil))) .nil)))) (.cons (.ite (.cmp .ne (.bin .mul (.bin .mul (.ix (.var 6) (.int 0)) (.ix (.var 7) (.int 0))) (.ix (.var 8) (.int 1))) (.bin .mul (.bin .mul (.ix (.var 6) (.int 1)) (.ix (.var 7) (.int 1))) (.ix (.var 8) (.int 0)))) (.cons (.ret (.tup (.cons (.var 3) (.cons (.var 4) (.cons (.var 5) .nil))))) .nil) (.nil)) .nil))) .nil)) (.cons (.ret (.non)) .nil))
def B__law_right : Ev.T := .cons (.par [2, 3] (.cons (.call 17 (.cons (.var 0) (.cons (.var 1) .nil))) (.cons (.call 10 (.cons (.var 0) (.cons (.var 1) .nil))) .nil))) (.cons (.ite (.or (.cmp .notN (.call 9 (.cons (.var 0) (.cons (.var 1) .nil))) (.bl true)) (.one (.cmp .ne (.call 11 (.cons (.var 0) (.cons (.var 1) .nil))) (.var 2)))) (.cons (.ret (.bl false)) .nil) (.nil)) (.cons (.ret (.and (.cmp .eq (.var 3) (.cmp .isN (.var 2) (.non))) (.one (.isi .bool (.var 3))))) .nil))
def B__law_against : Ev.T := .cons (.ret (.call 15 (.cons (.bin .mul (.ix (.ix (.var 0) (.var 1)) (.int 0)) (.ix (.ix (.var 0) (.var 2)) (.int 1))) (.cons (.bin .mul (.ix (.ix (.var 0) (.var 1)) (.int 1)) (.ix (.ix (.var 0) (.var 2)) (.int 0))) .nil)))) .nil
def B__law_none : Ev.T := .cons (.for_ (.tv 2) (.one (.lst false (.cons (.glob 0) (.cons (.glob 2) .nil)))) (.cons (.ite (.cmp .ne (.word 0 [(1, "number"), (2, "table"), (0, "strengths")] "none" (.callv 2 (.cons (.var 0) (.cons (.var 1) .nil)))) (.str "table")) (.cons (.ret (.bl false)) .nil) (.nil)) .nil)) (.cons (.ret (.cmp .isN (.call 9 (.cons (.var 0) (.cons (.var 1) .nil))) (.bl false))) .nil)
def B__law_refused : Ev.T := .cons (.for_ (.tv 0) (.one (.lst false (.cons (.non) (.cons (.int 1) (.cons (.int 5) (.cons (.bl true) (.cons (.str "3") .nil))))))) (.cons (.for_ (.tv 1) (.one (.lst false (.cons (.glob 1) (.cons (.glob 0) (.cons (.glob 2) .nil))))) (.cons (.ite (.cmp .ne (.word 0 [(1, "number"), (2, "table"), (0, "strengths")] "none" (.callv 1 (.cons (.var 0) (.cons (.non) .nil)))) (.str "number")) (.cons (.ret (.bl false)) .nil) (.nil)) .nil)) .nil)) (.cons (.for_ (.tv 0) (.one (.lst false (.cons (.non) (.cons (.tup (.nil)) (.cons (.tup (.cons (.tup (.cons (.int 1) (.cons (.int 1) .nil))) .nil)) (.cons (.bin .mul (.tup (.cons (.tup (.cons (.int 1) (.cons (.int 1) .nil))) .nil)) (.int 5)) (.cons (.lst false (.cons (.tup (.cons (.int 1) (.cons (.int 1) .nil))) (.cons (.tup (.cons (.int 1) (.cons (.int 1) .nil))) .nil))) (.cons (.tup (.cons (.tup (.cons (.int 1) (.cons (.int 1) .nil))) (.cons (.tup (.cons (.int 2) (.cons (.int 2) .nil))) .nil))) (.cons (.tup (.cons (.tup (.cons (.int 1001) (.cons (.int 1) .nil))) (.cons (.tup (.cons (.int 1) (.cons (.int 1) .nil))) .nil))) .nil))))))))) (.cons (.ite (.cmp .ne (.word 0 [(1, "number"), (2, "table"), (0, "strengths")] "none" (.call 12 (.cons (.var 0) .nil))) (.str "strengths")) (.cons (.ret (.bl false)) .nil) (.nil)) .nil)) (.cons (.ret (.bl true)) .nil))
def B_law : Ev.T := .cons (.for_ (.tv 1) (.rng1 (.prim .max (.cons (.int 5) (.cons (.prim .min (.cons (.int 16) (.cons (.bin .add (.prim .len (.cons (.var 0) .nil)) (.int 4)) .nil))) .nil)))) (.cons (.asg (.tv 2) (.call 13 (.cons (.var 0) (.cons (.var 1) .nil)))) (.cons (.for_ (.tv 3) (.rng1 (.int 6)) (.cons (.asg (.tv 4) (.bin .add (.int 2) (.call 14 (.cons (.var 2) (.cons (.int 3) .nil))))) (.cons (.asg (.tv 5) (.prim .tuple (.cons (.comp false (.call 15 (.cons (.bin .add (.int 1) (.call 14 (.cons (.var 2) (.cons (.int 30) .nil)))) (.cons (.bin .add (.int 1) (.call 14 (.cons (.var 2) (.cons (.int 12) .nil)))) .nil))) (.tv 6) (.rng1 (.var 4)) (.bl true) [6]) .nil))) (.cons (.asg (.tv 7) (.prim .tuple (.cons (.comp false (.call 19 (.cons (.var 5) (.cons (.var 8) (.cons (.var 9) .nil)))) (.tt (.cons (.tv 8) (.cons (.tv 9) .nil))) (.one (.call 16 (.cons (.var 4) .nil))) (.bl true) [8, 9]) .nil))) (.cons (.ite (.or (.cmp .ne (.call 12 (.cons (.var 5) .nil)) (.var 7)) (.one (.not (.call 18 (.cons (.var 4) (.cons (.var 7) .nil)))))) (.cons (.ret (.bl false)) .nil) (.nil)) (.cons (.asg (.tv 10) (.call 14 (.cons (.var 2) (.cons (.prim .len (.cons (.var 7) .nil)) .nil)))) (.cons (.asg (.tv 11) (.call 15 (.cons (.bin .add (.ix (.ix (.var 7) (.var 10)) (.int 0)) (.call 14 (.cons (.var 2) (.cons (.int 2) .nil)))) (.cons (.ix (.ix (.var 7) (.var 10)) (.int 1)) .nil)))) (.cons (.asg (.tv 12) (.bin .add (.bin .add (.sl (.var 7) (.nil) (.var 10)) (.tup (.cons (.var 11) .nil))) (.sl (.var 7) (.bin .add (.var 10) (.int 1)) (.nil)))) (.cons (.ite (.not (.call 18 (.cons (.var 4) (.cons (.var 12) .nil)))) (.cons (.ret (.bl false)) .nil) (.nil)) (.cons (.asg (.tv 13) (.sl (.var 7) (.nil) (.neg (.int 1)))) (.cons (.asg (.tv 14) (.lst false (.cons (.non) (.cons (.sl (.var 7) (.int 1) (.nil)) (.cons (.bin .add (.var 7) (.sl (.var 7) (.nil) (.int 1))) (.cons (.prim .list (.cons (.var 7) .nil)) (.cons (.bin .add (.var 13) (.tup (.cons (.tup (.cons (.int 2) (.cons (.int 4) .nil))) .nil))) (.cons (.bin .add (.var 13) (.tup (.cons (.tup (.cons (.int 0) (.cons (.int 1) .nil))) .nil))) .nil)))))))) (.cons (.for_ (.tv 15) (.one (.bin .add (.var 14) (.lst false (.cons (.bin .mul (.tup (.cons (.int 1) .nil)) (.prim .len (.cons (.var 7) .nil))) .nil)))) (.cons (.ite (.not (.call 20 (.cons (.var 4) (.cons (.var 15) .nil)))) (.cons (.ret (.bl false)) .nil) (.nil)) .nil)) .nil)))))))))))) .nil))) (.cons (.ite (.not (.call 21 (.nil))) (.cons (.ret (.bl false)) .nil) (.nil)) (.cons (.ite (.cmp .ne (.lst false (.cons (.call 9 (.cons (.int 3) (.cons (.tup (.cons (.tup (.cons (.int 2) (.cons (.int 1) .nil))) (.cons (.tup (.cons (.int 6) (.cons (.int 1) .nil))) (.cons (.tup (.cons (.int 3) (.cons (.int 1) .nil))) .nil)))) .nil))) (.cons (.call 9 (.cons (.int 3) (.cons (.tup (.cons (.tup (.cons (.int 2) (.cons (.int 1) .nil))) (.cons (.tup (.cons (.int 6) (.cons (.int 1) .nil))) .nil))) .nil))) .nil))) (.lst false (.cons (.bl true) (.cons (.bl false) .nil)))) (.cons (.ret (.bl false)) .nil) (.nil)) (.cons (.ite (.or (.cmp .notN (.call 10 (.cons (.int 3) (.cons (.tup (.cons (.tup (.cons (.int 2) (.cons (.int 1) .nil))) (.cons (.tup (.cons (.int 6) (.cons (.int 1) .nil))) (.cons (.tup (.cons (.int 3) (.cons (.int 1) .nil))) .nil)))) .nil))) (.bl true)) (.one (.cmp .notN (.call 11 (.cons (.int 2) (.cons (.tup (.cons (.tup (.cons (.int 7) (.cons (.int 3) .nil))) .nil)) .nil))) (.non)))) (.cons (.ret (.bl false)) .nil) (.nil)) (.cons (.ite (.cmp .ne (.call 11 (.cons (.int 4) (.cons (.tup (.cons (.tup (.cons (.int 2) (.cons (.int 1) .nil))) (.cons (.tup (.cons (.int 6) (.cons (.int 1) .nil))) (.cons (.tup (.cons (.int 1) (.cons (.int 1) .nil))) (.cons (.tup (.cons (.int 3) (.cons (.int 1) .nil))) (.cons (.tup (.cons (.int 1) (.cons (.int 2) .nil))) (.cons (.tup (.cons (.int 1) (.cons (.int 5) .nil))) .nil))))))) .nil))) (.tup (.cons (.int 0) (.cons (.int 2) (.cons (.int 3) .nil))))) (.cons (.ret (.bl false)) .nil) (.nil)) (.cons (.ite (.or (.cmp .notN (.call 9 (.cons (.int 2) (.cons (.tup (.cons (.tup (.cons (.bin .pow (.int 10) (.int 6)) (.cons (.int 1) .nil))) .nil)) .nil))) (.bl true)) (.one (.cmp .notN (.call 9 (.cons (.int 2) (.cons (.tup (.cons (.tup (.cons (.bin .add (.bin .pow (.int 10) (.int 6)) (.int 1)) (.cons (.int 1) .nil))) .nil)) .nil))) (.bl false)))) (.cons (.ret (.bl false)) .nil) (.nil)) (.cons (.ite (.cmp .ne (.call 11 (.cons (.int 3) (.cons (.tup (.cons (.tup (.cons (.int 2) (.cons (.int 1) .nil))) (.cons (.tup (.cons (.int 5) (.cons (.int 1) .nil))) (.cons (.tup (.cons (.int 3) (.cons (.int 1) .nil))) .nil)))) .nil))) (.tup (.cons (.int 0) (.cons (.int 1) (.cons (.int 2) .nil))))) (.cons (.ret (.bl false)) .nil) (.nil)) (.cons (.ret (.cmp .eq (.call 12 (.cons (.tup (.cons (.tup (.cons (.int 6) (.cons (.int 1) .nil))) (.cons (.tup (.cons (.int 3) (.cons (.int 1) .nil))) (.cons (.tup (.cons (.int 1) (.cons (.int 2) .nil))) .nil)))) .nil)) (.tup (.cons (.tup (.cons (.int 2) (.cons (.int 1) .nil))) (.cons (.tup (.cons (.int 12) (.cons (.int 1) .nil))) (.cons (.tup (.cons (.int 6) (.cons (.int 1) .nil))) .nil)))))) .nil)))))))
def fns : List Fn := [⟨3, 3, B_is_from⟩, ⟨2, 2, B_divisor⟩, ⟨2, 3, B_lowest⟩, ⟨2, 3, B_is_fraction⟩, ⟨1, 4, B_all_pairs⟩, ⟨2, 3, B_is_good_table⟩, ⟨1, 1, B_need_players⟩, ⟨2, 2, B_need_table⟩, ⟨2, 8, B_first_wrong⟩, ⟨2, 2, B_is_table⟩, ⟨2, 2, B_comes_from⟩, ⟨2, 2, B_wrong_ring⟩, ⟨1, 8, B_table_of⟩, ⟨2, 3, B__law_tank⟩, ⟨2, 4, B__law_sip⟩, ⟨2, 4, B__law_low⟩, ⟨1, 4, B__law_pairs⟩, ⟨2, 9, B__law_due⟩, ⟨2, 4, B__law_right⟩, ⟨3, 3, B__law_against⟩, ⟨2, 3, B__law_none⟩, ⟨0, 2, B__law_refused⟩, ⟨1, 16, B_law⟩]
def t_is_from : Txt := ⟨"is_from", [("value" : Str), ("low" : Str), ("high" : Str)], [("value" : Str), ("low" : Str), ("high" : Str)], defArgs (top 6), defBody (top 6), defScope (top 6), false⟩
def t_divisor : Txt := ⟨"divisor", [("one" : Str), ("other" : Str)], [("one" : Str), ("other" : Str)], defArgs (top 7), defBody (top 7), defScope (top 7), false⟩
def t_lowest : Txt := ⟨"lowest", [("top" : Str), ("below" : Str)], [("top" : Str), ("below" : Str), ("part" : Str)], defArgs (top 8), defBody (top 8), defScope (top 8), false⟩
def t_is_fraction : Txt := ⟨"is_fraction", [("value" : Str), ("most" : Str)], [("value" : Str), ("most" : Str), ("part" : Str)], defArgs (top 9), defBody (top 9), defScope (top 9), false⟩
def t_all_pairs : Txt := ⟨"all_pairs", [("players" : Str)], [("players" : Str), ("found" : Str), ("one" : Str), ("other" : Str)], defArgs (top 11), defBody (top 11), defScope (top 11), false⟩
def t_is_good_table : Txt := ⟨"is_good_table", [("players" : Str), ("value" : Str)], [("players" : Str), ("value" : Str), ("part" : Str)], defArgs (top 12), defBody (top 12), defScope (top 12), false⟩
def t_need_players : Txt := ⟨"need_players", [("value" : Str)], [("value" : Str)], defArgs (top 13), defBody (top 13), defScope (top 13), false⟩
def t_need_table : Txt := ⟨"need_table", [("players" : Str), ("value" : Str)], [("players" : Str), ("value" : Str)], defArgs (top 14), defBody (top 14), defScope (top 14), false⟩
def t_first_wrong : Txt := ⟨"first_wrong", [("players" : Str), ("value" : Str)], [("players" : Str), ("value" : Str), ("told" : Str), ("one" : Str), ("other" : Str), ("third" : Str), ("first" : Str), ("last" : Str)], defArgs (top 15), defBody (top 15), defScope (top 15), false⟩
def t_is_table : Txt := ⟨"is_table", [("players" : Str), ("value" : Str)], [("players" : Str), ("value" : Str)], defArgs (top 16), defBody (top 16), defScope (top 16), false⟩
def t_comes_from : Txt := ⟨"comes_from", [("players" : Str), ("table" : Str)], [("players" : Str), ("table" : Str)], defArgs (top 17), defBody (top 17), defScope (top 17), false⟩
def t_wrong_ring : Txt := ⟨"wrong_ring", [("players" : Str), ("table" : Str)], [("players" : Str), ("table" : Str)], defArgs (top 18), defBody (top 18), defScope (top 18), false⟩
def t_table_of : Txt := ⟨"table_of", [("strengths" : Str)], [("strengths" : Str), ("good" : Str), ("part" : Str), ("found" : Str), ("one" : Str), ("other" : Str), ("mine" : Str), ("yours" : Str)], defArgs (top 19), defBody (top 19), defScope (top 19), false⟩
def t__law_tank : Txt := ⟨"_law_tank", [("script" : Str), ("k" : Str)], [("script" : Str), ("k" : Str), ("cell" : Str)], defArgs (top 21), defBody (top 21), defScope (top 21), false⟩
def t__law_sip : Txt := ⟨"_law_sip", [("tank" : Str), ("wide" : Str)], [("tank" : Str), ("wide" : Str), ("found" : Str), ("stirred" : Str)], defArgs (top 22), defBody (top 22), defScope (top 22), false⟩
def t__law_low : Txt := ⟨"_law_low", [("top" : Str), ("below" : Str)], [("top" : Str), ("below" : Str), ("mine" : Str), ("yours" : Str)], defArgs (top 23), defBody (top 23), defScope (top 23), false⟩
def t__law_pairs : Txt := ⟨"_law_pairs", [("many" : Str)], [("many" : Str), ("found" : Str), ("one_so" : Str), ("two_so" : Str)], defArgs (top 24), defBody (top 24), defScope (top 24), false⟩
def t__law_due : Txt := ⟨"_law_due", [("many" : Str), ("told" : Str)], [("many" : Str), ("told" : Str), ("known" : Str), ("one_so" : Str), ("two_so" : Str), ("three_so" : Str), ("mine" : Str), ("yours" : Str), ("both" : Str)], defArgs (top 25), defBody (top 25), defScope (top 25), false⟩
def t__law_right : Txt := ⟨"_law_right", [("many" : Str), ("told" : Str)], [("many" : Str), ("told" : Str), ("due" : Str), ("found" : Str)], defArgs (top 27), defBody (top 27), defScope (top 27), false⟩
def t__law_against : Txt := ⟨"_law_against", [("told" : Str), ("first" : Str), ("last" : Str)], [("told" : Str), ("first" : Str), ("last" : Str)], defArgs (top 28), defBody (top 28), defScope (top 28), false⟩
def t__law_none : Txt := ⟨"_law_none", [("many" : Str), ("odd" : Str)], [("many" : Str), ("odd" : Str), ("call" : Str)], defArgs (top 29), defBody (top 29), defScope (top 29), true⟩
def t__law_refused : Txt := ⟨"_law_refused", [], [("odd" : Str), ("call" : Str)], defArgs (top 30), defBody (top 30), defScope (top 30), true⟩
def t_law : Txt := ⟨"law", [("script" : Str)], [("script" : Str), ("k" : Str), ("tank" : Str), ("turn" : Str), ("many" : Str), ("told" : Str), ("player" : Str), ("due" : Str), ("first" : Str), ("last" : Str), ("at" : Str), ("new" : Str), ("late" : Str), ("less" : Str), ("odds_so" : Str), ("odd" : Str)], defArgs (top 31), defBody (top 31), defScope (top 31), false⟩
def t__law_word : Txt := ⟨"_law_word", [("call" : Str)], [("call" : Str)], defArgs (top 26), defBody (top 26), defScope (top 26), false⟩
def ws : List Wt := [⟨t__law_word, [(1, "number"), (2, "table"), (0, "strengths")], "none"⟩]
def ts : List Txt := [t_is_from, t_divisor, t_lowest, t_is_fraction, t_all_pairs, t_is_good_table, t_need_players, t_need_table, t_first_wrong, t_is_table, t_comes_from, t_wrong_ring, t_table_of, t__law_tank, t__law_sip, t__law_low, t__law_pairs, t__law_due, t__law_right, t__law_against, t__law_none, t__law_refused, t_law]
def xs : List Str := (["InvalidStrengths", "InvalidNumber", "InvalidTable"] : List Str)
def gs : List Str := (["comes_from", "is_table", "wrong_ring"] : List Str)
def gl : List Nat := [10, 9, 11]
def glob : Nat → Option Ev.D := fun g => (gl[g]?).map Ev.D.fn
def prg : Prg := ⟨fns, glob, 100000⟩
end K10
end
section
set_option Elab.async false
set_option linter.all false
set_option maxRecDepth 100000
set_option maxHeartbeats 0
namespace K10
open PySem PySem.Spec PyProof.Rows L2 Ev
theorem chk : chkP (nms ts gs xs ws) ts prg.fns = true := by decide +kernel
theorem chkw : ws.all (chkW fun c => xs[c]?) = true := by decide +kernel
theorem chkg : chkGl ts gs gl = true := by decide +kernel
theorem b_is_from : BindsAll t_is_from := fun _ _ _ _ _ _ us hl => match us, hl with | [_, _, _], _ => rfl
theorem b_divisor : BindsAll t_divisor := fun _ _ _ _ _ _ us hl => match us, hl with | [_, _], _ => rfl
theorem b_lowest : BindsAll t_lowest := fun _ _ _ _ _ _ us hl => match us, hl with | [_, _], _ => rfl
theorem b_is_fraction : BindsAll t_is_fraction := fun _ _ _ _ _ _ us hl => match us, hl with | [_, _], _ => rfl
theorem b_all_pairs : BindsAll t_all_pairs := fun _ _ _ _ _ _ us hl => match us, hl with | [_], _ => rfl
theorem b_is_good_table : BindsAll t_is_good_table := fun _ _ _ _ _ _ us hl => match us, hl with | [_, _], _ => rfl
theorem b_need_players : BindsAll t_need_players := fun _ _ _ _ _ _ us hl => match us, hl with | [_], _ => rfl
theorem b_need_table : BindsAll t_need_table := fun _ _ _ _ _ _ us hl => match us, hl with | [_, _], _ => rfl
theorem b_first_wrong : BindsAll t_first_wrong := fun _ _ _ _ _ _ us hl => match us, hl with | [_, _], _ => rfl
theorem b_is_table : BindsAll t_is_table := fun _ _ _ _ _ _ us hl => match us, hl with | [_, _], _ => rfl
theorem b_comes_from : BindsAll t_comes_from := fun _ _ _ _ _ _ us hl => match us, hl with | [_, _], _ => rfl
theorem b_wrong_ring : BindsAll t_wrong_ring := fun _ _ _ _ _ _ us hl => match us, hl with | [_, _], _ => rfl
theorem b_table_of : BindsAll t_table_of := fun _ _ _ _ _ _ us hl => match us, hl with | [_], _ => rfl
theorem b__law_tank : BindsAll t__law_tank := fun _ _ _ _ _ _ us hl => match us, hl with | [_, _], _ => rfl
theorem b__law_sip : BindsAll t__law_sip := fun _ _ _ _ _ _ us hl => match us, hl with | [_, _], _ => rfl
theorem b__law_low : BindsAll t__law_low := fun _ _ _ _ _ _ us hl => match us, hl with | [_, _], _ => rfl
theorem b__law_pairs : BindsAll t__law_pairs := fun _ _ _ _ _ _ us hl => match us, hl with | [_], _ => rfl
theorem b__law_due : BindsAll t__law_due := fun _ _ _ _ _ _ us hl => match us, hl with | [_, _], _ => rfl
theorem b__law_right : BindsAll t__law_right := fun _ _ _ _ _ _ us hl => match us, hl with | [_, _], _ => rfl
theorem b__law_against : BindsAll t__law_against := fun _ _ _ _ _ _ us hl => match us, hl with | [_, _, _], _ => rfl
theorem b__law_none : BindsAll t__law_none := fun _ _ _ _ _ _ us hl => match us, hl with | [_, _], _ => rfl
theorem b__law_refused : BindsAll t__law_refused := fun _ _ _ _ _ _ us hl => match us, hl with | [], _ => rfl
theorem b_law : BindsAll t_law := fun _ _ _ _ _ _ us hl => match us, hl with | [_], _ => rfl
theorem b__law_word : BindsAll t__law_word := fun _ _ _ _ _ _ us hl => match us, hl with | [_], _ => rfl
theorem binds : ∀ t ∈ ts, BindsAll t := by
  unfold ts
  refine List.forall_mem_cons.2 ⟨b_is_from, ?_⟩
  refine List.forall_mem_cons.2 ⟨b_divisor, ?_⟩
  refine List.forall_mem_cons.2 ⟨b_lowest, ?_⟩
  refine List.forall_mem_cons.2 ⟨b_is_fraction, ?_⟩
  refine List.forall_mem_cons.2 ⟨b_all_pairs, ?_⟩
  refine List.forall_mem_cons.2 ⟨b_is_good_table, ?_⟩
  refine List.forall_mem_cons.2 ⟨b_need_players, ?_⟩
  refine List.forall_mem_cons.2 ⟨b_need_table, ?_⟩
  refine List.forall_mem_cons.2 ⟨b_first_wrong, ?_⟩
  refine List.forall_mem_cons.2 ⟨b_is_table, ?_⟩
  refine List.forall_mem_cons.2 ⟨b_comes_from, ?_⟩
  refine List.forall_mem_cons.2 ⟨b_wrong_ring, ?_⟩
  refine List.forall_mem_cons.2 ⟨b_table_of, ?_⟩
  refine List.forall_mem_cons.2 ⟨b__law_tank, ?_⟩
  refine List.forall_mem_cons.2 ⟨b__law_sip, ?_⟩
  refine List.forall_mem_cons.2 ⟨b__law_low, ?_⟩
  refine List.forall_mem_cons.2 ⟨b__law_pairs, ?_⟩
  refine List.forall_mem_cons.2 ⟨b__law_due, ?_⟩
  refine List.forall_mem_cons.2 ⟨b__law_right, ?_⟩
  refine List.forall_mem_cons.2 ⟨b__law_against, ?_⟩
  refine List.forall_mem_cons.2 ⟨b__law_none, ?_⟩
  refine List.forall_mem_cons.2 ⟨b__law_refused, ?_⟩
  refine List.forall_mem_cons.2 ⟨b_law, ?_⟩
  exact fun _ h => absurd h List.not_mem_nil
theorem bindsw : ∀ u ∈ ws, BindsAll u.t := by
  unfold ws
  refine List.forall_mem_cons.2 ⟨b__law_word, ?_⟩
  exact fun _ h => absurd h List.not_mem_nil
abbrev Rw : PySem.W.OpenRow := PySem.W.OpenLaw.row PySem.Challenge.rw_oddsuntold_k10_tables_of_odds
abbrev hk : PySem.W.Hook := He.hookX 4 (faOf ((allT ts ws).map (·.x)) xs bltNames) ((allT ts ws).map Txt.dd) [] (lamOf ts) (exB ts)
def ob (s : PySem.W.SharedT) : He.AlX := He.obsX 4 (faOf ((allT ts ws).map (·.x)) xs bltNames) ((allT ts ws).map Txt.dd) [] (lamOf ts) (exB ts) (HandSHeadRun.getT s)
theorem ob_eq (s : PySem.W.SharedT) : ob s = hk.obs s.abs := He.obsX_eq (HandSHeadRun.getT_eq s)
def loose : List Str := (["OddsError", "InvalidStrengths", "InvalidNumber", "InvalidTable", "is_from", "divisor", "lowest", "is_fraction", "all_pairs", "is_good_table", "need_players", "need_table", "first_wrong", "is_table", "comes_from", "wrong_ring", "table_of", "_law_tank", "_law_sip", "_law_low", "_law_pairs", "_law_due", "_law_word", "_law_right", "_law_against", "_law_none", "_law_refused"] : List Str)
theorem run (w : World) : HandSHeadRun.RunEq Rw (PySem.W.view Rw.prog [31]) hk ob 4000 loose w := by
  intro os
  kernel_rfl
end K10
open PySem PySem.W PySem.Calls PyProof.Rows
theorem K10.holds_of (hrun : ∀ ns : List Int, ns.length ≤ 63 → ∃ S, K10.prg.run 20 22 [.scr ns] [] = .ok (.bl true) S) : PySem.Challenge.rw_oddsuntold_k10_tables_of_odds.Holds := by
  w_on; o_law
  refine HandSHeadRun.head_any (r := OpenLaw.row PySem.Challenge.rw_oddsuntold_k10_tables_of_odds) (q := view (OpenLaw.row PySem.Challenge.rw_oddsuntold_k10_tables_of_odds).prog [31]) (H := K10.hk) (ob := K10.ob) (M := 4000) (loose := K10.loose) (d := HandSHeadRun.topDef (OpenLaw.row PySem.Challenge.rw_oddsuntold_k10_tables_of_odds).prog 31) (kwd := []) K10.ob_eq
    (by kernel_rfl) (fun s => by kernel_rfl) K10.run (by kernel_rfl) (by kernel_rfl) (by kernel_rfl) (by rfl) (by first | assumption | decide +kernel) (by decide +kernel) ⟨rfl, rfl, rfl, rfl, rfl, by decide +kernel⟩ ?hw ?hc
  case hw => w_witness2
  case hc =>
    refine Ev.law_of (l := PySem.Challenge.rw_oddsuntold_k10_tables_of_odds) (n := 63) (k := 20) (i := 22) (t := K10.t_law) (p := K10.prg) (xs := K10.xs) (gs := K10.gs) (ts := K10.ts) (ws := K10.ws) rfl (by decide) (by kernel_rfl) ⟨rfl, by decide, by decide⟩ (by kernel_rfl) rfl K10.chk K10.binds rfl K10.chkw K10.bindsw ?hg hrun
    exact fun K h mg X G c => Ev.glob_fns X G c (gl := K10.gl) rfl K10.chkg
end
section
set_option Elab.async false
set_option linter.all false
set_option maxRecDepth 100000
set_option maxHeartbeats 1000000
set_option exponentiation.threshold 100000
namespace K10
open Ev
open PySem (Str)
/-- what a def sees, k calls deep -/
def GL (k : Nat) : Glb := ⟨prg.run k, glob, 100000, fns.length, 4 * k⟩
theorem GL_call (k : Nat) : (GL k).call = prg.run k := id rfl
theorem GL_glob (k : Nat) : (GL k).glob = glob := id rfl
theorem GL_fuel (k : Nat) : (GL k).fuel = 100000 := id rfl
theorem GL_nf (k : Nat) : (GL k).nf = fns.length := id rfl
/-- a def is run -/
theorem run_succ (k i : Nat) (F : Fn) (h : fns[i]? = some F) : prg.run (k + 1) i = F.run (GL k) := by
  simp only [Prg.run, prg, h, GL]
def isFrom (v : Ev.D) (lo hi : Int) : Bool := match v with
  | .int i => decide (lo ≤ i) && decide (i ≤ hi)
  | _ => false
theorem is_from_run (k : Nat) (S : Store) (v : Ev.D) (lo hi : Int) (h : isDat v = true) : prg.run (k + 1) 0 [v, .int lo, .int hi] S = .ok (.bl (isFrom v lo hi)) S := by
  rw [run_succ k 0 _ rfl, fn_run _ rfl]
  cases v with
  | fn _ => cases h
  | cel _ => cases h
  | scr _ => cases h
  | int i =>
    simp only [B_is_from, s_cons, s_nil, s_ret', s_ite', s_asg', s_par', s_asgc', s_expr', s_raise', s_loop', s_for', s_app', g_tv', g_tt', gs_nil', gs_cons', g_ts', i_one', i_rng1', i_rng2', i_rng3', i_enum', enumI_lst, enumI_tup, i_zip', e_var, e_int, e_str, e_bl, e_non, e_bin, e_neg, e_not, e_cmp, e_chain, e_and, e_or, e_one, e_ife, e_tup, e_lst, e_ix, e_call, e_prim, e_isi, e_comp, e_sl, e_rev, e_upper, e_rep, e_dnew, e_dz, e_dix, e_din, e_lrng1, e_lrng2, e_word, w_ok, s_dset', GL_call, GL_glob, GL_fuel, GL_nf, optE_nil, optE_int, optE_neg, optE_var, optE_bin, a_nil', a_cons', end_nx, end_rt, fl_nx, fl_rt, trunc_same, tst_bl, getV0, getVs, R.bind_ok, R.bind_exc, R.bind_bad, R.ofO_some, R.ofO_none, view_int, view_bl, view_str, view_non, view_tup, view_lst, view_scr, isTy, b_add, b_addT, b_addL, b_sub, b_mul, b_mulT, b_fdiv, b_mod, b_addB, b_subB, b_mulB, pow12, pow18, pow31, pow6, c_eq3, c_lt, c_le, c_gt, c_ge, c_isN, c_notN, c_isB, c_notB, c_eqI, c_neI, t_bl, t_int, t_non, t_tup, t_lst, p_len_t, p_len_l, p_abs, p_int, p_all, p_any, p_tupL, p_tupT, p_lstT, p_lstL, p_max2, p_min2, x_tup, x_lst, n_int, it_tup, it_lst, sl_tup, sl_lst, at0, at1, at2, sl1, sl2, zipI, mkC_ok, mkL_f, w_nil, w_cons, bs_nil, bs_cons, List.all_cons, List.all_nil, id_eq, Bool.and_true, Bool.and_self, Bool.false_and, Bool.and_false, Bool.or_false, Bool.false_or, Bool.true_and, Bool.or_true, Bool.true_or, List.zipWith_cons_cons, List.zipWith_nil_right, List.zipWith_nil_left, decide_true, decide_false, l0, l1, l2, l3, if_true, List.reverse_cons, List.reverse_nil, nn_non, nn_int, nn_bl, nn_str, nn_tup, nn_lst, tlen, ite_and, ite_and', ite_or, Option.map_some, List.map_cons, List.map_nil, List.length_cons, List.length_nil, List.cons_append, List.nil_append, List.replicate, List.set_cons_zero, List.set_cons_succ, Nat.reduceSub, Nat.reduceAdd, Nat.reduceLeDiff, Nat.zero_le, Bool.not_true, Bool.not_false, ↓reduceIte, Bool.false_eq_true, isFrom]
  | _ => simp only [B_is_from, s_cons, s_nil, s_ret', s_ite', s_asg', s_par', s_asgc', s_expr', s_raise', s_loop', s_for', s_app', g_tv', g_tt', gs_nil', gs_cons', g_ts', i_one', i_rng1', i_rng2', i_rng3', i_enum', enumI_lst, enumI_tup, i_zip', e_var, e_int, e_str, e_bl, e_non, e_bin, e_neg, e_not, e_cmp, e_chain, e_and, e_or, e_one, e_ife, e_tup, e_lst, e_ix, e_call, e_prim, e_isi, e_comp, e_sl, e_rev, e_upper, e_rep, e_dnew, e_dz, e_dix, e_din, e_lrng1, e_lrng2, e_word, w_ok, s_dset', GL_call, GL_glob, GL_fuel, GL_nf, optE_nil, optE_int, optE_neg, optE_var, optE_bin, a_nil', a_cons', end_nx, end_rt, fl_nx, fl_rt, trunc_same, tst_bl, getV0, getVs, R.bind_ok, R.bind_exc, R.bind_bad, R.ofO_some, R.ofO_none, view_int, view_bl, view_str, view_non, view_tup, view_lst, view_scr, isTy, b_add, b_addT, b_addL, b_sub, b_mul, b_mulT, b_fdiv, b_mod, b_addB, b_subB, b_mulB, pow12, pow18, pow31, pow6, c_eq3, c_lt, c_le, c_gt, c_ge, c_isN, c_notN, c_isB, c_notB, c_eqI, c_neI, t_bl, t_int, t_non, t_tup, t_lst, p_len_t, p_len_l, p_abs, p_int, p_all, p_any, p_tupL, p_tupT, p_lstT, p_lstL, p_max2, p_min2, x_tup, x_lst, n_int, it_tup, it_lst, sl_tup, sl_lst, at0, at1, at2, sl1, sl2, zipI, mkC_ok, mkL_f, w_nil, w_cons, bs_nil, bs_cons, List.all_cons, List.all_nil, id_eq, Bool.and_true, Bool.and_self, Bool.false_and, Bool.and_false, Bool.or_false, Bool.false_or, Bool.true_and, Bool.or_true, Bool.true_or, List.zipWith_cons_cons, List.zipWith_nil_right, List.zipWith_nil_left, decide_true, decide_false, l0, l1, l2, l3, if_true, List.reverse_cons, List.reverse_nil, nn_non, nn_int, nn_bl, nn_str, nn_tup, nn_lst, tlen, ite_and, ite_and', ite_or, Option.map_some, List.map_cons, List.map_nil, List.length_cons, List.length_nil, List.cons_append, List.nil_append, List.replicate, List.set_cons_zero, List.set_cons_succ, Nat.reduceSub, Nat.reduceAdd, Nat.reduceLeDiff, Nat.zero_le, Bool.not_true, Bool.not_false, ↓reduceIte, Bool.false_eq_true, isFrom]
theorem divisor_run (k m : Nat) (S : Store) (a b : Int) (hb : b.natAbs < 2 ^ m) (hm : m ≤ 40000) : prg.run (k + 1) 1 [.int a, .int b] S = .ok (.int (Int.gcd a b)) S := by
  rw [run_succ k 1 _ rfl, fn_run _ rfl]
  simp only [B_divisor, s_cons, s_nil, s_ret', s_ite', s_asg', s_par', s_asgc', s_expr', s_raise', s_loop', s_for', s_app', g_tv', g_tt', gs_nil', gs_cons', g_ts', i_one', i_rng1', i_rng2', i_rng3', i_enum', enumI_lst, enumI_tup, i_zip', e_var, e_int, e_str, e_bl, e_non, e_bin, e_neg, e_not, e_cmp, e_chain, e_and, e_or, e_one, e_ife, e_tup, e_lst, e_ix, e_call, e_prim, e_isi, e_comp, e_sl, e_rev, e_upper, e_rep, e_dnew, e_dz, e_dix, e_din, e_lrng1, e_lrng2, e_word, w_ok, s_dset', GL_call, GL_glob, GL_fuel, GL_nf, optE_nil, optE_int, optE_neg, optE_var, optE_bin, a_nil', a_cons', end_nx, end_rt, fl_nx, fl_rt, trunc_same, tst_bl, getV0, getVs, R.bind_ok, R.bind_exc, R.bind_bad, R.ofO_some, R.ofO_none, view_int, view_bl, view_str, view_non, view_tup, view_lst, view_scr, isTy, b_add, b_addT, b_addL, b_sub, b_mul, b_mulT, b_fdiv, b_mod, b_addB, b_subB, b_mulB, pow12, pow18, pow31, pow6, c_eq3, c_lt, c_le, c_gt, c_ge, c_isN, c_notN, c_isB, c_notB, c_eqI, c_neI, t_bl, t_int, t_non, t_tup, t_lst, p_len_t, p_len_l, p_abs, p_int, p_all, p_any, p_tupL, p_tupT, p_lstT, p_lstL, p_max2, p_min2, x_tup, x_lst, n_int, it_tup, it_lst, sl_tup, sl_lst, at0, at1, at2, sl1, sl2, zipI, mkC_ok, mkL_f, w_nil, w_cons, bs_nil, bs_cons, List.all_cons, List.all_nil, id_eq, Bool.and_true, Bool.and_self, Bool.false_and, Bool.and_false, Bool.or_false, Bool.false_or, Bool.true_and, Bool.or_true, Bool.true_or, List.zipWith_cons_cons, List.zipWith_nil_right, List.zipWith_nil_left, decide_true, decide_false, l0, l1, l2, l3, if_true, List.reverse_cons, List.reverse_nil, nn_non, nn_int, nn_bl, nn_str, nn_tup, nn_lst, tlen, ite_and, ite_and', ite_or, Option.map_some, List.map_cons, List.map_nil, List.length_cons, List.length_nil, List.cons_append, List.nil_append, List.replicate, List.set_cons_zero, List.set_cons_succ, Nat.reduceSub, Nat.reduceAdd, Nat.reduceLeDiff, Nat.zero_le, Bool.not_true, Bool.not_false, ↓reduceIte, Bool.false_eq_true]
  have ea : (if a < 0 then -a else a) = (a.natAbs : Int) := by split <;> omega
  have eb : (if b < 0 then -b else b) = (b.natAbs : Int) := by split <;> omega
  rw [ea, eb, gcd_loop (env := fun a b => [some (.int a), some (.int b)]) (fun a b _ => ?_) (fun a b h1 h2 => ?_) m 100000 (a.natAbs) (b.natAbs) (by omega) (by omega) (by exact_mod_cast hb) (by omega)]
  · simp only [s_cons, s_nil, s_ret', s_ite', s_asg', s_par', s_asgc', s_expr', s_raise', s_loop', s_for', s_app', g_tv', g_tt', gs_nil', gs_cons', g_ts', i_one', i_rng1', i_rng2', i_rng3', i_enum', enumI_lst, enumI_tup, i_zip', e_var, e_int, e_str, e_bl, e_non, e_bin, e_neg, e_not, e_cmp, e_chain, e_and, e_or, e_one, e_ife, e_tup, e_lst, e_ix, e_call, e_prim, e_isi, e_comp, e_sl, e_rev, e_upper, e_rep, e_dnew, e_dz, e_dix, e_din, e_lrng1, e_lrng2, e_word, w_ok, s_dset', GL_call, GL_glob, GL_fuel, GL_nf, optE_nil, optE_int, optE_neg, optE_var, optE_bin, a_nil', a_cons', end_nx, end_rt, fl_nx, fl_rt, trunc_same, tst_bl, getV0, getVs, R.bind_ok, R.bind_exc, R.bind_bad, R.ofO_some, R.ofO_none, view_int, view_bl, view_str, view_non, view_tup, view_lst, view_scr, isTy, b_add, b_addT, b_addL, b_sub, b_mul, b_mulT, b_fdiv, b_mod, b_addB, b_subB, b_mulB, pow12, pow18, pow31, pow6, c_eq3, c_lt, c_le, c_gt, c_ge, c_isN, c_notN, c_isB, c_notB, c_eqI, c_neI, t_bl, t_int, t_non, t_tup, t_lst, p_len_t, p_len_l, p_abs, p_int, p_all, p_any, p_tupL, p_tupT, p_lstT, p_lstL, p_max2, p_min2, x_tup, x_lst, n_int, it_tup, it_lst, sl_tup, sl_lst, at0, at1, at2, sl1, sl2, zipI, mkC_ok, mkL_f, w_nil, w_cons, bs_nil, bs_cons, List.all_cons, List.all_nil, id_eq, Bool.and_true, Bool.and_self, Bool.false_and, Bool.and_false, Bool.or_false, Bool.false_or, Bool.true_and, Bool.or_true, Bool.true_or, List.zipWith_cons_cons, List.zipWith_nil_right, List.zipWith_nil_left, decide_true, decide_false, l0, l1, l2, l3, if_true, List.reverse_cons, List.reverse_nil, nn_non, nn_int, nn_bl, nn_str, nn_tup, nn_lst, tlen, ite_and, ite_and', ite_or, Option.map_some, List.map_cons, List.map_nil, List.length_cons, List.length_nil, List.cons_append, List.nil_append, List.replicate, List.set_cons_zero, List.set_cons_succ, Nat.reduceSub, Nat.reduceAdd, Nat.reduceLeDiff, Nat.zero_le, Bool.not_true, Bool.not_false, ↓reduceIte, Bool.false_eq_true]
    simp [Int.gcd]
  · simp only [cnd_eq, s_cons, s_nil, s_ret', s_ite', s_asg', s_par', s_asgc', s_expr', s_raise', s_loop', s_for', s_app', g_tv', g_tt', gs_nil', gs_cons', g_ts', i_one', i_rng1', i_rng2', i_rng3', i_enum', enumI_lst, enumI_tup, i_zip', e_var, e_int, e_str, e_bl, e_non, e_bin, e_neg, e_not, e_cmp, e_chain, e_and, e_or, e_one, e_ife, e_tup, e_lst, e_ix, e_call, e_prim, e_isi, e_comp, e_sl, e_rev, e_upper, e_rep, e_dnew, e_dz, e_dix, e_din, e_lrng1, e_lrng2, e_word, w_ok, s_dset', GL_call, GL_glob, GL_fuel, GL_nf, optE_nil, optE_int, optE_neg, optE_var, optE_bin, a_nil', a_cons', end_nx, end_rt, fl_nx, fl_rt, trunc_same, tst_bl, getV0, getVs, R.bind_ok, R.bind_exc, R.bind_bad, R.ofO_some, R.ofO_none, view_int, view_bl, view_str, view_non, view_tup, view_lst, view_scr, isTy, b_add, b_addT, b_addL, b_sub, b_mul, b_mulT, b_fdiv, b_mod, b_addB, b_subB, b_mulB, pow12, pow18, pow31, pow6, c_eq3, c_lt, c_le, c_gt, c_ge, c_isN, c_notN, c_isB, c_notB, c_eqI, c_neI, t_bl, t_int, t_non, t_tup, t_lst, p_len_t, p_len_l, p_abs, p_int, p_all, p_any, p_tupL, p_tupT, p_lstT, p_lstL, p_max2, p_min2, x_tup, x_lst, n_int, it_tup, it_lst, sl_tup, sl_lst, at0, at1, at2, sl1, sl2, zipI, mkC_ok, mkL_f, w_nil, w_cons, bs_nil, bs_cons, List.all_cons, List.all_nil, id_eq, Bool.and_true, Bool.and_self, Bool.false_and, Bool.and_false, Bool.or_false, Bool.false_or, Bool.true_and, Bool.or_true, Bool.true_or, List.zipWith_cons_cons, List.zipWith_nil_right, List.zipWith_nil_left, decide_true, decide_false, l0, l1, l2, l3, if_true, List.reverse_cons, List.reverse_nil, nn_non, nn_int, nn_bl, nn_str, nn_tup, nn_lst, tlen, ite_and, ite_and', ite_or, Option.map_some, List.map_cons, List.map_nil, List.length_cons, List.length_nil, List.cons_append, List.nil_append, List.replicate, List.set_cons_zero, List.set_cons_succ, Nat.reduceSub, Nat.reduceAdd, Nat.reduceLeDiff, Nat.zero_le, Bool.not_true, Bool.not_false, ↓reduceIte, Bool.false_eq_true]
    by_cases h : a = 0 <;> simp
  · simp only [s_cons, s_nil, s_ret', s_ite', s_asg', s_par', s_asgc', s_expr', s_raise', s_loop', s_for', s_app', g_tv', g_tt', gs_nil', gs_cons', g_ts', i_one', i_rng1', i_rng2', i_rng3', i_enum', enumI_lst, enumI_tup, i_zip', e_var, e_int, e_str, e_bl, e_non, e_bin, e_neg, e_not, e_cmp, e_chain, e_and, e_or, e_one, e_ife, e_tup, e_lst, e_ix, e_call, e_prim, e_isi, e_comp, e_sl, e_rev, e_upper, e_rep, e_dnew, e_dz, e_dix, e_din, e_lrng1, e_lrng2, e_word, w_ok, s_dset', GL_call, GL_glob, GL_fuel, GL_nf, optE_nil, optE_int, optE_neg, optE_var, optE_bin, a_nil', a_cons', end_nx, end_rt, fl_nx, fl_rt, trunc_same, tst_bl, getV0, getVs, R.bind_ok, R.bind_exc, R.bind_bad, R.ofO_some, R.ofO_none, view_int, view_bl, view_str, view_non, view_tup, view_lst, view_scr, isTy, b_add, b_addT, b_addL, b_sub, b_mul, b_mulT, b_fdiv, b_mod, b_addB, b_subB, b_mulB, pow12, pow18, pow31, pow6, c_eq3, c_lt, c_le, c_gt, c_ge, c_isN, c_notN, c_isB, c_notB, c_eqI, c_neI, t_bl, t_int, t_non, t_tup, t_lst, p_len_t, p_len_l, p_abs, p_int, p_all, p_any, p_tupL, p_tupT, p_lstT, p_lstL, p_max2, p_min2, x_tup, x_lst, n_int, it_tup, it_lst, sl_tup, sl_lst, at0, at1, at2, sl1, sl2, zipI, mkC_ok, mkL_f, w_nil, w_cons, bs_nil, bs_cons, List.all_cons, List.all_nil, id_eq, Bool.and_true, Bool.and_self, Bool.false_and, Bool.and_false, Bool.or_false, Bool.false_or, Bool.true_and, Bool.or_true, Bool.true_or, List.zipWith_cons_cons, List.zipWith_nil_right, List.zipWith_nil_left, decide_true, decide_false, l0, l1, l2, l3, if_true, List.reverse_cons, List.reverse_nil, nn_non, nn_int, nn_bl, nn_str, nn_tup, nn_lst, tlen, ite_and, ite_and', ite_or, Option.map_some, List.map_cons, List.map_nil, List.length_cons, List.length_nil, List.cons_append, List.nil_append, List.replicate, List.set_cons_zero, List.set_cons_succ, Nat.reduceSub, Nat.reduceAdd, Nat.reduceLeDiff, Nat.zero_le, Bool.not_true, Bool.not_false, ↓reduceIte, Bool.false_eq_true, h2]
/-- the two by what divides both -/
theorem lowest_run (k m : Nat) (S : Store) (a b : Int) (hb : b.natAbs < 2 ^ m) (hb0 : 0 < b) (hm : m ≤ 8000) : prg.run (k + 2) 2 [.int a, .int b] S = .ok (fr ((a : Rat) / (b : Rat))) S := by
  rw [run_succ (k + 1) 2 _ rfl, fn_run _ rfl]
  simp only [B_lowest, s_cons, s_nil, s_ret', s_ite', s_asg', s_par', s_asgc', s_expr', s_raise', s_loop', s_for', s_app', g_tv', g_tt', gs_nil', gs_cons', g_ts', i_one', i_rng1', i_rng2', i_rng3', i_enum', enumI_lst, enumI_tup, i_zip', e_var, e_int, e_str, e_bl, e_non, e_bin, e_neg, e_not, e_cmp, e_chain, e_and, e_or, e_one, e_ife, e_tup, e_lst, e_ix, e_call, e_prim, e_isi, e_comp, e_sl, e_rev, e_upper, e_rep, e_dnew, e_dz, e_dix, e_din, e_lrng1, e_lrng2, e_word, w_ok, s_dset', GL_call, GL_glob, GL_fuel, GL_nf, optE_nil, optE_int, optE_neg, optE_var, optE_bin, a_nil', a_cons', end_nx, end_rt, fl_nx, fl_rt, trunc_same, tst_bl, getV0, getVs, R.bind_ok, R.bind_exc, R.bind_bad, R.ofO_some, R.ofO_none, view_int, view_bl, view_str, view_non, view_tup, view_lst, view_scr, isTy, b_add, b_addT, b_addL, b_sub, b_mul, b_mulT, b_fdiv, b_mod, b_addB, b_subB, b_mulB, pow12, pow18, pow31, pow6, c_eq3, c_lt, c_le, c_gt, c_ge, c_isN, c_notN, c_isB, c_notB, c_eqI, c_neI, t_bl, t_int, t_non, t_tup, t_lst, p_len_t, p_len_l, p_abs, p_int, p_all, p_any, p_tupL, p_tupT, p_lstT, p_lstL, p_max2, p_min2, x_tup, x_lst, n_int, it_tup, it_lst, sl_tup, sl_lst, at0, at1, at2, sl1, sl2, zipI, mkC_ok, mkL_f, w_nil, w_cons, bs_nil, bs_cons, List.all_cons, List.all_nil, id_eq, Bool.and_true, Bool.and_self, Bool.false_and, Bool.and_false, Bool.or_false, Bool.false_or, Bool.true_and, Bool.or_true, Bool.true_or, List.zipWith_cons_cons, List.zipWith_nil_right, List.zipWith_nil_left, decide_true, decide_false, l0, l1, l2, l3, if_true, List.reverse_cons, List.reverse_nil, nn_non, nn_int, nn_bl, nn_str, nn_tup, nn_lst, tlen, ite_and, ite_and', ite_or, Option.map_some, List.map_cons, List.map_nil, List.length_cons, List.length_nil, List.cons_append, List.nil_append, List.replicate, List.set_cons_zero, List.set_cons_succ, Nat.reduceSub, Nat.reduceAdd, Nat.reduceLeDiff, Nat.zero_le, Bool.not_true, Bool.not_false, ↓reduceIte, Bool.false_eq_true]
  rw [divisor_run k m S a b hb (by omega)]
  have hd : divOk (Int.gcd a b) = true := gcd_divOk hb (by omega) hm
  simp only [s_cons, s_nil, s_ret', s_ite', s_asg', s_par', s_asgc', s_expr', s_raise', s_loop', s_for', s_app', g_tv', g_tt', gs_nil', gs_cons', g_ts', i_one', i_rng1', i_rng2', i_rng3', i_enum', enumI_lst, enumI_tup, i_zip', e_var, e_int, e_str, e_bl, e_non, e_bin, e_neg, e_not, e_cmp, e_chain, e_and, e_or, e_one, e_ife, e_tup, e_lst, e_ix, e_call, e_prim, e_isi, e_comp, e_sl, e_rev, e_upper, e_rep, e_dnew, e_dz, e_dix, e_din, e_lrng1, e_lrng2, e_word, w_ok, s_dset', GL_call, GL_glob, GL_fuel, GL_nf, optE_nil, optE_int, optE_neg, optE_var, optE_bin, a_nil', a_cons', end_nx, end_rt, fl_nx, fl_rt, trunc_same, tst_bl, getV0, getVs, R.bind_ok, R.bind_exc, R.bind_bad, R.ofO_some, R.ofO_none, view_int, view_bl, view_str, view_non, view_tup, view_lst, view_scr, isTy, b_add, b_addT, b_addL, b_sub, b_mul, b_mulT, b_fdiv, b_mod, b_addB, b_subB, b_mulB, pow12, pow18, pow31, pow6, c_eq3, c_lt, c_le, c_gt, c_ge, c_isN, c_notN, c_isB, c_notB, c_eqI, c_neI, t_bl, t_int, t_non, t_tup, t_lst, p_len_t, p_len_l, p_abs, p_int, p_all, p_any, p_tupL, p_tupT, p_lstT, p_lstL, p_max2, p_min2, x_tup, x_lst, n_int, it_tup, it_lst, sl_tup, sl_lst, at0, at1, at2, sl1, sl2, zipI, mkC_ok, mkL_f, w_nil, w_cons, bs_nil, bs_cons, List.all_cons, List.all_nil, id_eq, Bool.and_true, Bool.and_self, Bool.false_and, Bool.and_false, Bool.or_false, Bool.false_or, Bool.true_and, Bool.or_true, Bool.true_or, List.zipWith_cons_cons, List.zipWith_nil_right, List.zipWith_nil_left, decide_true, decide_false, l0, l1, l2, l3, if_true, List.reverse_cons, List.reverse_nil, nn_non, nn_int, nn_bl, nn_str, nn_tup, nn_lst, tlen, ite_and, ite_and', ite_or, Option.map_some, List.map_cons, List.map_nil, List.length_cons, List.length_nil, List.cons_append, List.nil_append, List.replicate, List.set_cons_zero, List.set_cons_succ, Nat.reduceSub, Nat.reduceAdd, Nat.reduceLeDiff, Nat.zero_le, Bool.not_true, Bool.not_false, ↓reduceIte, Bool.false_eq_true, hd]
  rw [low_fr hb0]
/-- the law's own -/
theorem law_low_run (k m : Nat) (S : Store) (a b : Int) (ha : 0 ≤ a) (hb0 : 0 < b) (hb : b.natAbs < 2 ^ m) (hm : m ≤ 8000) : prg.run (k + 1) 15 [.int a, .int b] S = .ok (fr ((a : Rat) / (b : Rat))) S := by
  rw [run_succ k 15 _ rfl, fn_run _ rfl]
  simp only [B__law_low, s_cons, s_nil, s_ret', s_ite', s_asg', s_par', s_asgc', s_expr', s_raise', s_loop', s_for', s_app', g_tv', g_tt', gs_nil', gs_cons', g_ts', i_one', i_rng1', i_rng2', i_rng3', i_enum', enumI_lst, enumI_tup, i_zip', e_var, e_int, e_str, e_bl, e_non, e_bin, e_neg, e_not, e_cmp, e_chain, e_and, e_or, e_one, e_ife, e_tup, e_lst, e_ix, e_call, e_prim, e_isi, e_comp, e_sl, e_rev, e_upper, e_rep, e_dnew, e_dz, e_dix, e_din, e_lrng1, e_lrng2, e_word, w_ok, s_dset', GL_call, GL_glob, GL_fuel, GL_nf, optE_nil, optE_int, optE_neg, optE_var, optE_bin, a_nil', a_cons', end_nx, end_rt, fl_nx, fl_rt, trunc_same, tst_bl, getV0, getVs, R.bind_ok, R.bind_exc, R.bind_bad, R.ofO_some, R.ofO_none, view_int, view_bl, view_str, view_non, view_tup, view_lst, view_scr, isTy, b_add, b_addT, b_addL, b_sub, b_mul, b_mulT, b_fdiv, b_mod, b_addB, b_subB, b_mulB, pow12, pow18, pow31, pow6, c_eq3, c_lt, c_le, c_gt, c_ge, c_isN, c_notN, c_isB, c_notB, c_eqI, c_neI, t_bl, t_int, t_non, t_tup, t_lst, p_len_t, p_len_l, p_abs, p_int, p_all, p_any, p_tupL, p_tupT, p_lstT, p_lstL, p_max2, p_min2, x_tup, x_lst, n_int, it_tup, it_lst, sl_tup, sl_lst, at0, at1, at2, sl1, sl2, zipI, mkC_ok, mkL_f, w_nil, w_cons, bs_nil, bs_cons, List.all_cons, List.all_nil, id_eq, Bool.and_true, Bool.and_self, Bool.false_and, Bool.and_false, Bool.or_false, Bool.false_or, Bool.true_and, Bool.or_true, Bool.true_or, List.zipWith_cons_cons, List.zipWith_nil_right, List.zipWith_nil_left, decide_true, decide_false, l0, l1, l2, l3, if_true, List.reverse_cons, List.reverse_nil, nn_non, nn_int, nn_bl, nn_str, nn_tup, nn_lst, tlen, ite_and, ite_and', ite_or, Option.map_some, List.map_cons, List.map_nil, List.length_cons, List.length_nil, List.cons_append, List.nil_append, List.replicate, List.set_cons_zero, List.set_cons_succ, Nat.reduceSub, Nat.reduceAdd, Nat.reduceLeDiff, Nat.zero_le, Bool.not_true, Bool.not_false, ↓reduceIte, Bool.false_eq_true]
  have hd : divOk (Int.gcd a b) = true := gcd_divOk hb (by omega) hm
  have hb3 : b < 2 ^ m := by
    have e : ((b.natAbs : Nat) : Int) = b := by omega
    rw [← e]; exact_mod_cast hb
  rw [gcd_loop (env := fun x y => [some (.int a), some (.int b), some (.int x), some (.int y)]) (fun x y _ => ?_) (fun x y h1 h2 => ?_) m 100000 a b ha (by omega) hb3 (by omega)]
  · simp only [s_cons, s_nil, s_ret', s_ite', s_asg', s_par', s_asgc', s_expr', s_raise', s_loop', s_for', s_app', g_tv', g_tt', gs_nil', gs_cons', g_ts', i_one', i_rng1', i_rng2', i_rng3', i_enum', enumI_lst, enumI_tup, i_zip', e_var, e_int, e_str, e_bl, e_non, e_bin, e_neg, e_not, e_cmp, e_chain, e_and, e_or, e_one, e_ife, e_tup, e_lst, e_ix, e_call, e_prim, e_isi, e_comp, e_sl, e_rev, e_upper, e_rep, e_dnew, e_dz, e_dix, e_din, e_lrng1, e_lrng2, e_word, w_ok, s_dset', GL_call, GL_glob, GL_fuel, GL_nf, optE_nil, optE_int, optE_neg, optE_var, optE_bin, a_nil', a_cons', end_nx, end_rt, fl_nx, fl_rt, trunc_same, tst_bl, getV0, getVs, R.bind_ok, R.bind_exc, R.bind_bad, R.ofO_some, R.ofO_none, view_int, view_bl, view_str, view_non, view_tup, view_lst, view_scr, isTy, b_add, b_addT, b_addL, b_sub, b_mul, b_mulT, b_fdiv, b_mod, b_addB, b_subB, b_mulB, pow12, pow18, pow31, pow6, c_eq3, c_lt, c_le, c_gt, c_ge, c_isN, c_notN, c_isB, c_notB, c_eqI, c_neI, t_bl, t_int, t_non, t_tup, t_lst, p_len_t, p_len_l, p_abs, p_int, p_all, p_any, p_tupL, p_tupT, p_lstT, p_lstL, p_max2, p_min2, x_tup, x_lst, n_int, it_tup, it_lst, sl_tup, sl_lst, at0, at1, at2, sl1, sl2, zipI, mkC_ok, mkL_f, w_nil, w_cons, bs_nil, bs_cons, List.all_cons, List.all_nil, id_eq, Bool.and_true, Bool.and_self, Bool.false_and, Bool.and_false, Bool.or_false, Bool.false_or, Bool.true_and, Bool.or_true, Bool.true_or, List.zipWith_cons_cons, List.zipWith_nil_right, List.zipWith_nil_left, decide_true, decide_false, l0, l1, l2, l3, if_true, List.reverse_cons, List.reverse_nil, nn_non, nn_int, nn_bl, nn_str, nn_tup, nn_lst, tlen, ite_and, ite_and', ite_or, Option.map_some, List.map_cons, List.map_nil, List.length_cons, List.length_nil, List.cons_append, List.nil_append, List.replicate, List.set_cons_zero, List.set_cons_succ, Nat.reduceSub, Nat.reduceAdd, Nat.reduceLeDiff, Nat.zero_le, Bool.not_true, Bool.not_false, ↓reduceIte, Bool.false_eq_true, hd]
    rw [low_fr hb0]
  · simp only [cnd_eq, s_cons, s_nil, s_ret', s_ite', s_asg', s_par', s_asgc', s_expr', s_raise', s_loop', s_for', s_app', g_tv', g_tt', gs_nil', gs_cons', g_ts', i_one', i_rng1', i_rng2', i_rng3', i_enum', enumI_lst, enumI_tup, i_zip', e_var, e_int, e_str, e_bl, e_non, e_bin, e_neg, e_not, e_cmp, e_chain, e_and, e_or, e_one, e_ife, e_tup, e_lst, e_ix, e_call, e_prim, e_isi, e_comp, e_sl, e_rev, e_upper, e_rep, e_dnew, e_dz, e_dix, e_din, e_lrng1, e_lrng2, e_word, w_ok, s_dset', GL_call, GL_glob, GL_fuel, GL_nf, optE_nil, optE_int, optE_neg, optE_var, optE_bin, a_nil', a_cons', end_nx, end_rt, fl_nx, fl_rt, trunc_same, tst_bl, getV0, getVs, R.bind_ok, R.bind_exc, R.bind_bad, R.ofO_some, R.ofO_none, view_int, view_bl, view_str, view_non, view_tup, view_lst, view_scr, isTy, b_add, b_addT, b_addL, b_sub, b_mul, b_mulT, b_fdiv, b_mod, b_addB, b_subB, b_mulB, pow12, pow18, pow31, pow6, c_eq3, c_lt, c_le, c_gt, c_ge, c_isN, c_notN, c_isB, c_notB, c_eqI, c_neI, t_bl, t_int, t_non, t_tup, t_lst, p_len_t, p_len_l, p_abs, p_int, p_all, p_any, p_tupL, p_tupT, p_lstT, p_lstL, p_max2, p_min2, x_tup, x_lst, n_int, it_tup, it_lst, sl_tup, sl_lst, at0, at1, at2, sl1, sl2, zipI, mkC_ok, mkL_f, w_nil, w_cons, bs_nil, bs_cons, List.all_cons, List.all_nil, id_eq, Bool.and_true, Bool.and_self, Bool.false_and, Bool.and_false, Bool.or_false, Bool.false_or, Bool.true_and, Bool.or_true, Bool.true_or, List.zipWith_cons_cons, List.zipWith_nil_right, List.zipWith_nil_left, decide_true, decide_false, l0, l1, l2, l3, if_true, List.reverse_cons, List.reverse_nil, nn_non, nn_int, nn_bl, nn_str, nn_tup, nn_lst, tlen, ite_and, ite_and', ite_or, Option.map_some, List.map_cons, List.map_nil, List.length_cons, List.length_nil, List.cons_append, List.nil_append, List.replicate, List.set_cons_zero, List.set_cons_succ, Nat.reduceSub, Nat.reduceAdd, Nat.reduceLeDiff, Nat.zero_le, Bool.not_true, Bool.not_false, ↓reduceIte, Bool.false_eq_true]
    by_cases h : y = 0
    · subst h; simp
    · have : 0 < y := by omega
      simp [h, this]
  · simp only [s_cons, s_nil, s_ret', s_ite', s_asg', s_par', s_asgc', s_expr', s_raise', s_loop', s_for', s_app', g_tv', g_tt', gs_nil', gs_cons', g_ts', i_one', i_rng1', i_rng2', i_rng3', i_enum', enumI_lst, enumI_tup, i_zip', e_var, e_int, e_str, e_bl, e_non, e_bin, e_neg, e_not, e_cmp, e_chain, e_and, e_or, e_one, e_ife, e_tup, e_lst, e_ix, e_call, e_prim, e_isi, e_comp, e_sl, e_rev, e_upper, e_rep, e_dnew, e_dz, e_dix, e_din, e_lrng1, e_lrng2, e_word, w_ok, s_dset', GL_call, GL_glob, GL_fuel, GL_nf, optE_nil, optE_int, optE_neg, optE_var, optE_bin, a_nil', a_cons', end_nx, end_rt, fl_nx, fl_rt, trunc_same, tst_bl, getV0, getVs, R.bind_ok, R.bind_exc, R.bind_bad, R.ofO_some, R.ofO_none, view_int, view_bl, view_str, view_non, view_tup, view_lst, view_scr, isTy, b_add, b_addT, b_addL, b_sub, b_mul, b_mulT, b_fdiv, b_mod, b_addB, b_subB, b_mulB, pow12, pow18, pow31, pow6, c_eq3, c_lt, c_le, c_gt, c_ge, c_isN, c_notN, c_isB, c_notB, c_eqI, c_neI, t_bl, t_int, t_non, t_tup, t_lst, p_len_t, p_len_l, p_abs, p_int, p_all, p_any, p_tupL, p_tupT, p_lstT, p_lstL, p_max2, p_min2, x_tup, x_lst, n_int, it_tup, it_lst, sl_tup, sl_lst, at0, at1, at2, sl1, sl2, zipI, mkC_ok, mkL_f, w_nil, w_cons, bs_nil, bs_cons, List.all_cons, List.all_nil, id_eq, Bool.and_true, Bool.and_self, Bool.false_and, Bool.and_false, Bool.or_false, Bool.false_or, Bool.true_and, Bool.or_true, Bool.true_or, List.zipWith_cons_cons, List.zipWith_nil_right, List.zipWith_nil_left, decide_true, decide_false, l0, l1, l2, l3, if_true, List.reverse_cons, List.reverse_nil, nn_non, nn_int, nn_bl, nn_str, nn_tup, nn_lst, tlen, ite_and, ite_and', ite_or, Option.map_some, List.map_cons, List.map_nil, List.length_cons, List.length_nil, List.cons_append, List.nil_append, List.replicate, List.set_cons_zero, List.set_cons_succ, Nat.reduceSub, Nat.reduceAdd, Nat.reduceLeDiff, Nat.zero_le, Bool.not_true, Bool.not_false, ↓reduceIte, Bool.false_eq_true, h2]
end K10
end
section
set_option Elab.async false
set_option linter.all false
set_option maxRecDepth 100000
set_option maxHeartbeats 1000000
namespace Ev
theorem view_end {S0 : Store} {ds : List D} : view (S0 ++ [.lst ds]) (.cel S0.length) = .lst ds := by simp [view]
theorem set_end0 {S0 : Store} {x y v : D} : setItemD (.cel S0.length) (.int 0) v (S0 ++ [.lst [x, y]]) = some (S0 ++ [.lst [v, y]]) := by
  simp [setItemD, L2.ixN]
theorem set_end1 {S0 : Store} {x y v : D} : setItemD (.cel S0.length) (.int 1) v (S0 ++ [.lst [x, y]]) = some (S0 ++ [.lst [x, v]]) := by
  simp [setItemD, L2.ixN]
/-- a tank -/
def Tank (o : O) : Prop := ∃ a b : Int, o = .lst [.int a, .int b] ∧ 0 ≤ a ∧ 0 ≤ b ∧ b < 2147477971
/-- the last cell is the tank in use, those before were tanks -/
def TK (n : Nat) (S : Store) : Prop := ∃ (S0 : Store) (o : O), S = S0 ++ [o] ∧ S0.length = n ∧ Tank o ∧ ∀ o ∈ S0, Tank o
theorem TK.len {n : Nat} {S : Store} (h : TK n S) : S.length = n + 1 := by
  obtain ⟨S0, o, rfl, rfl, _⟩ := h; simp
theorem TK.le {n : Nat} {S S' : Store} (h : TK n S) (h' : TK n S') : S'.length ≤ S.length := by rw [h.len, h'.len]; exact Nat.le_refl _
theorem Tank.below {o : O} (h : Tank o) (k : Nat) : belowO k o = true := by
  obtain ⟨a, b, rfl, _⟩ := h; rfl
theorem TK.mem {n : Nat} {S : Store} (h : TK n S) : ∀ o ∈ S, Tank o := by
  obtain ⟨S0, o, rfl, rfl, h1, h2⟩ := h
  intro o ho
  rcases List.mem_append.1 ho with ho | ho
  · exact h2 o ho
  · rw [List.mem_singleton.1 ho]; exact h1
theorem TK.bel {n : Nat} {S : Store} (h : TK n S) (k : Nat) : S.all (belowO k) = true := by
  rw [List.all_eq_true]; exact fun o ho => (h.mem o ho).below k
end Ev
namespace Ev
theorem rng_len {i c : Int} {n : Nat} : (rngL i c n).length = n := by simp [rngL]
theorem rngI_ok {j : Int} (h0 : 0 ≤ j) (h : j < 1000000) : rngI (.int j) = some (rngL 0 1 j.toNat) := by
  have : small j = true := by
    unfold small
    simp only [Bool.and_eq_true, decide_eq_true_eq]
    omega
  simp only [rngI, this, if_true]
theorem at_natG {α : Type} {ds : List α} {n : Nat} (h : n < ds.length) : L2.atI ds (n : Int) = ds[n]? := by
  unfold L2.atI L2.ixN
  have h1 : ¬ ((n : Int) < 0) := by omega
  simp [h1, h]
def TS (S : Store) : Prop := ∀ o ∈ S, Tank o
theorem x_scr {ns : List Int} {i : Int} : ixD (.scr ns) (.int i) = (L2.atI ns i).map D.int := id rfl
theorem p_len_s {ns : List Int} : primD .len [.scr ns] = some (.int ns.length) := id rfl
theorem mem_rng {n : Nat} {d : D} (h : d ∈ rngL 0 1 n) : ∃ i : Nat, d = .int i ∧ i < n := by
  unfold rngL at h
  obtain ⟨i, hi, rfl⟩ := List.mem_map.1 h
  refine ⟨i, ?_, List.mem_range.1 hi⟩
  congr 1; omega
end Ev
namespace K10
open Ev
open PySem (Str)
theorem sip_run (k n : Nat) (S : Store) (w : Int) (hT : TK n S) (hw : 0 < w) (hw2 : w < 1000000) :
    Ok (prg.run (k + 1) 14 [.cel n, .int w] S) fun d S' => TK n S' ∧ ∃ r : Int, d = .int r ∧ 0 ≤ r ∧ r < w := by
  obtain ⟨S0, o, rfl, rfl, ⟨a, b, rfl, ha, hb, hb2⟩, h0s⟩ := hT
  have hdw : divOk w = true := by
    have : w.natAbs.log2 < 20 := log2_of (show w.natAbs < 2 ^ 20 by omega) (by decide)
    unfold divOk
    simp only [Bool.and_eq_true, decide_eq_true_eq]
    omega
  have d59 : divOk 59 = true := by decide
  have d27 : divOk 27 = true := by decide
  have m1 : mulOk b 49957 = true := by unfold mulOk; simp
  rw [run_succ k 14 _ rfl]
  refine Ok_fn rfl ?_
  by_cases h0 : 0 < a
  · try simp only [B__law_sip, s_cons, s_nil, s_ret', s_ite', s_asg', s_par', s_asgc', s_expr', s_raise', s_loop', s_for', s_app', g_tv', g_tt', gs_nil', gs_cons', g_ts', i_one', i_rng1', i_rng2', i_rng3', i_enum', enumI_lst, enumI_tup, i_zip', e_var, e_int, e_str, e_bl, e_non, e_bin, e_neg, e_not, e_cmp, e_chain, e_and, e_or, e_one, e_ife, e_tup, e_lst, e_ix, e_call, e_prim, e_isi, e_comp, e_sl, e_rev, e_upper, e_rep, e_dnew, e_dz, e_dix, e_din, e_lrng1, e_lrng2, e_word, w_ok, s_dset', GL_call, GL_glob, GL_fuel, GL_nf, optE_nil, optE_int, optE_neg, optE_var, optE_bin, a_nil', a_cons', end_nx, end_rt, fl_nx, fl_rt, trunc_same, tst_bl, getV0, getVs, R.bind_ok, R.bind_exc, R.bind_bad, R.ofO_some, R.ofO_none, view_int, view_bl, view_str, view_non, view_tup, view_lst, view_scr, isTy, b_add, b_addT, b_addL, b_sub, b_mul, b_mulT, b_fdiv, b_mod, b_addB, b_subB, b_mulB, pow12, pow18, pow31, pow6, c_eq3, c_lt, c_le, c_gt, c_ge, c_isN, c_notN, c_isB, c_notB, c_eqI, c_neI, t_bl, t_int, t_non, t_tup, t_lst, p_len_t, p_len_l, p_abs, p_int, p_all, p_any, p_tupL, p_tupT, p_lstT, p_lstL, p_max2, p_min2, x_tup, x_lst, n_int, it_tup, it_lst, sl_tup, sl_lst, at0, at1, at2, sl1, sl2, zipI, mkC_ok, mkL_f, w_nil, w_cons, bs_nil, bs_cons, List.all_cons, List.all_nil, id_eq, Bool.and_true, Bool.and_self, Bool.false_and, Bool.and_false, Bool.or_false, Bool.false_or, Bool.true_and, Bool.or_true, Bool.true_or, List.zipWith_cons_cons, List.zipWith_nil_right, List.zipWith_nil_left, decide_true, decide_false, l0, l1, l2, l3, if_true, List.reverse_cons, List.reverse_nil, nn_non, nn_int, nn_bl, nn_str, nn_tup, nn_lst, tlen, ite_and, ite_and', ite_or, Option.map_some, List.map_cons, List.map_nil, List.length_cons, List.length_nil, List.cons_append, List.nil_append, List.replicate, List.set_cons_zero, List.set_cons_succ, Nat.reduceSub, Nat.reduceAdd, Nat.reduceLeDiff, Nat.zero_le, Bool.not_true, Bool.not_false, ↓reduceIte, Bool.false_eq_true, Ok_ok, Ok_bind, Ok_tst, Ok_mkC, Ok_mkLf, Ok_mkLt, view_end, h0, hw, hdw, set_end0]
    refine .inl ⟨by simp, ⟨S0, _, rfl, rfl, ⟨_, _, rfl, Int.ediv_nonneg ha (by omega), hb, hb2⟩, h0s⟩, _, rfl, Int.emod_nonneg _ (by omega), Int.emod_lt_of_pos _ hw⟩
  · have q0 : 0 ≤ (b * 49957 + 4217) % 2147477971 := Int.emod_nonneg _ (by decide)
    have q1 : (b * 49957 + 4217) % 2147477971 < 2147477971 := Int.emod_lt_of_pos _ (by decide)
    generalize hc : (b * 49957 + 4217) % 2147477971 = c at q0 q1
    have m2 : mulOk c (c / 59 + 41) = true := by
      unfold mulOk
      simp only [Bool.or_eq_true, decide_eq_true_eq]
      left; left; omega
    try simp only [B__law_sip, s_cons, s_nil, s_ret', s_ite', s_asg', s_par', s_asgc', s_expr', s_raise', s_loop', s_for', s_app', g_tv', g_tt', gs_nil', gs_cons', g_ts', i_one', i_rng1', i_rng2', i_rng3', i_enum', enumI_lst, enumI_tup, i_zip', e_var, e_int, e_str, e_bl, e_non, e_bin, e_neg, e_not, e_cmp, e_chain, e_and, e_or, e_one, e_ife, e_tup, e_lst, e_ix, e_call, e_prim, e_isi, e_comp, e_sl, e_rev, e_upper, e_rep, e_dnew, e_dz, e_dix, e_din, e_lrng1, e_lrng2, e_word, w_ok, s_dset', GL_call, GL_glob, GL_fuel, GL_nf, optE_nil, optE_int, optE_neg, optE_var, optE_bin, a_nil', a_cons', end_nx, end_rt, fl_nx, fl_rt, trunc_same, tst_bl, getV0, getVs, R.bind_ok, R.bind_exc, R.bind_bad, R.ofO_some, R.ofO_none, view_int, view_bl, view_str, view_non, view_tup, view_lst, view_scr, isTy, b_add, b_addT, b_addL, b_sub, b_mul, b_mulT, b_fdiv, b_mod, b_addB, b_subB, b_mulB, pow12, pow18, pow31, pow6, c_eq3, c_lt, c_le, c_gt, c_ge, c_isN, c_notN, c_isB, c_notB, c_eqI, c_neI, t_bl, t_int, t_non, t_tup, t_lst, p_len_t, p_len_l, p_abs, p_int, p_all, p_any, p_tupL, p_tupT, p_lstT, p_lstL, p_max2, p_min2, x_tup, x_lst, n_int, it_tup, it_lst, sl_tup, sl_lst, at0, at1, at2, sl1, sl2, zipI, mkC_ok, mkL_f, w_nil, w_cons, bs_nil, bs_cons, List.all_cons, List.all_nil, id_eq, Bool.and_true, Bool.and_self, Bool.false_and, Bool.and_false, Bool.or_false, Bool.false_or, Bool.true_and, Bool.or_true, Bool.true_or, List.zipWith_cons_cons, List.zipWith_nil_right, List.zipWith_nil_left, decide_true, decide_false, l0, l1, l2, l3, if_true, List.reverse_cons, List.reverse_nil, nn_non, nn_int, nn_bl, nn_str, nn_tup, nn_lst, tlen, ite_and, ite_and', ite_or, Option.map_some, List.map_cons, List.map_nil, List.length_cons, List.length_nil, List.cons_append, List.nil_append, List.replicate, List.set_cons_zero, List.set_cons_succ, Nat.reduceSub, Nat.reduceAdd, Nat.reduceLeDiff, Nat.zero_le, Bool.not_true, Bool.not_false, ↓reduceIte, Bool.false_eq_true, Ok_ok, Ok_bind, Ok_tst, Ok_mkC, Ok_mkLf, Ok_mkLt, view_end, h0, hw, set_end1, m1, hc, m2, d59, d27, show (0 : Int) < 2147477971 by decide, show (0 : Int) < 2147477969 by decide]
    exact .inl ⟨by simp, ⟨S0, _, rfl, rfl, ⟨_, _, rfl, ha, q0, q1⟩, h0s⟩, _, rfl, Int.emod_nonneg _ (by omega), Int.emod_lt_of_pos _ hw⟩
theorem tank_run (k : Nat) (S : Store) (ns : List Int) (i : Nat) (hi : i < 100) (hS : TS S) :
    Ok (prg.run (k + 1) 13 [.scr ns, .int i] S) fun d S' => d = .cel S.length ∧ TK S.length S' := by
  rw [run_succ k 13 _ rfl]
  refine Ok_fn rfl ?_
  have fin : ∀ a : Int, 0 ≤ a → ∃ x y : Int, (if (1000000000000000000 : Int) ≤ a then a else 0) = x ∧ 0 ≤ x ∧ (a % 2147477971 + 60089 * (i : Int) + 503) % 2147477971 = y ∧ 0 ≤ y ∧ y < 2147477971 := by
    intro a ha
    refine ⟨_, _, rfl, ?_, rfl, Int.emod_nonneg _ (by decide), Int.emod_lt_of_pos _ (by decide)⟩
    split <;> omega
  have tail : ∀ x y : Int, 0 ≤ x → 0 ≤ y → y < 2147477971 → below S.length (.cel S.length) = false ∧ True ∧ TK S.length (S ++ [.lst [.int x, .int y]]) := by
    intro x y hx hy hy2
    refine ⟨?_, trivial, S, _, rfl, rfl, ⟨x, y, rfl, hx, hy, hy2⟩, hS⟩
    simp [below]
  have ml : ∀ a : Int, mulOk 60089 a = true := fun a => by unfold mulOk; simp
  have ml2 : ∀ a : Int, mulOk 97 a = true := fun a => by unfold mulOk; simp
  have ei : ∀ (c : Bool) (x y : Int) (S : Store), (if c = true then R.ok (Ev.D.int x) S else R.ok (Ev.D.int y) S) = R.ok (Ev.D.int (if c = true then x else y)) S := by
    intro c x y S; split <;> rfl
  by_cases h : (i : Int) < (ns.length : Int)
  · have hl : i < ns.length := by omega
    have ha : (0 : Int) ≤ (if ns[i] < 0 then -ns[i] else ns[i]) := by split <;> omega
    generalize hg : (if ns[i] < 0 then -ns[i] else ns[i]) = a at ha
    obtain ⟨x, y, e1, x0, e2, y0, y1⟩ := fin a ha
    try simp only [B__law_tank, s_cons, s_nil, s_ret', s_ite', s_asg', s_par', s_asgc', s_expr', s_raise', s_loop', s_for', s_app', g_tv', g_tt', gs_nil', gs_cons', g_ts', i_one', i_rng1', i_rng2', i_rng3', i_enum', enumI_lst, enumI_tup, i_zip', e_var, e_int, e_str, e_bl, e_non, e_bin, e_neg, e_not, e_cmp, e_chain, e_and, e_or, e_one, e_ife, e_tup, e_lst, e_ix, e_call, e_prim, e_isi, e_comp, e_sl, e_rev, e_upper, e_rep, e_dnew, e_dz, e_dix, e_din, e_lrng1, e_lrng2, e_word, w_ok, s_dset', GL_call, GL_glob, GL_fuel, GL_nf, optE_nil, optE_int, optE_neg, optE_var, optE_bin, a_nil', a_cons', end_nx, end_rt, fl_nx, fl_rt, trunc_same, tst_bl, getV0, getVs, R.bind_ok, R.bind_exc, R.bind_bad, R.ofO_some, R.ofO_none, view_int, view_bl, view_str, view_non, view_tup, view_lst, view_scr, isTy, b_add, b_addT, b_addL, b_sub, b_mul, b_mulT, b_fdiv, b_mod, b_addB, b_subB, b_mulB, pow12, pow18, pow31, pow6, c_eq3, c_lt, c_le, c_gt, c_ge, c_isN, c_notN, c_isB, c_notB, c_eqI, c_neI, t_bl, t_int, t_non, t_tup, t_lst, p_len_t, p_len_l, p_abs, p_int, p_all, p_any, p_tupL, p_tupT, p_lstT, p_lstL, p_max2, p_min2, x_tup, x_lst, n_int, it_tup, it_lst, sl_tup, sl_lst, at0, at1, at2, sl1, sl2, zipI, mkC_ok, mkL_f, w_nil, w_cons, bs_nil, bs_cons, List.all_cons, List.all_nil, id_eq, Bool.and_true, Bool.and_self, Bool.false_and, Bool.and_false, Bool.or_false, Bool.false_or, Bool.true_and, Bool.or_true, Bool.true_or, List.zipWith_cons_cons, List.zipWith_nil_right, List.zipWith_nil_left, decide_true, decide_false, l0, l1, l2, l3, if_true, List.reverse_cons, List.reverse_nil, nn_non, nn_int, nn_bl, nn_str, nn_tup, nn_lst, tlen, ite_and, ite_and', ite_or, Option.map_some, List.map_cons, List.map_nil, List.length_cons, List.length_nil, List.cons_append, List.nil_append, List.replicate, List.set_cons_zero, List.set_cons_succ, Nat.reduceSub, Nat.reduceAdd, Nat.reduceLeDiff, Nat.zero_le, Bool.not_true, Bool.not_false, ↓reduceIte, Bool.false_eq_true, Ok_ok, Ok_bind, Ok_tst, Ok_mkC, Ok_mkLf, Ok_mkLt, p_len_s, h, x_scr, at_natG hl, List.getElem?_eq_getElem hl, hg, ml, ei, decide_eq_true_eq, show (0 : Int) < 2147477971 by decide, e1, e2]
    exact .inr (.inr (tail x y x0 y0 y1))
  · obtain ⟨x, y, e1, x0, e2, y0, y1⟩ := fin (97 * (i : Int) + 59) (by omega)
    try simp only [B__law_tank, s_cons, s_nil, s_ret', s_ite', s_asg', s_par', s_asgc', s_expr', s_raise', s_loop', s_for', s_app', g_tv', g_tt', gs_nil', gs_cons', g_ts', i_one', i_rng1', i_rng2', i_rng3', i_enum', enumI_lst, enumI_tup, i_zip', e_var, e_int, e_str, e_bl, e_non, e_bin, e_neg, e_not, e_cmp, e_chain, e_and, e_or, e_one, e_ife, e_tup, e_lst, e_ix, e_call, e_prim, e_isi, e_comp, e_sl, e_rev, e_upper, e_rep, e_dnew, e_dz, e_dix, e_din, e_lrng1, e_lrng2, e_word, w_ok, s_dset', GL_call, GL_glob, GL_fuel, GL_nf, optE_nil, optE_int, optE_neg, optE_var, optE_bin, a_nil', a_cons', end_nx, end_rt, fl_nx, fl_rt, trunc_same, tst_bl, getV0, getVs, R.bind_ok, R.bind_exc, R.bind_bad, R.ofO_some, R.ofO_none, view_int, view_bl, view_str, view_non, view_tup, view_lst, view_scr, isTy, b_add, b_addT, b_addL, b_sub, b_mul, b_mulT, b_fdiv, b_mod, b_addB, b_subB, b_mulB, pow12, pow18, pow31, pow6, c_eq3, c_lt, c_le, c_gt, c_ge, c_isN, c_notN, c_isB, c_notB, c_eqI, c_neI, t_bl, t_int, t_non, t_tup, t_lst, p_len_t, p_len_l, p_abs, p_int, p_all, p_any, p_tupL, p_tupT, p_lstT, p_lstL, p_max2, p_min2, x_tup, x_lst, n_int, it_tup, it_lst, sl_tup, sl_lst, at0, at1, at2, sl1, sl2, zipI, mkC_ok, mkL_f, w_nil, w_cons, bs_nil, bs_cons, List.all_cons, List.all_nil, id_eq, Bool.and_true, Bool.and_self, Bool.false_and, Bool.and_false, Bool.or_false, Bool.false_or, Bool.true_and, Bool.or_true, Bool.true_or, List.zipWith_cons_cons, List.zipWith_nil_right, List.zipWith_nil_left, decide_true, decide_false, l0, l1, l2, l3, if_true, List.reverse_cons, List.reverse_nil, nn_non, nn_int, nn_bl, nn_str, nn_tup, nn_lst, tlen, ite_and, ite_and', ite_or, Option.map_some, List.map_cons, List.map_nil, List.length_cons, List.length_nil, List.cons_append, List.nil_append, List.replicate, List.set_cons_zero, List.set_cons_succ, Nat.reduceSub, Nat.reduceAdd, Nat.reduceLeDiff, Nat.zero_le, Bool.not_true, Bool.not_false, ↓reduceIte, Bool.false_eq_true, Ok_ok, Ok_bind, Ok_tst, Ok_mkC, Ok_mkLf, Ok_mkLt, p_len_s, h, ml, ml2, ei, decide_eq_true_eq, show (0 : Int) < 2147477971 by decide, e1, e2]
    exact .inr (.inr (tail x y x0 y0 y1))
end K10
end
section
set_option Elab.async false
set_option linter.all false
set_option maxRecDepth 100000
set_option maxHeartbeats 1000000
set_option exponentiation.threshold 100000
namespace K10
open Ev
open PySem (Str)
mutual
/-- data of bounded size -/
def gd : Nat → Ev.D → Bool
  | _, .non => true
  | _, .bl _ => true
  | _, .int _ => true
  | _, .str x => PySem.PyData.strOk x && decide (x.length ≤ 1000)
  | k + 1, .tup ds => decide (ds.length ≤ 1000) && gdL k ds
  | k + 1, .lst ds => decide (ds.length ≤ 1000) && gdL k ds
  | _, _ => false
def gdL : Nat → List Ev.D → Bool
  | _, [] => true
  | k, d :: ds => gd k d && gdL k ds
end
theorem gd_dat {k : Nat} {d : Ev.D} (h : gd k d = true) : isDat d = true := by
  cases d <;> first | rfl | (simp [gd] at h)
theorem gdL_mem {k : Nat} : ∀ {ds : List Ev.D} {d : Ev.D}, gdL k ds = true → d ∈ ds → gd k d = true
  | e :: es, d, h, hd => by
    simp only [gdL, Bool.and_eq_true] at h
    rcases List.mem_cons.mp hd with e1 | e1
    · rw [e1]; exact h.1
    · exact gdL_mem h.2 e1
theorem gd_tup {k : Nat} {ds : List Ev.D} (h : gd k (.tup ds) = true) : ds.length ≤ 1000 ∧ ∃ j, k = j + 1 ∧ gdL j ds = true := by
  cases k with
  | zero => simp [gd] at h
  | succ k =>
    simp only [gd, Bool.and_eq_true, decide_eq_true_eq] at h
    exact ⟨h.1, k, rfl, h.2⟩
/-- a lowest fraction of parts from 1 to most -/
def isFrac (v : Ev.D) (most : Int) : Bool := match v with
  | .tup [.int a, .int b] => decide (1 ≤ a) && decide (a ≤ most) && (decide (1 ≤ b) && decide (b ≤ most)) && decide (Int.gcd a b = 1)
  | _ => false
theorem len_ne {n : Nat} {j : Int} (h : ¬ (n : Int) = j) : decide ((n : Int) = j) = false := decide_eq_false h
theorem isFrom_int {v : Ev.D} {lo hi : Int} (h : isFrom v lo hi = true) : ∃ i, v = .int i ∧ lo ≤ i ∧ i ≤ hi := by
  cases v with
  | int i => simp only [isFrom, Bool.and_eq_true, decide_eq_true_eq] at h; exact ⟨i, rfl, h.1, h.2⟩
  | _ => cases h
theorem is_fraction_run (k n : Nat) (S : Store) (v : Ev.D) (most : Int) (h : gd n v = true) (hm : most < 2 ^ 41) : prg.run (k + 2) 3 [v, .int most] S = .ok (.bl (isFrac v most)) S := by
  rw [run_succ (k + 1) 3 _ rfl, fn_run _ rfl]
  cases v with
  | fn _ => simp [gd] at h
  | cel _ => simp [gd] at h
  | scr _ => simp [gd] at h
  | tup ds =>
    obtain ⟨hl, j, rfl, hd⟩ := gd_tup h
    by_cases h2 : (ds.length : Int) = 2
    · match ds, h2 with
      | [x, y], _ =>
        have dx := gd_dat (gdL_mem hd (List.mem_cons_self ..))
        have dy := gd_dat (gdL_mem hd (List.mem_cons_of_mem _ (List.mem_cons_self ..)))
        have cast2 : (((0 + 1 + 1 : Nat)) : Int) = 2 := rfl
        by_cases hx : isFrom x 1 most && isFrom y 1 most
        · simp only [Bool.and_eq_true] at hx
          obtain ⟨hx, hy⟩ := hx
          obtain ⟨a, rfl, a1, a2⟩ := isFrom_int hx
          obtain ⟨b, rfl, b1, b2⟩ := isFrom_int hy
          have hdv := divisor_run k 41 S a b (abs_lt_pow (by omega) (by omega)) (by omega)
          have hg : decide (((Int.gcd a b : Nat) : Int) = 1) = decide (Int.gcd a b = 1) := decide_eq_decide.mpr (by omega)
          simp only [B_is_fraction, s_cons, s_nil, s_ret', s_ite', s_asg', s_par', s_asgc', s_expr', s_raise', s_loop', s_for', s_app', g_tv', g_tt', gs_nil', gs_cons', g_ts', i_one', i_rng1', i_rng2', i_rng3', i_enum', enumI_lst, enumI_tup, i_zip', e_var, e_int, e_str, e_bl, e_non, e_bin, e_neg, e_not, e_cmp, e_chain, e_and, e_or, e_one, e_ife, e_tup, e_lst, e_ix, e_call, e_prim, e_isi, e_comp, e_sl, e_rev, e_upper, e_rep, e_dnew, e_dz, e_dix, e_din, e_lrng1, e_lrng2, e_word, w_ok, s_dset', GL_call, GL_glob, GL_fuel, GL_nf, optE_nil, optE_int, optE_neg, optE_var, optE_bin, a_nil', a_cons', end_nx, end_rt, fl_nx, fl_rt, trunc_same, tst_bl, getV0, getVs, R.bind_ok, R.bind_exc, R.bind_bad, R.ofO_some, R.ofO_none, view_int, view_bl, view_str, view_non, view_tup, view_lst, view_scr, isTy, b_add, b_addT, b_addL, b_sub, b_mul, b_mulT, b_fdiv, b_mod, b_addB, b_subB, b_mulB, pow12, pow18, pow31, pow6, c_eq3, c_lt, c_le, c_gt, c_ge, c_isN, c_notN, c_isB, c_notB, c_eqI, c_neI, t_bl, t_int, t_non, t_tup, t_lst, p_len_t, p_len_l, p_abs, p_int, p_all, p_any, p_tupL, p_tupT, p_lstT, p_lstL, p_max2, p_min2, x_tup, x_lst, n_int, it_tup, it_lst, sl_tup, sl_lst, at0, at1, at2, sl1, sl2, zipI, mkC_ok, mkL_f, w_nil, w_cons, bs_nil, bs_cons, List.all_cons, List.all_nil, id_eq, Bool.and_true, Bool.and_self, Bool.false_and, Bool.and_false, Bool.or_false, Bool.false_or, Bool.true_and, Bool.or_true, Bool.true_or, List.zipWith_cons_cons, List.zipWith_nil_right, List.zipWith_nil_left, decide_true, decide_false, l0, l1, l2, l3, if_true, List.reverse_cons, List.reverse_nil, nn_non, nn_int, nn_bl, nn_str, nn_tup, nn_lst, tlen, ite_and, ite_and', ite_or, Option.map_some, List.map_cons, List.map_nil, List.length_cons, List.length_nil, List.cons_append, List.nil_append, List.replicate, List.set_cons_zero, List.set_cons_succ, Nat.reduceSub, Nat.reduceAdd, Nat.reduceLeDiff, Nat.zero_le, Bool.not_true, Bool.not_false, ↓reduceIte, Bool.false_eq_true, compL, cnd_eq, is_from_run k S _ 1 most dx, is_from_run k S _ 1 most dy, cast2, decide_true, hx, hy, hdv, isFrac, a1, a2, b1, b2, Bool.true_and, hg]
        · have hx : (isFrom x 1 most && isFrom y 1 most) = false := by simpa using hx
          have e : isFrac (.tup [x, y]) most = false := by
            unfold isFrac
            split
            · rename_i a b heq
              cases heq
              simp only [isFrom] at hx
              rw [hx, Bool.false_and]
            · rfl
          rw [e]
          simp only [B_is_fraction, s_cons, s_nil, s_ret', s_ite', s_asg', s_par', s_asgc', s_expr', s_raise', s_loop', s_for', s_app', g_tv', g_tt', gs_nil', gs_cons', g_ts', i_one', i_rng1', i_rng2', i_rng3', i_enum', enumI_lst, enumI_tup, i_zip', e_var, e_int, e_str, e_bl, e_non, e_bin, e_neg, e_not, e_cmp, e_chain, e_and, e_or, e_one, e_ife, e_tup, e_lst, e_ix, e_call, e_prim, e_isi, e_comp, e_sl, e_rev, e_upper, e_rep, e_dnew, e_dz, e_dix, e_din, e_lrng1, e_lrng2, e_word, w_ok, s_dset', GL_call, GL_glob, GL_fuel, GL_nf, optE_nil, optE_int, optE_neg, optE_var, optE_bin, a_nil', a_cons', end_nx, end_rt, fl_nx, fl_rt, trunc_same, tst_bl, getV0, getVs, R.bind_ok, R.bind_exc, R.bind_bad, R.ofO_some, R.ofO_none, view_int, view_bl, view_str, view_non, view_tup, view_lst, view_scr, isTy, b_add, b_addT, b_addL, b_sub, b_mul, b_mulT, b_fdiv, b_mod, b_addB, b_subB, b_mulB, pow12, pow18, pow31, pow6, c_eq3, c_lt, c_le, c_gt, c_ge, c_isN, c_notN, c_isB, c_notB, c_eqI, c_neI, t_bl, t_int, t_non, t_tup, t_lst, p_len_t, p_len_l, p_abs, p_int, p_all, p_any, p_tupL, p_tupT, p_lstT, p_lstL, p_max2, p_min2, x_tup, x_lst, n_int, it_tup, it_lst, sl_tup, sl_lst, at0, at1, at2, sl1, sl2, zipI, mkC_ok, mkL_f, w_nil, w_cons, bs_nil, bs_cons, List.all_cons, List.all_nil, id_eq, Bool.and_true, Bool.and_self, Bool.false_and, Bool.and_false, Bool.or_false, Bool.false_or, Bool.true_and, Bool.or_true, Bool.true_or, List.zipWith_cons_cons, List.zipWith_nil_right, List.zipWith_nil_left, decide_true, decide_false, l0, l1, l2, l3, if_true, List.reverse_cons, List.reverse_nil, nn_non, nn_int, nn_bl, nn_str, nn_tup, nn_lst, tlen, ite_and, ite_and', ite_or, Option.map_some, List.map_cons, List.map_nil, List.length_cons, List.length_nil, List.cons_append, List.nil_append, List.replicate, List.set_cons_zero, List.set_cons_succ, Nat.reduceSub, Nat.reduceAdd, Nat.reduceLeDiff, Nat.zero_le, Bool.not_true, Bool.not_false, ↓reduceIte, Bool.false_eq_true, compL, cnd_eq, is_from_run k S x 1 most dx, is_from_run k S y 1 most dy, cast2, decide_true, hx]
    · have e : isFrac (.tup ds) most = false := by
        unfold isFrac
        split
        · rename_i a b heq
          cases heq
          exact absurd rfl h2
        · rfl
      rw [e]
      simp only [B_is_fraction, s_cons, s_nil, s_ret', s_ite', s_asg', s_par', s_asgc', s_expr', s_raise', s_loop', s_for', s_app', g_tv', g_tt', gs_nil', gs_cons', g_ts', i_one', i_rng1', i_rng2', i_rng3', i_enum', enumI_lst, enumI_tup, i_zip', e_var, e_int, e_str, e_bl, e_non, e_bin, e_neg, e_not, e_cmp, e_chain, e_and, e_or, e_one, e_ife, e_tup, e_lst, e_ix, e_call, e_prim, e_isi, e_comp, e_sl, e_rev, e_upper, e_rep, e_dnew, e_dz, e_dix, e_din, e_lrng1, e_lrng2, e_word, w_ok, s_dset', GL_call, GL_glob, GL_fuel, GL_nf, optE_nil, optE_int, optE_neg, optE_var, optE_bin, a_nil', a_cons', end_nx, end_rt, fl_nx, fl_rt, trunc_same, tst_bl, getV0, getVs, R.bind_ok, R.bind_exc, R.bind_bad, R.ofO_some, R.ofO_none, view_int, view_bl, view_str, view_non, view_tup, view_lst, view_scr, isTy, b_add, b_addT, b_addL, b_sub, b_mul, b_mulT, b_fdiv, b_mod, b_addB, b_subB, b_mulB, pow12, pow18, pow31, pow6, c_eq3, c_lt, c_le, c_gt, c_ge, c_isN, c_notN, c_isB, c_notB, c_eqI, c_neI, t_bl, t_int, t_non, t_tup, t_lst, p_len_t, p_len_l, p_abs, p_int, p_all, p_any, p_tupL, p_tupT, p_lstT, p_lstL, p_max2, p_min2, x_tup, x_lst, n_int, it_tup, it_lst, sl_tup, sl_lst, at0, at1, at2, sl1, sl2, zipI, mkC_ok, mkL_f, w_nil, w_cons, bs_nil, bs_cons, List.all_cons, List.all_nil, id_eq, Bool.and_true, Bool.and_self, Bool.false_and, Bool.and_false, Bool.or_false, Bool.false_or, Bool.true_and, Bool.or_true, Bool.true_or, List.zipWith_cons_cons, List.zipWith_nil_right, List.zipWith_nil_left, decide_true, decide_false, l0, l1, l2, l3, if_true, List.reverse_cons, List.reverse_nil, nn_non, nn_int, nn_bl, nn_str, nn_tup, nn_lst, tlen, ite_and, ite_and', ite_or, Option.map_some, List.map_cons, List.map_nil, List.length_cons, List.length_nil, List.cons_append, List.nil_append, List.replicate, List.set_cons_zero, List.set_cons_succ, Nat.reduceSub, Nat.reduceAdd, Nat.reduceLeDiff, Nat.zero_le, Bool.not_true, Bool.not_false, ↓reduceIte, Bool.false_eq_true, len_ne h2]
  | _ => simp only [B_is_fraction, s_cons, s_nil, s_ret', s_ite', s_asg', s_par', s_asgc', s_expr', s_raise', s_loop', s_for', s_app', g_tv', g_tt', gs_nil', gs_cons', g_ts', i_one', i_rng1', i_rng2', i_rng3', i_enum', enumI_lst, enumI_tup, i_zip', e_var, e_int, e_str, e_bl, e_non, e_bin, e_neg, e_not, e_cmp, e_chain, e_and, e_or, e_one, e_ife, e_tup, e_lst, e_ix, e_call, e_prim, e_isi, e_comp, e_sl, e_rev, e_upper, e_rep, e_dnew, e_dz, e_dix, e_din, e_lrng1, e_lrng2, e_word, w_ok, s_dset', GL_call, GL_glob, GL_fuel, GL_nf, optE_nil, optE_int, optE_neg, optE_var, optE_bin, a_nil', a_cons', end_nx, end_rt, fl_nx, fl_rt, trunc_same, tst_bl, getV0, getVs, R.bind_ok, R.bind_exc, R.bind_bad, R.ofO_some, R.ofO_none, view_int, view_bl, view_str, view_non, view_tup, view_lst, view_scr, isTy, b_add, b_addT, b_addL, b_sub, b_mul, b_mulT, b_fdiv, b_mod, b_addB, b_subB, b_mulB, pow12, pow18, pow31, pow6, c_eq3, c_lt, c_le, c_gt, c_ge, c_isN, c_notN, c_isB, c_notB, c_eqI, c_neI, t_bl, t_int, t_non, t_tup, t_lst, p_len_t, p_len_l, p_abs, p_int, p_all, p_any, p_tupL, p_tupT, p_lstT, p_lstL, p_max2, p_min2, x_tup, x_lst, n_int, it_tup, it_lst, sl_tup, sl_lst, at0, at1, at2, sl1, sl2, zipI, mkC_ok, mkL_f, w_nil, w_cons, bs_nil, bs_cons, List.all_cons, List.all_nil, id_eq, Bool.and_true, Bool.and_self, Bool.false_and, Bool.and_false, Bool.or_false, Bool.false_or, Bool.true_and, Bool.or_true, Bool.true_or, List.zipWith_cons_cons, List.zipWith_nil_right, List.zipWith_nil_left, decide_true, decide_false, l0, l1, l2, l3, if_true, List.reverse_cons, List.reverse_nil, nn_non, nn_int, nn_bl, nn_str, nn_tup, nn_lst, tlen, ite_and, ite_and', ite_or, Option.map_some, List.map_cons, List.map_nil, List.length_cons, List.length_nil, List.cons_append, List.nil_append, List.replicate, List.set_cons_zero, List.set_cons_succ, Nat.reduceSub, Nat.reduceAdd, Nat.reduceLeDiff, Nat.zero_le, Bool.not_true, Bool.not_false, ↓reduceIte, Bool.false_eq_true, isFrac]
theorem isFrac_inv {v : Ev.D} {m : Int} (h : isFrac v m = true) : ∃ a b : Int, v = .tup [.int a, .int b] ∧ 1 ≤ a ∧ a ≤ m ∧ 1 ≤ b ∧ b ≤ m ∧ Int.gcd a b = 1 := by
  unfold isFrac at h
  split at h
  · rename_i a b
    simp only [Bool.and_eq_true, decide_eq_true_eq] at h
    exact ⟨a, b, rfl, h.1.1.1, h.1.1.2, h.1.2.1, h.1.2.2, h.2⟩
  · cases h

theorem num_pos {x : Rat} (h : 0 < x) : 0 < x.num := by
  have := (Rat.lt_iff 0 x).1 h
  simpa using this
theorem num_nn {x : Rat} (h : 0 ≤ x) : 0 ≤ x.num := Rat.num_nonneg.mpr h
theorem trunc_exc {n c : Nat} {S : Store} : trunc n (.exc c S) = .exc c S := id rfl
theorem gd_fr (x : Rat) : gd 1 (fr x) = true := by simp [gd, gdL, fr]
theorem isFrac_fr {x : Rat} {m : Int} (h0 : 0 < x) (h1 : x.num ≤ m) (h2 : (x.den : Int) ≤ m) : isFrac (fr x) m = true := by
  have a := num_pos h0
  have b := den_pos x
  have c : Int.gcd x.num (x.den : Int) = 1 := x.reduced
  unfold isFrac fr
  simp only [Bool.and_eq_true, decide_eq_true_eq, c, and_true]
  omega
end K10
end
section
set_option Elab.async false
set_option linter.all false
set_option maxRecDepth 100000
set_option maxHeartbeats 2000000
set_option exponentiation.threshold 100000
namespace Ev
open PySem (Str)
def pD (i j : Int) : D := .tup [.int i, .int j]
theorem pD_eq {i j : Int} : D.tup [.int i, .int j] = pD i j := id rfl
/-- the pairs -/
def prD (m : Int) : List D := if m = 2 then [.tup [.int 0, .int 1]] else if m = 3 then [.tup [.int 0, .int 1], .tup [.int 0, .int 2], .tup [.int 1, .int 2]] else [.tup [.int 0, .int 1], .tup [.int 0, .int 2], .tup [.int 0, .int 3], .tup [.int 1, .int 2], .tup [.int 1, .int 3], .tup [.int 2, .int 3]]
def Pl (m : Int) : Prop := m = 2 ∨ m = 3 ∨ m = 4
theorem rI2 : rngI (.int 2) = some [.int 0, .int 1] := id rfl
theorem rI3 : rngI (.int 3) = some [.int 0, .int 1, .int 2] := id rfl
theorem rI4 : rngI (.int 4) = some [.int 0, .int 1, .int 2, .int 3] := id rfl
theorem r12 : rngI2 (.int 1) (.int 2) = some [.int 1] := id rfl
theorem r22 : rngI2 (.int 2) (.int 2) = some [] := id rfl
theorem r13 : rngI2 (.int 1) (.int 3) = some [.int 1, .int 2] := id rfl
theorem r23 : rngI2 (.int 2) (.int 3) = some [.int 2] := id rfl
theorem r33 : rngI2 (.int 3) (.int 3) = some [] := id rfl
theorem r14 : rngI2 (.int 1) (.int 4) = some [.int 1, .int 2, .int 3] := id rfl
theorem r24 : rngI2 (.int 2) (.int 4) = some [.int 2, .int 3] := id rfl
theorem r34 : rngI2 (.int 3) (.int 4) = some [.int 3] := id rfl
theorem r44 : rngI2 (.int 4) (.int 4) = some [] := id rfl
theorem q12 : rngLI2 (.int 1) (.int 2) = some (.lst [.int 1]) := id rfl
theorem q22 : rngLI2 (.int 2) (.int 2) = some (.lst []) := id rfl
theorem q13 : rngLI2 (.int 1) (.int 3) = some (.lst [.int 1, .int 2]) := id rfl
theorem q23 : rngLI2 (.int 2) (.int 3) = some (.lst [.int 2]) := id rfl
theorem q33 : rngLI2 (.int 3) (.int 3) = some (.lst []) := id rfl
theorem q14 : rngLI2 (.int 1) (.int 4) = some (.lst [.int 1, .int 2, .int 3]) := id rfl
theorem q24 : rngLI2 (.int 2) (.int 4) = some (.lst [.int 2, .int 3]) := id rfl
theorem q34 : rngLI2 (.int 3) (.int 4) = some (.lst [.int 3]) := id rfl
theorem q44 : rngLI2 (.int 4) (.int 4) = some (.lst []) := id rfl
theorem i01 : (0 : Int) + 1 = 1 := id rfl
theorem i11 : (1 : Int) + 1 = 2 := id rfl
theorem i21 : (2 : Int) + 1 = 3 := id rfl
theorem i31 : (3 : Int) + 1 = 4 := id rfl
theorem pr2 : prD 2 = [.tup [.int 0, .int 1]] := id rfl
theorem pr3 : prD 3 = [.tup [.int 0, .int 1], .tup [.int 0, .int 2], .tup [.int 1, .int 2]] := id rfl
theorem pr4 : prD 4 = [.tup [.int 0, .int 1], .tup [.int 0, .int 2], .tup [.int 0, .int 3], .tup [.int 1, .int 2], .tup [.int 1, .int 3], .tup [.int 2, .int 3]] := id rfl
end Ev
namespace K10
open Ev
open PySem (Str)
theorem all_pairs_run (k : Nat) (S : Store) (m : Int) (hm : Pl m) : prg.run (k + 1) 4 [.int m] S = .ok (.lst (prD m)) S := by
  rw [run_succ k 4 _ rfl, fn_run _ rfl]
  rcases hm with rfl | rfl | rfl
  · simp only [B_all_pairs, s_cons, s_nil, s_ret', s_ite', s_asg', s_par', s_asgc', s_expr', s_raise', s_loop', s_for', s_app', g_tv', g_tt', gs_nil', gs_cons', g_ts', i_one', i_rng1', i_rng2', i_rng3', i_enum', enumI_lst, enumI_tup, i_zip', e_var, e_int, e_str, e_bl, e_non, e_bin, e_neg, e_not, e_cmp, e_chain, e_and, e_or, e_one, e_ife, e_tup, e_lst, e_ix, e_call, e_prim, e_isi, e_comp, e_sl, e_rev, e_upper, e_rep, e_dnew, e_dz, e_dix, e_din, e_lrng1, e_lrng2, e_word, w_ok, s_dset', GL_call, GL_glob, GL_fuel, GL_nf, optE_nil, optE_int, optE_neg, optE_var, optE_bin, a_nil', a_cons', end_nx, end_rt, fl_nx, fl_rt, trunc_same, tst_bl, getV0, getVs, R.bind_ok, R.bind_exc, R.bind_bad, R.ofO_some, R.ofO_none, view_int, view_bl, view_str, view_non, view_tup, view_lst, view_scr, isTy, b_add, b_addT, b_addL, b_sub, b_mul, b_mulT, b_fdiv, b_mod, b_addB, b_subB, b_mulB, pow12, pow18, pow31, pow6, c_eq3, c_lt, c_le, c_gt, c_ge, c_isN, c_notN, c_isB, c_notB, c_eqI, c_neI, t_bl, t_int, t_non, t_tup, t_lst, p_len_t, p_len_l, p_abs, p_int, p_all, p_any, p_tupL, p_tupT, p_lstT, p_lstL, p_max2, p_min2, x_tup, x_lst, n_int, it_tup, it_lst, sl_tup, sl_lst, at0, at1, at2, sl1, sl2, zipI, mkC_ok, mkL_f, w_nil, w_cons, bs_nil, bs_cons, List.all_cons, List.all_nil, id_eq, Bool.and_true, Bool.and_self, Bool.false_and, Bool.and_false, Bool.or_false, Bool.false_or, Bool.true_and, Bool.or_true, Bool.true_or, List.zipWith_cons_cons, List.zipWith_nil_right, List.zipWith_nil_left, decide_true, decide_false, l0, l1, l2, l3, if_true, List.reverse_cons, List.reverse_nil, nn_non, nn_int, nn_bl, nn_str, nn_tup, nn_lst, tlen, ite_and, ite_and', ite_or, Option.map_some, List.map_cons, List.map_nil, List.length_cons, List.length_nil, List.cons_append, List.nil_append, List.replicate, List.set_cons_zero, List.set_cons_succ, Nat.reduceSub, Nat.reduceAdd, Nat.reduceLeDiff, Nat.zero_le, Bool.not_true, Bool.not_false, ↓reduceIte, Bool.false_eq_true, forL, compL, cnd_eq, rI2, q12, q22, i01, i11, pr2]
  · simp only [B_all_pairs, s_cons, s_nil, s_ret', s_ite', s_asg', s_par', s_asgc', s_expr', s_raise', s_loop', s_for', s_app', g_tv', g_tt', gs_nil', gs_cons', g_ts', i_one', i_rng1', i_rng2', i_rng3', i_enum', enumI_lst, enumI_tup, i_zip', e_var, e_int, e_str, e_bl, e_non, e_bin, e_neg, e_not, e_cmp, e_chain, e_and, e_or, e_one, e_ife, e_tup, e_lst, e_ix, e_call, e_prim, e_isi, e_comp, e_sl, e_rev, e_upper, e_rep, e_dnew, e_dz, e_dix, e_din, e_lrng1, e_lrng2, e_word, w_ok, s_dset', GL_call, GL_glob, GL_fuel, GL_nf, optE_nil, optE_int, optE_neg, optE_var, optE_bin, a_nil', a_cons', end_nx, end_rt, fl_nx, fl_rt, trunc_same, tst_bl, getV0, getVs, R.bind_ok, R.bind_exc, R.bind_bad, R.ofO_some, R.ofO_none, view_int, view_bl, view_str, view_non, view_tup, view_lst, view_scr, isTy, b_add, b_addT, b_addL, b_sub, b_mul, b_mulT, b_fdiv, b_mod, b_addB, b_subB, b_mulB, pow12, pow18, pow31, pow6, c_eq3, c_lt, c_le, c_gt, c_ge, c_isN, c_notN, c_isB, c_notB, c_eqI, c_neI, t_bl, t_int, t_non, t_tup, t_lst, p_len_t, p_len_l, p_abs, p_int, p_all, p_any, p_tupL, p_tupT, p_lstT, p_lstL, p_max2, p_min2, x_tup, x_lst, n_int, it_tup, it_lst, sl_tup, sl_lst, at0, at1, at2, sl1, sl2, zipI, mkC_ok, mkL_f, w_nil, w_cons, bs_nil, bs_cons, List.all_cons, List.all_nil, id_eq, Bool.and_true, Bool.and_self, Bool.false_and, Bool.and_false, Bool.or_false, Bool.false_or, Bool.true_and, Bool.or_true, Bool.true_or, List.zipWith_cons_cons, List.zipWith_nil_right, List.zipWith_nil_left, decide_true, decide_false, l0, l1, l2, l3, if_true, List.reverse_cons, List.reverse_nil, nn_non, nn_int, nn_bl, nn_str, nn_tup, nn_lst, tlen, ite_and, ite_and', ite_or, Option.map_some, List.map_cons, List.map_nil, List.length_cons, List.length_nil, List.cons_append, List.nil_append, List.replicate, List.set_cons_zero, List.set_cons_succ, Nat.reduceSub, Nat.reduceAdd, Nat.reduceLeDiff, Nat.zero_le, Bool.not_true, Bool.not_false, ↓reduceIte, Bool.false_eq_true, forL, compL, cnd_eq, rI3, q13, q23, q33, i01, i11, i21, pr3]
  · simp only [B_all_pairs, s_cons, s_nil, s_ret', s_ite', s_asg', s_par', s_asgc', s_expr', s_raise', s_loop', s_for', s_app', g_tv', g_tt', gs_nil', gs_cons', g_ts', i_one', i_rng1', i_rng2', i_rng3', i_enum', enumI_lst, enumI_tup, i_zip', e_var, e_int, e_str, e_bl, e_non, e_bin, e_neg, e_not, e_cmp, e_chain, e_and, e_or, e_one, e_ife, e_tup, e_lst, e_ix, e_call, e_prim, e_isi, e_comp, e_sl, e_rev, e_upper, e_rep, e_dnew, e_dz, e_dix, e_din, e_lrng1, e_lrng2, e_word, w_ok, s_dset', GL_call, GL_glob, GL_fuel, GL_nf, optE_nil, optE_int, optE_neg, optE_var, optE_bin, a_nil', a_cons', end_nx, end_rt, fl_nx, fl_rt, trunc_same, tst_bl, getV0, getVs, R.bind_ok, R.bind_exc, R.bind_bad, R.ofO_some, R.ofO_none, view_int, view_bl, view_str, view_non, view_tup, view_lst, view_scr, isTy, b_add, b_addT, b_addL, b_sub, b_mul, b_mulT, b_fdiv, b_mod, b_addB, b_subB, b_mulB, pow12, pow18, pow31, pow6, c_eq3, c_lt, c_le, c_gt, c_ge, c_isN, c_notN, c_isB, c_notB, c_eqI, c_neI, t_bl, t_int, t_non, t_tup, t_lst, p_len_t, p_len_l, p_abs, p_int, p_all, p_any, p_tupL, p_tupT, p_lstT, p_lstL, p_max2, p_min2, x_tup, x_lst, n_int, it_tup, it_lst, sl_tup, sl_lst, at0, at1, at2, sl1, sl2, zipI, mkC_ok, mkL_f, w_nil, w_cons, bs_nil, bs_cons, List.all_cons, List.all_nil, id_eq, Bool.and_true, Bool.and_self, Bool.false_and, Bool.and_false, Bool.or_false, Bool.false_or, Bool.true_and, Bool.or_true, Bool.true_or, List.zipWith_cons_cons, List.zipWith_nil_right, List.zipWith_nil_left, decide_true, decide_false, l0, l1, l2, l3, if_true, List.reverse_cons, List.reverse_nil, nn_non, nn_int, nn_bl, nn_str, nn_tup, nn_lst, tlen, ite_and, ite_and', ite_or, Option.map_some, List.map_cons, List.map_nil, List.length_cons, List.length_nil, List.cons_append, List.nil_append, List.replicate, List.set_cons_zero, List.set_cons_succ, Nat.reduceSub, Nat.reduceAdd, Nat.reduceLeDiff, Nat.zero_le, Bool.not_true, Bool.not_false, ↓reduceIte, Bool.false_eq_true, forL, compL, cnd_eq, rI4, q14, q24, q34, q44, i01, i11, i21, i31, pr4]
theorem law_pairs_run (k : Nat) (S : Store) (m : Int) (hm : Pl m) : prg.run (k + 1) 16 [.int m] S = .ok (.lst (prD m)) S := by
  rw [run_succ k 16 _ rfl, fn_run _ rfl]
  rcases hm with rfl | rfl | rfl
  · simp only [B__law_pairs, s_cons, s_nil, s_ret', s_ite', s_asg', s_par', s_asgc', s_expr', s_raise', s_loop', s_for', s_app', g_tv', g_tt', gs_nil', gs_cons', g_ts', i_one', i_rng1', i_rng2', i_rng3', i_enum', enumI_lst, enumI_tup, i_zip', e_var, e_int, e_str, e_bl, e_non, e_bin, e_neg, e_not, e_cmp, e_chain, e_and, e_or, e_one, e_ife, e_tup, e_lst, e_ix, e_call, e_prim, e_isi, e_comp, e_sl, e_rev, e_upper, e_rep, e_dnew, e_dz, e_dix, e_din, e_lrng1, e_lrng2, e_word, w_ok, s_dset', GL_call, GL_glob, GL_fuel, GL_nf, optE_nil, optE_int, optE_neg, optE_var, optE_bin, a_nil', a_cons', end_nx, end_rt, fl_nx, fl_rt, trunc_same, tst_bl, getV0, getVs, R.bind_ok, R.bind_exc, R.bind_bad, R.ofO_some, R.ofO_none, view_int, view_bl, view_str, view_non, view_tup, view_lst, view_scr, isTy, b_add, b_addT, b_addL, b_sub, b_mul, b_mulT, b_fdiv, b_mod, b_addB, b_subB, b_mulB, pow12, pow18, pow31, pow6, c_eq3, c_lt, c_le, c_gt, c_ge, c_isN, c_notN, c_isB, c_notB, c_eqI, c_neI, t_bl, t_int, t_non, t_tup, t_lst, p_len_t, p_len_l, p_abs, p_int, p_all, p_any, p_tupL, p_tupT, p_lstT, p_lstL, p_max2, p_min2, x_tup, x_lst, n_int, it_tup, it_lst, sl_tup, sl_lst, at0, at1, at2, sl1, sl2, zipI, mkC_ok, mkL_f, w_nil, w_cons, bs_nil, bs_cons, List.all_cons, List.all_nil, id_eq, Bool.and_true, Bool.and_self, Bool.false_and, Bool.and_false, Bool.or_false, Bool.false_or, Bool.true_and, Bool.or_true, Bool.true_or, List.zipWith_cons_cons, List.zipWith_nil_right, List.zipWith_nil_left, decide_true, decide_false, l0, l1, l2, l3, if_true, List.reverse_cons, List.reverse_nil, nn_non, nn_int, nn_bl, nn_str, nn_tup, nn_lst, tlen, ite_and, ite_and', ite_or, Option.map_some, List.map_cons, List.map_nil, List.length_cons, List.length_nil, List.cons_append, List.nil_append, List.replicate, List.set_cons_zero, List.set_cons_succ, Nat.reduceSub, Nat.reduceAdd, Nat.reduceLeDiff, Nat.zero_le, Bool.not_true, Bool.not_false, ↓reduceIte, Bool.false_eq_true, forL, compL, cnd_eq, rI2, r12, r22, i01, i11, pr2]
  · simp only [B__law_pairs, s_cons, s_nil, s_ret', s_ite', s_asg', s_par', s_asgc', s_expr', s_raise', s_loop', s_for', s_app', g_tv', g_tt', gs_nil', gs_cons', g_ts', i_one', i_rng1', i_rng2', i_rng3', i_enum', enumI_lst, enumI_tup, i_zip', e_var, e_int, e_str, e_bl, e_non, e_bin, e_neg, e_not, e_cmp, e_chain, e_and, e_or, e_one, e_ife, e_tup, e_lst, e_ix, e_call, e_prim, e_isi, e_comp, e_sl, e_rev, e_upper, e_rep, e_dnew, e_dz, e_dix, e_din, e_lrng1, e_lrng2, e_word, w_ok, s_dset', GL_call, GL_glob, GL_fuel, GL_nf, optE_nil, optE_int, optE_neg, optE_var, optE_bin, a_nil', a_cons', end_nx, end_rt, fl_nx, fl_rt, trunc_same, tst_bl, getV0, getVs, R.bind_ok, R.bind_exc, R.bind_bad, R.ofO_some, R.ofO_none, view_int, view_bl, view_str, view_non, view_tup, view_lst, view_scr, isTy, b_add, b_addT, b_addL, b_sub, b_mul, b_mulT, b_fdiv, b_mod, b_addB, b_subB, b_mulB, pow12, pow18, pow31, pow6, c_eq3, c_lt, c_le, c_gt, c_ge, c_isN, c_notN, c_isB, c_notB, c_eqI, c_neI, t_bl, t_int, t_non, t_tup, t_lst, p_len_t, p_len_l, p_abs, p_int, p_all, p_any, p_tupL, p_tupT, p_lstT, p_lstL, p_max2, p_min2, x_tup, x_lst, n_int, it_tup, it_lst, sl_tup, sl_lst, at0, at1, at2, sl1, sl2, zipI, mkC_ok, mkL_f, w_nil, w_cons, bs_nil, bs_cons, List.all_cons, List.all_nil, id_eq, Bool.and_true, Bool.and_self, Bool.false_and, Bool.and_false, Bool.or_false, Bool.false_or, Bool.true_and, Bool.or_true, Bool.true_or, List.zipWith_cons_cons, List.zipWith_nil_right, List.zipWith_nil_left, decide_true, decide_false, l0, l1, l2, l3, if_true, List.reverse_cons, List.reverse_nil, nn_non, nn_int, nn_bl, nn_str, nn_tup, nn_lst, tlen, ite_and, ite_and', ite_or, Option.map_some, List.map_cons, List.map_nil, List.length_cons, List.length_nil, List.cons_append, List.nil_append, List.replicate, List.set_cons_zero, List.set_cons_succ, Nat.reduceSub, Nat.reduceAdd, Nat.reduceLeDiff, Nat.zero_le, Bool.not_true, Bool.not_false, ↓reduceIte, Bool.false_eq_true, forL, compL, cnd_eq, rI3, r13, r23, r33, i01, i11, i21, pr3]
  · simp only [B__law_pairs, s_cons, s_nil, s_ret', s_ite', s_asg', s_par', s_asgc', s_expr', s_raise', s_loop', s_for', s_app', g_tv', g_tt', gs_nil', gs_cons', g_ts', i_one', i_rng1', i_rng2', i_rng3', i_enum', enumI_lst, enumI_tup, i_zip', e_var, e_int, e_str, e_bl, e_non, e_bin, e_neg, e_not, e_cmp, e_chain, e_and, e_or, e_one, e_ife, e_tup, e_lst, e_ix, e_call, e_prim, e_isi, e_comp, e_sl, e_rev, e_upper, e_rep, e_dnew, e_dz, e_dix, e_din, e_lrng1, e_lrng2, e_word, w_ok, s_dset', GL_call, GL_glob, GL_fuel, GL_nf, optE_nil, optE_int, optE_neg, optE_var, optE_bin, a_nil', a_cons', end_nx, end_rt, fl_nx, fl_rt, trunc_same, tst_bl, getV0, getVs, R.bind_ok, R.bind_exc, R.bind_bad, R.ofO_some, R.ofO_none, view_int, view_bl, view_str, view_non, view_tup, view_lst, view_scr, isTy, b_add, b_addT, b_addL, b_sub, b_mul, b_mulT, b_fdiv, b_mod, b_addB, b_subB, b_mulB, pow12, pow18, pow31, pow6, c_eq3, c_lt, c_le, c_gt, c_ge, c_isN, c_notN, c_isB, c_notB, c_eqI, c_neI, t_bl, t_int, t_non, t_tup, t_lst, p_len_t, p_len_l, p_abs, p_int, p_all, p_any, p_tupL, p_tupT, p_lstT, p_lstL, p_max2, p_min2, x_tup, x_lst, n_int, it_tup, it_lst, sl_tup, sl_lst, at0, at1, at2, sl1, sl2, zipI, mkC_ok, mkL_f, w_nil, w_cons, bs_nil, bs_cons, List.all_cons, List.all_nil, id_eq, Bool.and_true, Bool.and_self, Bool.false_and, Bool.and_false, Bool.or_false, Bool.false_or, Bool.true_and, Bool.or_true, Bool.true_or, List.zipWith_cons_cons, List.zipWith_nil_right, List.zipWith_nil_left, decide_true, decide_false, l0, l1, l2, l3, if_true, List.reverse_cons, List.reverse_nil, nn_non, nn_int, nn_bl, nn_str, nn_tup, nn_lst, tlen, ite_and, ite_and', ite_or, Option.map_some, List.map_cons, List.map_nil, List.length_cons, List.length_nil, List.cons_append, List.nil_append, List.replicate, List.set_cons_zero, List.set_cons_succ, Nat.reduceSub, Nat.reduceAdd, Nat.reduceLeDiff, Nat.zero_le, Bool.not_true, Bool.not_false, ↓reduceIte, Bool.false_eq_true, forL, compL, cnd_eq, rI4, r14, r24, r34, r44, i01, i11, i21, i31, pr4]
/-- a good table -/
def isTab (m : Int) : Ev.D → Bool
  | .tup ds => decide (ds.length = (prD m).length) && ds.all (fun d => isFrac d 1000000)
  | _ => false
theorem good_run (k n : Nat) (S : Store) (m : Int) (hm : Pl m) (v : Ev.D) (hg : gd n v = true) : prg.run (k + 3) 5 [.int m, v] S = .ok (.bl (isTab m v)) S := by
  have ap := all_pairs_run (k + 1) S m hm
  rw [run_succ (k + 2) 5 _ rfl, fn_run _ rfl]
  cases v with
  | fn _ => simp [gd] at hg
  | cel _ => simp [gd] at hg
  | scr _ => simp [gd] at hg
  | tup ds =>
    obtain ⟨hl, j, rfl, hd⟩ := gd_tup hg
    have hcomp : compL (evG (GL (k + 2)) (.tv 2)) (cnd (GL (k + 2)) (.bl true)) (evE (GL (k + 2)) (.call 3 (.cons (.var 2) (.cons (.bin .pow (.int 10) (.int 6)) .nil)))) [some (.int m), some (.tup ds), none] ds [] S = .ok ([].reverse ++ ds.map fun d => .bl (isFrac d 1000000)) S := by
      refine compL_map (fun d => .bl (isFrac d 1000000)) ds [] (fun d hdm => ?_) (by simp; omega)
      refine ⟨[some (.int m), some (.tup ds), some d], ?_, ?_, ?_⟩
      · simp only [s_cons, s_nil, s_ret', s_ite', s_asg', s_par', s_asgc', s_expr', s_raise', s_loop', s_for', s_app', g_tv', g_tt', gs_nil', gs_cons', g_ts', i_one', i_rng1', i_rng2', i_rng3', i_enum', enumI_lst, enumI_tup, i_zip', e_var, e_int, e_str, e_bl, e_non, e_bin, e_neg, e_not, e_cmp, e_chain, e_and, e_or, e_one, e_ife, e_tup, e_lst, e_ix, e_call, e_prim, e_isi, e_comp, e_sl, e_rev, e_upper, e_rep, e_dnew, e_dz, e_dix, e_din, e_lrng1, e_lrng2, e_word, w_ok, s_dset', GL_call, GL_glob, GL_fuel, GL_nf, optE_nil, optE_int, optE_neg, optE_var, optE_bin, a_nil', a_cons', end_nx, end_rt, fl_nx, fl_rt, trunc_same, tst_bl, getV0, getVs, R.bind_ok, R.bind_exc, R.bind_bad, R.ofO_some, R.ofO_none, view_int, view_bl, view_str, view_non, view_tup, view_lst, view_scr, isTy, b_add, b_addT, b_addL, b_sub, b_mul, b_mulT, b_fdiv, b_mod, b_addB, b_subB, b_mulB, pow12, pow18, pow31, pow6, c_eq3, c_lt, c_le, c_gt, c_ge, c_isN, c_notN, c_isB, c_notB, c_eqI, c_neI, t_bl, t_int, t_non, t_tup, t_lst, p_len_t, p_len_l, p_abs, p_int, p_all, p_any, p_tupL, p_tupT, p_lstT, p_lstL, p_max2, p_min2, x_tup, x_lst, n_int, it_tup, it_lst, sl_tup, sl_lst, at0, at1, at2, sl1, sl2, zipI, mkC_ok, mkL_f, w_nil, w_cons, bs_nil, bs_cons, List.all_cons, List.all_nil, id_eq, Bool.and_true, Bool.and_self, Bool.false_and, Bool.and_false, Bool.or_false, Bool.false_or, Bool.true_and, Bool.or_true, Bool.true_or, List.zipWith_cons_cons, List.zipWith_nil_right, List.zipWith_nil_left, decide_true, decide_false, l0, l1, l2, l3, if_true, List.reverse_cons, List.reverse_nil, nn_non, nn_int, nn_bl, nn_str, nn_tup, nn_lst, tlen, ite_and, ite_and', ite_or, Option.map_some, List.map_cons, List.map_nil, List.length_cons, List.length_nil, List.cons_append, List.nil_append, List.replicate, List.set_cons_zero, List.set_cons_succ, Nat.reduceSub, Nat.reduceAdd, Nat.reduceLeDiff, Nat.zero_le, Bool.not_true, Bool.not_false, ↓reduceIte, Bool.false_eq_true]
      · simp only [cnd_eq, s_cons, s_nil, s_ret', s_ite', s_asg', s_par', s_asgc', s_expr', s_raise', s_loop', s_for', s_app', g_tv', g_tt', gs_nil', gs_cons', g_ts', i_one', i_rng1', i_rng2', i_rng3', i_enum', enumI_lst, enumI_tup, i_zip', e_var, e_int, e_str, e_bl, e_non, e_bin, e_neg, e_not, e_cmp, e_chain, e_and, e_or, e_one, e_ife, e_tup, e_lst, e_ix, e_call, e_prim, e_isi, e_comp, e_sl, e_rev, e_upper, e_rep, e_dnew, e_dz, e_dix, e_din, e_lrng1, e_lrng2, e_word, w_ok, s_dset', GL_call, GL_glob, GL_fuel, GL_nf, optE_nil, optE_int, optE_neg, optE_var, optE_bin, a_nil', a_cons', end_nx, end_rt, fl_nx, fl_rt, trunc_same, tst_bl, getV0, getVs, R.bind_ok, R.bind_exc, R.bind_bad, R.ofO_some, R.ofO_none, view_int, view_bl, view_str, view_non, view_tup, view_lst, view_scr, isTy, b_add, b_addT, b_addL, b_sub, b_mul, b_mulT, b_fdiv, b_mod, b_addB, b_subB, b_mulB, pow12, pow18, pow31, pow6, c_eq3, c_lt, c_le, c_gt, c_ge, c_isN, c_notN, c_isB, c_notB, c_eqI, c_neI, t_bl, t_int, t_non, t_tup, t_lst, p_len_t, p_len_l, p_abs, p_int, p_all, p_any, p_tupL, p_tupT, p_lstT, p_lstL, p_max2, p_min2, x_tup, x_lst, n_int, it_tup, it_lst, sl_tup, sl_lst, at0, at1, at2, sl1, sl2, zipI, mkC_ok, mkL_f, w_nil, w_cons, bs_nil, bs_cons, List.all_cons, List.all_nil, id_eq, Bool.and_true, Bool.and_self, Bool.false_and, Bool.and_false, Bool.or_false, Bool.false_or, Bool.true_and, Bool.or_true, Bool.true_or, List.zipWith_cons_cons, List.zipWith_nil_right, List.zipWith_nil_left, decide_true, decide_false, l0, l1, l2, l3, if_true, List.reverse_cons, List.reverse_nil, nn_non, nn_int, nn_bl, nn_str, nn_tup, nn_lst, tlen, ite_and, ite_and', ite_or, Option.map_some, List.map_cons, List.map_nil, List.length_cons, List.length_nil, List.cons_append, List.nil_append, List.replicate, List.set_cons_zero, List.set_cons_succ, Nat.reduceSub, Nat.reduceAdd, Nat.reduceLeDiff, Nat.zero_le, Bool.not_true, Bool.not_false, ↓reduceIte, Bool.false_eq_true]
      · simp only [s_cons, s_nil, s_ret', s_ite', s_asg', s_par', s_asgc', s_expr', s_raise', s_loop', s_for', s_app', g_tv', g_tt', gs_nil', gs_cons', g_ts', i_one', i_rng1', i_rng2', i_rng3', i_enum', enumI_lst, enumI_tup, i_zip', e_var, e_int, e_str, e_bl, e_non, e_bin, e_neg, e_not, e_cmp, e_chain, e_and, e_or, e_one, e_ife, e_tup, e_lst, e_ix, e_call, e_prim, e_isi, e_comp, e_sl, e_rev, e_upper, e_rep, e_dnew, e_dz, e_dix, e_din, e_lrng1, e_lrng2, e_word, w_ok, s_dset', GL_call, GL_glob, GL_fuel, GL_nf, optE_nil, optE_int, optE_neg, optE_var, optE_bin, a_nil', a_cons', end_nx, end_rt, fl_nx, fl_rt, trunc_same, tst_bl, getV0, getVs, R.bind_ok, R.bind_exc, R.bind_bad, R.ofO_some, R.ofO_none, view_int, view_bl, view_str, view_non, view_tup, view_lst, view_scr, isTy, b_add, b_addT, b_addL, b_sub, b_mul, b_mulT, b_fdiv, b_mod, b_addB, b_subB, b_mulB, pow12, pow18, pow31, pow6, c_eq3, c_lt, c_le, c_gt, c_ge, c_isN, c_notN, c_isB, c_notB, c_eqI, c_neI, t_bl, t_int, t_non, t_tup, t_lst, p_len_t, p_len_l, p_abs, p_int, p_all, p_any, p_tupL, p_tupT, p_lstT, p_lstL, p_max2, p_min2, x_tup, x_lst, n_int, it_tup, it_lst, sl_tup, sl_lst, at0, at1, at2, sl1, sl2, zipI, mkC_ok, mkL_f, w_nil, w_cons, bs_nil, bs_cons, List.all_cons, List.all_nil, id_eq, Bool.and_true, Bool.and_self, Bool.false_and, Bool.and_false, Bool.or_false, Bool.false_or, Bool.true_and, Bool.or_true, Bool.true_or, List.zipWith_cons_cons, List.zipWith_nil_right, List.zipWith_nil_left, decide_true, decide_false, l0, l1, l2, l3, if_true, List.reverse_cons, List.reverse_nil, nn_non, nn_int, nn_bl, nn_str, nn_tup, nn_lst, tlen, ite_and, ite_and', ite_or, Option.map_some, List.map_cons, List.map_nil, List.length_cons, List.length_nil, List.cons_append, List.nil_append, List.replicate, List.set_cons_zero, List.set_cons_succ, Nat.reduceSub, Nat.reduceAdd, Nat.reduceLeDiff, Nat.zero_le, Bool.not_true, Bool.not_false, ↓reduceIte, Bool.false_eq_true, is_fraction_run k j S d 1000000 (gdL_mem hd hdm) (by decide)]
    have ea : ((ds.map fun d => isFrac d 1000000).all id) = ds.all (fun d => isFrac d 1000000) := by simp [List.all_map]
    have eq_ : isTab m (.tup ds) = (decide (ds.length = (prD m).length) && ds.all (fun d => isFrac d 1000000)) := rfl
    rw [eq_]
    by_cases h : ds.length = (prD m).length
    · have h2 : (ds.length : Int) = ((prD m).length : Int) := by omega
      have h3 : ((prD m).length : Int) = ((prD m).length : Int) := rfl
      simp only [B_is_good_table, s_cons, s_nil, s_ret', s_ite', s_asg', s_par', s_asgc', s_expr', s_raise', s_loop', s_for', s_app', g_tv', g_tt', gs_nil', gs_cons', g_ts', i_one', i_rng1', i_rng2', i_rng3', i_enum', enumI_lst, enumI_tup, i_zip', e_var, e_int, e_str, e_bl, e_non, e_bin, e_neg, e_not, e_cmp, e_chain, e_and, e_or, e_one, e_ife, e_tup, e_lst, e_ix, e_call, e_prim, e_isi, e_comp, e_sl, e_rev, e_upper, e_rep, e_dnew, e_dz, e_dix, e_din, e_lrng1, e_lrng2, e_word, w_ok, s_dset', GL_call, GL_glob, GL_fuel, GL_nf, optE_nil, optE_int, optE_neg, optE_var, optE_bin, a_nil', a_cons', end_nx, end_rt, fl_nx, fl_rt, trunc_same, tst_bl, getV0, getVs, R.bind_ok, R.bind_exc, R.bind_bad, R.ofO_some, R.ofO_none, view_int, view_bl, view_str, view_non, view_tup, view_lst, view_scr, isTy, b_add, b_addT, b_addL, b_sub, b_mul, b_mulT, b_fdiv, b_mod, b_addB, b_subB, b_mulB, pow12, pow18, pow31, pow6, c_eq3, c_lt, c_le, c_gt, c_ge, c_isN, c_notN, c_isB, c_notB, c_eqI, c_neI, t_bl, t_int, t_non, t_tup, t_lst, p_len_t, p_len_l, p_abs, p_int, p_all, p_any, p_tupL, p_tupT, p_lstT, p_lstL, p_max2, p_min2, x_tup, x_lst, n_int, it_tup, it_lst, sl_tup, sl_lst, at0, at1, at2, sl1, sl2, zipI, mkC_ok, mkL_f, w_nil, w_cons, bs_nil, bs_cons, List.all_cons, List.all_nil, id_eq, Bool.and_true, Bool.and_self, Bool.false_and, Bool.and_false, Bool.or_false, Bool.false_or, Bool.true_and, Bool.or_true, Bool.true_or, List.zipWith_cons_cons, List.zipWith_nil_right, List.zipWith_nil_left, decide_true, decide_false, l0, l1, l2, l3, if_true, List.reverse_cons, List.reverse_nil, nn_non, nn_int, nn_bl, nn_str, nn_tup, nn_lst, tlen, ite_and, ite_and', ite_or, Option.map_some, List.map_cons, List.map_nil, List.length_cons, List.length_nil, List.cons_append, List.nil_append, List.replicate, List.set_cons_zero, List.set_cons_succ, Nat.reduceSub, Nat.reduceAdd, Nat.reduceLeDiff, Nat.zero_le, Bool.not_true, Bool.not_false, ↓reduceIte, Bool.false_eq_true, ap, h2, h3, hcomp, bools_map, ea, h]
    · have h2 : ¬ (ds.length : Int) = ((prD m).length : Int) := by omega
      simp only [B_is_good_table, s_cons, s_nil, s_ret', s_ite', s_asg', s_par', s_asgc', s_expr', s_raise', s_loop', s_for', s_app', g_tv', g_tt', gs_nil', gs_cons', g_ts', i_one', i_rng1', i_rng2', i_rng3', i_enum', enumI_lst, enumI_tup, i_zip', e_var, e_int, e_str, e_bl, e_non, e_bin, e_neg, e_not, e_cmp, e_chain, e_and, e_or, e_one, e_ife, e_tup, e_lst, e_ix, e_call, e_prim, e_isi, e_comp, e_sl, e_rev, e_upper, e_rep, e_dnew, e_dz, e_dix, e_din, e_lrng1, e_lrng2, e_word, w_ok, s_dset', GL_call, GL_glob, GL_fuel, GL_nf, optE_nil, optE_int, optE_neg, optE_var, optE_bin, a_nil', a_cons', end_nx, end_rt, fl_nx, fl_rt, trunc_same, tst_bl, getV0, getVs, R.bind_ok, R.bind_exc, R.bind_bad, R.ofO_some, R.ofO_none, view_int, view_bl, view_str, view_non, view_tup, view_lst, view_scr, isTy, b_add, b_addT, b_addL, b_sub, b_mul, b_mulT, b_fdiv, b_mod, b_addB, b_subB, b_mulB, pow12, pow18, pow31, pow6, c_eq3, c_lt, c_le, c_gt, c_ge, c_isN, c_notN, c_isB, c_notB, c_eqI, c_neI, t_bl, t_int, t_non, t_tup, t_lst, p_len_t, p_len_l, p_abs, p_int, p_all, p_any, p_tupL, p_tupT, p_lstT, p_lstL, p_max2, p_min2, x_tup, x_lst, n_int, it_tup, it_lst, sl_tup, sl_lst, at0, at1, at2, sl1, sl2, zipI, mkC_ok, mkL_f, w_nil, w_cons, bs_nil, bs_cons, List.all_cons, List.all_nil, id_eq, Bool.and_true, Bool.and_self, Bool.false_and, Bool.and_false, Bool.or_false, Bool.false_or, Bool.true_and, Bool.or_true, Bool.true_or, List.zipWith_cons_cons, List.zipWith_nil_right, List.zipWith_nil_left, decide_true, decide_false, l0, l1, l2, l3, if_true, List.reverse_cons, List.reverse_nil, nn_non, nn_int, nn_bl, nn_str, nn_tup, nn_lst, tlen, ite_and, ite_and', ite_or, Option.map_some, List.map_cons, List.map_nil, List.length_cons, List.length_nil, List.cons_append, List.nil_append, List.replicate, List.set_cons_zero, List.set_cons_succ, Nat.reduceSub, Nat.reduceAdd, Nat.reduceLeDiff, Nat.zero_le, Bool.not_true, Bool.not_false, ↓reduceIte, Bool.false_eq_true, ap, h2, h]
  | _ => simp only [B_is_good_table, s_cons, s_nil, s_ret', s_ite', s_asg', s_par', s_asgc', s_expr', s_raise', s_loop', s_for', s_app', g_tv', g_tt', gs_nil', gs_cons', g_ts', i_one', i_rng1', i_rng2', i_rng3', i_enum', enumI_lst, enumI_tup, i_zip', e_var, e_int, e_str, e_bl, e_non, e_bin, e_neg, e_not, e_cmp, e_chain, e_and, e_or, e_one, e_ife, e_tup, e_lst, e_ix, e_call, e_prim, e_isi, e_comp, e_sl, e_rev, e_upper, e_rep, e_dnew, e_dz, e_dix, e_din, e_lrng1, e_lrng2, e_word, w_ok, s_dset', GL_call, GL_glob, GL_fuel, GL_nf, optE_nil, optE_int, optE_neg, optE_var, optE_bin, a_nil', a_cons', end_nx, end_rt, fl_nx, fl_rt, trunc_same, tst_bl, getV0, getVs, R.bind_ok, R.bind_exc, R.bind_bad, R.ofO_some, R.ofO_none, view_int, view_bl, view_str, view_non, view_tup, view_lst, view_scr, isTy, b_add, b_addT, b_addL, b_sub, b_mul, b_mulT, b_fdiv, b_mod, b_addB, b_subB, b_mulB, pow12, pow18, pow31, pow6, c_eq3, c_lt, c_le, c_gt, c_ge, c_isN, c_notN, c_isB, c_notB, c_eqI, c_neI, t_bl, t_int, t_non, t_tup, t_lst, p_len_t, p_len_l, p_abs, p_int, p_all, p_any, p_tupL, p_tupT, p_lstT, p_lstL, p_max2, p_min2, x_tup, x_lst, n_int, it_tup, it_lst, sl_tup, sl_lst, at0, at1, at2, sl1, sl2, zipI, mkC_ok, mkL_f, w_nil, w_cons, bs_nil, bs_cons, List.all_cons, List.all_nil, id_eq, Bool.and_true, Bool.and_self, Bool.false_and, Bool.and_false, Bool.or_false, Bool.false_or, Bool.true_and, Bool.or_true, Bool.true_or, List.zipWith_cons_cons, List.zipWith_nil_right, List.zipWith_nil_left, decide_true, decide_false, l0, l1, l2, l3, if_true, List.reverse_cons, List.reverse_nil, nn_non, nn_int, nn_bl, nn_str, nn_tup, nn_lst, tlen, ite_and, ite_and', ite_or, Option.map_some, List.map_cons, List.map_nil, List.length_cons, List.length_nil, List.cons_append, List.nil_append, List.replicate, List.set_cons_zero, List.set_cons_succ, Nat.reduceSub, Nat.reduceAdd, Nat.reduceLeDiff, Nat.zero_le, Bool.not_true, Bool.not_false, ↓reduceIte, Bool.false_eq_true, isTab]
theorem need_players_run (k : Nat) (S : Store) (v : Ev.D) (h : isDat v = true) : prg.run (k + 2) 6 [v] S = if isFrom v 2 4 = true then .ok .non S else .exc 1 S := by
  rw [run_succ (k + 1) 6 _ rfl, fn_run _ rfl]
  have f := is_from_run k S v 2 4 h
  cases hf : isFrom v 2 4 with
  | true => rw [hf] at f; simp only [B_need_players, s_cons, s_nil, s_ret', s_ite', s_asg', s_par', s_asgc', s_expr', s_raise', s_loop', s_for', s_app', g_tv', g_tt', gs_nil', gs_cons', g_ts', i_one', i_rng1', i_rng2', i_rng3', i_enum', enumI_lst, enumI_tup, i_zip', e_var, e_int, e_str, e_bl, e_non, e_bin, e_neg, e_not, e_cmp, e_chain, e_and, e_or, e_one, e_ife, e_tup, e_lst, e_ix, e_call, e_prim, e_isi, e_comp, e_sl, e_rev, e_upper, e_rep, e_dnew, e_dz, e_dix, e_din, e_lrng1, e_lrng2, e_word, w_ok, s_dset', GL_call, GL_glob, GL_fuel, GL_nf, optE_nil, optE_int, optE_neg, optE_var, optE_bin, a_nil', a_cons', end_nx, end_rt, fl_nx, fl_rt, trunc_same, tst_bl, getV0, getVs, R.bind_ok, R.bind_exc, R.bind_bad, R.ofO_some, R.ofO_none, view_int, view_bl, view_str, view_non, view_tup, view_lst, view_scr, isTy, b_add, b_addT, b_addL, b_sub, b_mul, b_mulT, b_fdiv, b_mod, b_addB, b_subB, b_mulB, pow12, pow18, pow31, pow6, c_eq3, c_lt, c_le, c_gt, c_ge, c_isN, c_notN, c_isB, c_notB, c_eqI, c_neI, t_bl, t_int, t_non, t_tup, t_lst, p_len_t, p_len_l, p_abs, p_int, p_all, p_any, p_tupL, p_tupT, p_lstT, p_lstL, p_max2, p_min2, x_tup, x_lst, n_int, it_tup, it_lst, sl_tup, sl_lst, at0, at1, at2, sl1, sl2, zipI, mkC_ok, mkL_f, w_nil, w_cons, bs_nil, bs_cons, List.all_cons, List.all_nil, id_eq, Bool.and_true, Bool.and_self, Bool.false_and, Bool.and_false, Bool.or_false, Bool.false_or, Bool.true_and, Bool.or_true, Bool.true_or, List.zipWith_cons_cons, List.zipWith_nil_right, List.zipWith_nil_left, decide_true, decide_false, l0, l1, l2, l3, if_true, List.reverse_cons, List.reverse_nil, nn_non, nn_int, nn_bl, nn_str, nn_tup, nn_lst, tlen, ite_and, ite_and', ite_or, Option.map_some, List.map_cons, List.map_nil, List.length_cons, List.length_nil, List.cons_append, List.nil_append, List.replicate, List.set_cons_zero, List.set_cons_succ, Nat.reduceSub, Nat.reduceAdd, Nat.reduceLeDiff, Nat.zero_le, Bool.not_true, Bool.not_false, ↓reduceIte, Bool.false_eq_true, f, trunc_exc]
  | false => rw [hf] at f; simp only [B_need_players, s_cons, s_nil, s_ret', s_ite', s_asg', s_par', s_asgc', s_expr', s_raise', s_loop', s_for', s_app', g_tv', g_tt', gs_nil', gs_cons', g_ts', i_one', i_rng1', i_rng2', i_rng3', i_enum', enumI_lst, enumI_tup, i_zip', e_var, e_int, e_str, e_bl, e_non, e_bin, e_neg, e_not, e_cmp, e_chain, e_and, e_or, e_one, e_ife, e_tup, e_lst, e_ix, e_call, e_prim, e_isi, e_comp, e_sl, e_rev, e_upper, e_rep, e_dnew, e_dz, e_dix, e_din, e_lrng1, e_lrng2, e_word, w_ok, s_dset', GL_call, GL_glob, GL_fuel, GL_nf, optE_nil, optE_int, optE_neg, optE_var, optE_bin, a_nil', a_cons', end_nx, end_rt, fl_nx, fl_rt, trunc_same, tst_bl, getV0, getVs, R.bind_ok, R.bind_exc, R.bind_bad, R.ofO_some, R.ofO_none, view_int, view_bl, view_str, view_non, view_tup, view_lst, view_scr, isTy, b_add, b_addT, b_addL, b_sub, b_mul, b_mulT, b_fdiv, b_mod, b_addB, b_subB, b_mulB, pow12, pow18, pow31, pow6, c_eq3, c_lt, c_le, c_gt, c_ge, c_isN, c_notN, c_isB, c_notB, c_eqI, c_neI, t_bl, t_int, t_non, t_tup, t_lst, p_len_t, p_len_l, p_abs, p_int, p_all, p_any, p_tupL, p_tupT, p_lstT, p_lstL, p_max2, p_min2, x_tup, x_lst, n_int, it_tup, it_lst, sl_tup, sl_lst, at0, at1, at2, sl1, sl2, zipI, mkC_ok, mkL_f, w_nil, w_cons, bs_nil, bs_cons, List.all_cons, List.all_nil, id_eq, Bool.and_true, Bool.and_self, Bool.false_and, Bool.and_false, Bool.or_false, Bool.false_or, Bool.true_and, Bool.or_true, Bool.true_or, List.zipWith_cons_cons, List.zipWith_nil_right, List.zipWith_nil_left, decide_true, decide_false, l0, l1, l2, l3, if_true, List.reverse_cons, List.reverse_nil, nn_non, nn_int, nn_bl, nn_str, nn_tup, nn_lst, tlen, ite_and, ite_and', ite_or, Option.map_some, List.map_cons, List.map_nil, List.length_cons, List.length_nil, List.cons_append, List.nil_append, List.replicate, List.set_cons_zero, List.set_cons_succ, Nat.reduceSub, Nat.reduceAdd, Nat.reduceLeDiff, Nat.zero_le, Bool.not_true, Bool.not_false, ↓reduceIte, Bool.false_eq_true, f, trunc_exc]
theorem Pl_from {m : Int} (h : Pl m) : isFrom (.int m) 2 4 = true := by
  rcases h with rfl | rfl | rfl <;> rfl
theorem need_table_run (k n : Nat) (S : Store) (m : Int) (hm : Pl m) (v : Ev.D) (hg : gd n v = true) : prg.run (k + 4) 7 [.int m, v] S = if isTab m v = true then .ok .non S else .exc 2 S := by
  rw [run_succ (k + 3) 7 _ rfl, fn_run _ rfl]
  have f := need_players_run (k + 1) S (.int m) rfl
  rw [Pl_from hm, if_pos rfl] at f
  have g := good_run k n S m hm v hg
  cases hf : isTab m v with
  | true => rw [hf] at g; simp only [B_need_table, s_cons, s_nil, s_ret', s_ite', s_asg', s_par', s_asgc', s_expr', s_raise', s_loop', s_for', s_app', g_tv', g_tt', gs_nil', gs_cons', g_ts', i_one', i_rng1', i_rng2', i_rng3', i_enum', enumI_lst, enumI_tup, i_zip', e_var, e_int, e_str, e_bl, e_non, e_bin, e_neg, e_not, e_cmp, e_chain, e_and, e_or, e_one, e_ife, e_tup, e_lst, e_ix, e_call, e_prim, e_isi, e_comp, e_sl, e_rev, e_upper, e_rep, e_dnew, e_dz, e_dix, e_din, e_lrng1, e_lrng2, e_word, w_ok, s_dset', GL_call, GL_glob, GL_fuel, GL_nf, optE_nil, optE_int, optE_neg, optE_var, optE_bin, a_nil', a_cons', end_nx, end_rt, fl_nx, fl_rt, trunc_same, tst_bl, getV0, getVs, R.bind_ok, R.bind_exc, R.bind_bad, R.ofO_some, R.ofO_none, view_int, view_bl, view_str, view_non, view_tup, view_lst, view_scr, isTy, b_add, b_addT, b_addL, b_sub, b_mul, b_mulT, b_fdiv, b_mod, b_addB, b_subB, b_mulB, pow12, pow18, pow31, pow6, c_eq3, c_lt, c_le, c_gt, c_ge, c_isN, c_notN, c_isB, c_notB, c_eqI, c_neI, t_bl, t_int, t_non, t_tup, t_lst, p_len_t, p_len_l, p_abs, p_int, p_all, p_any, p_tupL, p_tupT, p_lstT, p_lstL, p_max2, p_min2, x_tup, x_lst, n_int, it_tup, it_lst, sl_tup, sl_lst, at0, at1, at2, sl1, sl2, zipI, mkC_ok, mkL_f, w_nil, w_cons, bs_nil, bs_cons, List.all_cons, List.all_nil, id_eq, Bool.and_true, Bool.and_self, Bool.false_and, Bool.and_false, Bool.or_false, Bool.false_or, Bool.true_and, Bool.or_true, Bool.true_or, List.zipWith_cons_cons, List.zipWith_nil_right, List.zipWith_nil_left, decide_true, decide_false, l0, l1, l2, l3, if_true, List.reverse_cons, List.reverse_nil, nn_non, nn_int, nn_bl, nn_str, nn_tup, nn_lst, tlen, ite_and, ite_and', ite_or, Option.map_some, List.map_cons, List.map_nil, List.length_cons, List.length_nil, List.cons_append, List.nil_append, List.replicate, List.set_cons_zero, List.set_cons_succ, Nat.reduceSub, Nat.reduceAdd, Nat.reduceLeDiff, Nat.zero_le, Bool.not_true, Bool.not_false, ↓reduceIte, Bool.false_eq_true, f, g, trunc_exc]
  | false => rw [hf] at g; simp only [B_need_table, s_cons, s_nil, s_ret', s_ite', s_asg', s_par', s_asgc', s_expr', s_raise', s_loop', s_for', s_app', g_tv', g_tt', gs_nil', gs_cons', g_ts', i_one', i_rng1', i_rng2', i_rng3', i_enum', enumI_lst, enumI_tup, i_zip', e_var, e_int, e_str, e_bl, e_non, e_bin, e_neg, e_not, e_cmp, e_chain, e_and, e_or, e_one, e_ife, e_tup, e_lst, e_ix, e_call, e_prim, e_isi, e_comp, e_sl, e_rev, e_upper, e_rep, e_dnew, e_dz, e_dix, e_din, e_lrng1, e_lrng2, e_word, w_ok, s_dset', GL_call, GL_glob, GL_fuel, GL_nf, optE_nil, optE_int, optE_neg, optE_var, optE_bin, a_nil', a_cons', end_nx, end_rt, fl_nx, fl_rt, trunc_same, tst_bl, getV0, getVs, R.bind_ok, R.bind_exc, R.bind_bad, R.ofO_some, R.ofO_none, view_int, view_bl, view_str, view_non, view_tup, view_lst, view_scr, isTy, b_add, b_addT, b_addL, b_sub, b_mul, b_mulT, b_fdiv, b_mod, b_addB, b_subB, b_mulB, pow12, pow18, pow31, pow6, c_eq3, c_lt, c_le, c_gt, c_ge, c_isN, c_notN, c_isB, c_notB, c_eqI, c_neI, t_bl, t_int, t_non, t_tup, t_lst, p_len_t, p_len_l, p_abs, p_int, p_all, p_any, p_tupL, p_tupT, p_lstT, p_lstL, p_max2, p_min2, x_tup, x_lst, n_int, it_tup, it_lst, sl_tup, sl_lst, at0, at1, at2, sl1, sl2, zipI, mkC_ok, mkL_f, w_nil, w_cons, bs_nil, bs_cons, List.all_cons, List.all_nil, id_eq, Bool.and_true, Bool.and_self, Bool.false_and, Bool.and_false, Bool.or_false, Bool.false_or, Bool.true_and, Bool.or_true, Bool.true_or, List.zipWith_cons_cons, List.zipWith_nil_right, List.zipWith_nil_left, decide_true, decide_false, l0, l1, l2, l3, if_true, List.reverse_cons, List.reverse_nil, nn_non, nn_int, nn_bl, nn_str, nn_tup, nn_lst, tlen, ite_and, ite_and', ite_or, Option.map_some, List.map_cons, List.map_nil, List.length_cons, List.length_nil, List.cons_append, List.nil_append, List.replicate, List.set_cons_zero, List.set_cons_succ, Nat.reduceSub, Nat.reduceAdd, Nat.reduceLeDiff, Nat.zero_le, Bool.not_true, Bool.not_false, ↓reduceIte, Bool.false_eq_true, f, g, trunc_exc]
theorem need_table_bad (k : Nat) (S : Store) (v w : Ev.D) (h : isDat v = true) (hf : isFrom v 2 4 = false) : prg.run (k + 4) 7 [v, w] S = .exc 1 S := by
  rw [run_succ (k + 3) 7 _ rfl, fn_run _ rfl]
  have f := need_players_run (k + 1) S v h
  rw [hf, if_neg (by decide)] at f
  simp only [B_need_table, s_cons, s_nil, s_ret', s_ite', s_asg', s_par', s_asgc', s_expr', s_raise', s_loop', s_for', s_app', g_tv', g_tt', gs_nil', gs_cons', g_ts', i_one', i_rng1', i_rng2', i_rng3', i_enum', enumI_lst, enumI_tup, i_zip', e_var, e_int, e_str, e_bl, e_non, e_bin, e_neg, e_not, e_cmp, e_chain, e_and, e_or, e_one, e_ife, e_tup, e_lst, e_ix, e_call, e_prim, e_isi, e_comp, e_sl, e_rev, e_upper, e_rep, e_dnew, e_dz, e_dix, e_din, e_lrng1, e_lrng2, e_word, w_ok, s_dset', GL_call, GL_glob, GL_fuel, GL_nf, optE_nil, optE_int, optE_neg, optE_var, optE_bin, a_nil', a_cons', end_nx, end_rt, fl_nx, fl_rt, trunc_same, tst_bl, getV0, getVs, R.bind_ok, R.bind_exc, R.bind_bad, R.ofO_some, R.ofO_none, view_int, view_bl, view_str, view_non, view_tup, view_lst, view_scr, isTy, b_add, b_addT, b_addL, b_sub, b_mul, b_mulT, b_fdiv, b_mod, b_addB, b_subB, b_mulB, pow12, pow18, pow31, pow6, c_eq3, c_lt, c_le, c_gt, c_ge, c_isN, c_notN, c_isB, c_notB, c_eqI, c_neI, t_bl, t_int, t_non, t_tup, t_lst, p_len_t, p_len_l, p_abs, p_int, p_all, p_any, p_tupL, p_tupT, p_lstT, p_lstL, p_max2, p_min2, x_tup, x_lst, n_int, it_tup, it_lst, sl_tup, sl_lst, at0, at1, at2, sl1, sl2, zipI, mkC_ok, mkL_f, w_nil, w_cons, bs_nil, bs_cons, List.all_cons, List.all_nil, id_eq, Bool.and_true, Bool.and_self, Bool.false_and, Bool.and_false, Bool.or_false, Bool.false_or, Bool.true_and, Bool.or_true, Bool.true_or, List.zipWith_cons_cons, List.zipWith_nil_right, List.zipWith_nil_left, decide_true, decide_false, l0, l1, l2, l3, if_true, List.reverse_cons, List.reverse_nil, nn_non, nn_int, nn_bl, nn_str, nn_tup, nn_lst, tlen, ite_and, ite_and', ite_or, Option.map_some, List.map_cons, List.map_nil, List.length_cons, List.length_nil, List.cons_append, List.nil_append, List.replicate, List.set_cons_zero, List.set_cons_succ, Nat.reduceSub, Nat.reduceAdd, Nat.reduceLeDiff, Nat.zero_le, Bool.not_true, Bool.not_false, ↓reduceIte, Bool.false_eq_true, f, trunc_exc]
theorem is_table_run (k n : Nat) (S : Store) (m : Int) (hm : Pl m) (v : Ev.D) (hg : gd n v = true) : prg.run (k + 5) 9 [.int m, v] S = .ok (.bl (isTab m v)) S := by
  rw [run_succ (k + 4) 9 _ rfl, fn_run _ rfl]
  have f := need_players_run (k + 2) S (.int m) rfl
  rw [Pl_from hm, if_pos rfl] at f
  have g := good_run (k + 1) n S m hm v hg
  simp only [B_is_table, s_cons, s_nil, s_ret', s_ite', s_asg', s_par', s_asgc', s_expr', s_raise', s_loop', s_for', s_app', g_tv', g_tt', gs_nil', gs_cons', g_ts', i_one', i_rng1', i_rng2', i_rng3', i_enum', enumI_lst, enumI_tup, i_zip', e_var, e_int, e_str, e_bl, e_non, e_bin, e_neg, e_not, e_cmp, e_chain, e_and, e_or, e_one, e_ife, e_tup, e_lst, e_ix, e_call, e_prim, e_isi, e_comp, e_sl, e_rev, e_upper, e_rep, e_dnew, e_dz, e_dix, e_din, e_lrng1, e_lrng2, e_word, w_ok, s_dset', GL_call, GL_glob, GL_fuel, GL_nf, optE_nil, optE_int, optE_neg, optE_var, optE_bin, a_nil', a_cons', end_nx, end_rt, fl_nx, fl_rt, trunc_same, tst_bl, getV0, getVs, R.bind_ok, R.bind_exc, R.bind_bad, R.ofO_some, R.ofO_none, view_int, view_bl, view_str, view_non, view_tup, view_lst, view_scr, isTy, b_add, b_addT, b_addL, b_sub, b_mul, b_mulT, b_fdiv, b_mod, b_addB, b_subB, b_mulB, pow12, pow18, pow31, pow6, c_eq3, c_lt, c_le, c_gt, c_ge, c_isN, c_notN, c_isB, c_notB, c_eqI, c_neI, t_bl, t_int, t_non, t_tup, t_lst, p_len_t, p_len_l, p_abs, p_int, p_all, p_any, p_tupL, p_tupT, p_lstT, p_lstL, p_max2, p_min2, x_tup, x_lst, n_int, it_tup, it_lst, sl_tup, sl_lst, at0, at1, at2, sl1, sl2, zipI, mkC_ok, mkL_f, w_nil, w_cons, bs_nil, bs_cons, List.all_cons, List.all_nil, id_eq, Bool.and_true, Bool.and_self, Bool.false_and, Bool.and_false, Bool.or_false, Bool.false_or, Bool.true_and, Bool.or_true, Bool.true_or, List.zipWith_cons_cons, List.zipWith_nil_right, List.zipWith_nil_left, decide_true, decide_false, l0, l1, l2, l3, if_true, List.reverse_cons, List.reverse_nil, nn_non, nn_int, nn_bl, nn_str, nn_tup, nn_lst, tlen, ite_and, ite_and', ite_or, Option.map_some, List.map_cons, List.map_nil, List.length_cons, List.length_nil, List.cons_append, List.nil_append, List.replicate, List.set_cons_zero, List.set_cons_succ, Nat.reduceSub, Nat.reduceAdd, Nat.reduceLeDiff, Nat.zero_le, Bool.not_true, Bool.not_false, ↓reduceIte, Bool.false_eq_true, f, g]
theorem is_table_bad (k : Nat) (S : Store) (v w : Ev.D) (h : isDat v = true) (hf : isFrom v 2 4 = false) : prg.run (k + 5) 9 [v, w] S = .exc 1 S := by
  rw [run_succ (k + 4) 9 _ rfl, fn_run _ rfl]
  have f := need_players_run (k + 2) S v h
  rw [hf, if_neg (by decide)] at f
  simp only [B_is_table, s_cons, s_nil, s_ret', s_ite', s_asg', s_par', s_asgc', s_expr', s_raise', s_loop', s_for', s_app', g_tv', g_tt', gs_nil', gs_cons', g_ts', i_one', i_rng1', i_rng2', i_rng3', i_enum', enumI_lst, enumI_tup, i_zip', e_var, e_int, e_str, e_bl, e_non, e_bin, e_neg, e_not, e_cmp, e_chain, e_and, e_or, e_one, e_ife, e_tup, e_lst, e_ix, e_call, e_prim, e_isi, e_comp, e_sl, e_rev, e_upper, e_rep, e_dnew, e_dz, e_dix, e_din, e_lrng1, e_lrng2, e_word, w_ok, s_dset', GL_call, GL_glob, GL_fuel, GL_nf, optE_nil, optE_int, optE_neg, optE_var, optE_bin, a_nil', a_cons', end_nx, end_rt, fl_nx, fl_rt, trunc_same, tst_bl, getV0, getVs, R.bind_ok, R.bind_exc, R.bind_bad, R.ofO_some, R.ofO_none, view_int, view_bl, view_str, view_non, view_tup, view_lst, view_scr, isTy, b_add, b_addT, b_addL, b_sub, b_mul, b_mulT, b_fdiv, b_mod, b_addB, b_subB, b_mulB, pow12, pow18, pow31, pow6, c_eq3, c_lt, c_le, c_gt, c_ge, c_isN, c_notN, c_isB, c_notB, c_eqI, c_neI, t_bl, t_int, t_non, t_tup, t_lst, p_len_t, p_len_l, p_abs, p_int, p_all, p_any, p_tupL, p_tupT, p_lstT, p_lstL, p_max2, p_min2, x_tup, x_lst, n_int, it_tup, it_lst, sl_tup, sl_lst, at0, at1, at2, sl1, sl2, zipI, mkC_ok, mkL_f, w_nil, w_cons, bs_nil, bs_cons, List.all_cons, List.all_nil, id_eq, Bool.and_true, Bool.and_self, Bool.false_and, Bool.and_false, Bool.or_false, Bool.false_or, Bool.true_and, Bool.or_true, Bool.true_or, List.zipWith_cons_cons, List.zipWith_nil_right, List.zipWith_nil_left, decide_true, decide_false, l0, l1, l2, l3, if_true, List.reverse_cons, List.reverse_nil, nn_non, nn_int, nn_bl, nn_str, nn_tup, nn_lst, tlen, ite_and, ite_and', ite_or, Option.map_some, List.map_cons, List.map_nil, List.length_cons, List.length_nil, List.cons_append, List.nil_append, List.replicate, List.set_cons_zero, List.set_cons_succ, Nat.reduceSub, Nat.reduceAdd, Nat.reduceLeDiff, Nat.zero_le, Bool.not_true, Bool.not_false, ↓reduceIte, Bool.false_eq_true, f, trunc_exc]
theorem comes_bad (k : Nat) (S : Store) (v w : Ev.D) (h : isDat v = true) (hf : isFrom v 2 4 = false) : prg.run (k + 5) 10 [v, w] S = .exc 1 S := by
  rw [run_succ (k + 4) 10 _ rfl, fn_run _ rfl]
  have f := need_table_bad k S v w h hf
  simp only [B_comes_from, s_cons, s_nil, s_ret', s_ite', s_asg', s_par', s_asgc', s_expr', s_raise', s_loop', s_for', s_app', g_tv', g_tt', gs_nil', gs_cons', g_ts', i_one', i_rng1', i_rng2', i_rng3', i_enum', enumI_lst, enumI_tup, i_zip', e_var, e_int, e_str, e_bl, e_non, e_bin, e_neg, e_not, e_cmp, e_chain, e_and, e_or, e_one, e_ife, e_tup, e_lst, e_ix, e_call, e_prim, e_isi, e_comp, e_sl, e_rev, e_upper, e_rep, e_dnew, e_dz, e_dix, e_din, e_lrng1, e_lrng2, e_word, w_ok, s_dset', GL_call, GL_glob, GL_fuel, GL_nf, optE_nil, optE_int, optE_neg, optE_var, optE_bin, a_nil', a_cons', end_nx, end_rt, fl_nx, fl_rt, trunc_same, tst_bl, getV0, getVs, R.bind_ok, R.bind_exc, R.bind_bad, R.ofO_some, R.ofO_none, view_int, view_bl, view_str, view_non, view_tup, view_lst, view_scr, isTy, b_add, b_addT, b_addL, b_sub, b_mul, b_mulT, b_fdiv, b_mod, b_addB, b_subB, b_mulB, pow12, pow18, pow31, pow6, c_eq3, c_lt, c_le, c_gt, c_ge, c_isN, c_notN, c_isB, c_notB, c_eqI, c_neI, t_bl, t_int, t_non, t_tup, t_lst, p_len_t, p_len_l, p_abs, p_int, p_all, p_any, p_tupL, p_tupT, p_lstT, p_lstL, p_max2, p_min2, x_tup, x_lst, n_int, it_tup, it_lst, sl_tup, sl_lst, at0, at1, at2, sl1, sl2, zipI, mkC_ok, mkL_f, w_nil, w_cons, bs_nil, bs_cons, List.all_cons, List.all_nil, id_eq, Bool.and_true, Bool.and_self, Bool.false_and, Bool.and_false, Bool.or_false, Bool.false_or, Bool.true_and, Bool.or_true, Bool.true_or, List.zipWith_cons_cons, List.zipWith_nil_right, List.zipWith_nil_left, decide_true, decide_false, l0, l1, l2, l3, if_true, List.reverse_cons, List.reverse_nil, nn_non, nn_int, nn_bl, nn_str, nn_tup, nn_lst, tlen, ite_and, ite_and', ite_or, Option.map_some, List.map_cons, List.map_nil, List.length_cons, List.length_nil, List.cons_append, List.nil_append, List.replicate, List.set_cons_zero, List.set_cons_succ, Nat.reduceSub, Nat.reduceAdd, Nat.reduceLeDiff, Nat.zero_le, Bool.not_true, Bool.not_false, ↓reduceIte, Bool.false_eq_true, f, trunc_exc]
theorem ring_bad (k : Nat) (S : Store) (v w : Ev.D) (h : isDat v = true) (hf : isFrom v 2 4 = false) : prg.run (k + 5) 11 [v, w] S = .exc 1 S := by
  rw [run_succ (k + 4) 11 _ rfl, fn_run _ rfl]
  have f := need_table_bad k S v w h hf
  simp only [B_wrong_ring, s_cons, s_nil, s_ret', s_ite', s_asg', s_par', s_asgc', s_expr', s_raise', s_loop', s_for', s_app', g_tv', g_tt', gs_nil', gs_cons', g_ts', i_one', i_rng1', i_rng2', i_rng3', i_enum', enumI_lst, enumI_tup, i_zip', e_var, e_int, e_str, e_bl, e_non, e_bin, e_neg, e_not, e_cmp, e_chain, e_and, e_or, e_one, e_ife, e_tup, e_lst, e_ix, e_call, e_prim, e_isi, e_comp, e_sl, e_rev, e_upper, e_rep, e_dnew, e_dz, e_dix, e_din, e_lrng1, e_lrng2, e_word, w_ok, s_dset', GL_call, GL_glob, GL_fuel, GL_nf, optE_nil, optE_int, optE_neg, optE_var, optE_bin, a_nil', a_cons', end_nx, end_rt, fl_nx, fl_rt, trunc_same, tst_bl, getV0, getVs, R.bind_ok, R.bind_exc, R.bind_bad, R.ofO_some, R.ofO_none, view_int, view_bl, view_str, view_non, view_tup, view_lst, view_scr, isTy, b_add, b_addT, b_addL, b_sub, b_mul, b_mulT, b_fdiv, b_mod, b_addB, b_subB, b_mulB, pow12, pow18, pow31, pow6, c_eq3, c_lt, c_le, c_gt, c_ge, c_isN, c_notN, c_isB, c_notB, c_eqI, c_neI, t_bl, t_int, t_non, t_tup, t_lst, p_len_t, p_len_l, p_abs, p_int, p_all, p_any, p_tupL, p_tupT, p_lstT, p_lstL, p_max2, p_min2, x_tup, x_lst, n_int, it_tup, it_lst, sl_tup, sl_lst, at0, at1, at2, sl1, sl2, zipI, mkC_ok, mkL_f, w_nil, w_cons, bs_nil, bs_cons, List.all_cons, List.all_nil, id_eq, Bool.and_true, Bool.and_self, Bool.false_and, Bool.and_false, Bool.or_false, Bool.false_or, Bool.true_and, Bool.or_true, Bool.true_or, List.zipWith_cons_cons, List.zipWith_nil_right, List.zipWith_nil_left, decide_true, decide_false, l0, l1, l2, l3, if_true, List.reverse_cons, List.reverse_nil, nn_non, nn_int, nn_bl, nn_str, nn_tup, nn_lst, tlen, ite_and, ite_and', ite_or, Option.map_some, List.map_cons, List.map_nil, List.length_cons, List.length_nil, List.cons_append, List.nil_append, List.replicate, List.set_cons_zero, List.set_cons_succ, Nat.reduceSub, Nat.reduceAdd, Nat.reduceLeDiff, Nat.zero_le, Bool.not_true, Bool.not_false, ↓reduceIte, Bool.false_eq_true, f, trunc_exc]
theorem comes_not (k n : Nat) (S : Store) (m : Int) (hm : Pl m) (v : Ev.D) (hg : gd n v = true) (ht : isTab m v = false) : prg.run (k + 5) 10 [.int m, v] S = .exc 2 S := by
  rw [run_succ (k + 4) 10 _ rfl, fn_run _ rfl]
  have f := need_table_run k n S m hm v hg
  rw [ht, if_neg (by decide)] at f
  simp only [B_comes_from, s_cons, s_nil, s_ret', s_ite', s_asg', s_par', s_asgc', s_expr', s_raise', s_loop', s_for', s_app', g_tv', g_tt', gs_nil', gs_cons', g_ts', i_one', i_rng1', i_rng2', i_rng3', i_enum', enumI_lst, enumI_tup, i_zip', e_var, e_int, e_str, e_bl, e_non, e_bin, e_neg, e_not, e_cmp, e_chain, e_and, e_or, e_one, e_ife, e_tup, e_lst, e_ix, e_call, e_prim, e_isi, e_comp, e_sl, e_rev, e_upper, e_rep, e_dnew, e_dz, e_dix, e_din, e_lrng1, e_lrng2, e_word, w_ok, s_dset', GL_call, GL_glob, GL_fuel, GL_nf, optE_nil, optE_int, optE_neg, optE_var, optE_bin, a_nil', a_cons', end_nx, end_rt, fl_nx, fl_rt, trunc_same, tst_bl, getV0, getVs, R.bind_ok, R.bind_exc, R.bind_bad, R.ofO_some, R.ofO_none, view_int, view_bl, view_str, view_non, view_tup, view_lst, view_scr, isTy, b_add, b_addT, b_addL, b_sub, b_mul, b_mulT, b_fdiv, b_mod, b_addB, b_subB, b_mulB, pow12, pow18, pow31, pow6, c_eq3, c_lt, c_le, c_gt, c_ge, c_isN, c_notN, c_isB, c_notB, c_eqI, c_neI, t_bl, t_int, t_non, t_tup, t_lst, p_len_t, p_len_l, p_abs, p_int, p_all, p_any, p_tupL, p_tupT, p_lstT, p_lstL, p_max2, p_min2, x_tup, x_lst, n_int, it_tup, it_lst, sl_tup, sl_lst, at0, at1, at2, sl1, sl2, zipI, mkC_ok, mkL_f, w_nil, w_cons, bs_nil, bs_cons, List.all_cons, List.all_nil, id_eq, Bool.and_true, Bool.and_self, Bool.false_and, Bool.and_false, Bool.or_false, Bool.false_or, Bool.true_and, Bool.or_true, Bool.true_or, List.zipWith_cons_cons, List.zipWith_nil_right, List.zipWith_nil_left, decide_true, decide_false, l0, l1, l2, l3, if_true, List.reverse_cons, List.reverse_nil, nn_non, nn_int, nn_bl, nn_str, nn_tup, nn_lst, tlen, ite_and, ite_and', ite_or, Option.map_some, List.map_cons, List.map_nil, List.length_cons, List.length_nil, List.cons_append, List.nil_append, List.replicate, List.set_cons_zero, List.set_cons_succ, Nat.reduceSub, Nat.reduceAdd, Nat.reduceLeDiff, Nat.zero_le, Bool.not_true, Bool.not_false, ↓reduceIte, Bool.false_eq_true, f, trunc_exc]
theorem ring_not (k n : Nat) (S : Store) (m : Int) (hm : Pl m) (v : Ev.D) (hg : gd n v = true) (ht : isTab m v = false) : prg.run (k + 5) 11 [.int m, v] S = .exc 2 S := by
  rw [run_succ (k + 4) 11 _ rfl, fn_run _ rfl]
  have f := need_table_run k n S m hm v hg
  rw [ht, if_neg (by decide)] at f
  simp only [B_wrong_ring, s_cons, s_nil, s_ret', s_ite', s_asg', s_par', s_asgc', s_expr', s_raise', s_loop', s_for', s_app', g_tv', g_tt', gs_nil', gs_cons', g_ts', i_one', i_rng1', i_rng2', i_rng3', i_enum', enumI_lst, enumI_tup, i_zip', e_var, e_int, e_str, e_bl, e_non, e_bin, e_neg, e_not, e_cmp, e_chain, e_and, e_or, e_one, e_ife, e_tup, e_lst, e_ix, e_call, e_prim, e_isi, e_comp, e_sl, e_rev, e_upper, e_rep, e_dnew, e_dz, e_dix, e_din, e_lrng1, e_lrng2, e_word, w_ok, s_dset', GL_call, GL_glob, GL_fuel, GL_nf, optE_nil, optE_int, optE_neg, optE_var, optE_bin, a_nil', a_cons', end_nx, end_rt, fl_nx, fl_rt, trunc_same, tst_bl, getV0, getVs, R.bind_ok, R.bind_exc, R.bind_bad, R.ofO_some, R.ofO_none, view_int, view_bl, view_str, view_non, view_tup, view_lst, view_scr, isTy, b_add, b_addT, b_addL, b_sub, b_mul, b_mulT, b_fdiv, b_mod, b_addB, b_subB, b_mulB, pow12, pow18, pow31, pow6, c_eq3, c_lt, c_le, c_gt, c_ge, c_isN, c_notN, c_isB, c_notB, c_eqI, c_neI, t_bl, t_int, t_non, t_tup, t_lst, p_len_t, p_len_l, p_abs, p_int, p_all, p_any, p_tupL, p_tupT, p_lstT, p_lstL, p_max2, p_min2, x_tup, x_lst, n_int, it_tup, it_lst, sl_tup, sl_lst, at0, at1, at2, sl1, sl2, zipI, mkC_ok, mkL_f, w_nil, w_cons, bs_nil, bs_cons, List.all_cons, List.all_nil, id_eq, Bool.and_true, Bool.and_self, Bool.false_and, Bool.and_false, Bool.or_false, Bool.false_or, Bool.true_and, Bool.or_true, Bool.true_or, List.zipWith_cons_cons, List.zipWith_nil_right, List.zipWith_nil_left, decide_true, decide_false, l0, l1, l2, l3, if_true, List.reverse_cons, List.reverse_nil, nn_non, nn_int, nn_bl, nn_str, nn_tup, nn_lst, tlen, ite_and, ite_and', ite_or, Option.map_some, List.map_cons, List.map_nil, List.length_cons, List.length_nil, List.cons_append, List.nil_append, List.replicate, List.set_cons_zero, List.set_cons_succ, Nat.reduceSub, Nat.reduceAdd, Nat.reduceLeDiff, Nat.zero_le, Bool.not_true, Bool.not_false, ↓reduceIte, Bool.false_eq_true, f, trunc_exc]
end K10
end
section
set_option Elab.async false
set_option linter.all false
set_option maxRecDepth 100000
set_option maxHeartbeats 4000000
set_option exponentiation.threshold 100000
namespace Ev
open PySem (Str)
theorem eq_fr {a b : Rat} : eqD (fr a) (fr b) = decide (a = b) := by
  unfold fr
  by_cases h : a = b
  · subst h; simp [eqD, eqL]
  · have : ¬ (a.num = b.num ∧ a.den = b.den) := fun ⟨h1, h2⟩ => h (Rat.ext h1 h2)
    simp only [eqD, eqL, h, decide_false, Bool.and_true]
    by_cases h1 : a.num = b.num
    · have h2 : ¬ a.den = b.den := fun h2 => this ⟨h1, h2⟩
      have h3 : ¬ (a.den : Int) = (b.den : Int) := fun h3 => h2 (by exact_mod_cast h3)
      simp [h1, h3]
    · simp [h1]
theorem c_neF {S : Store} {a b : Rat} : cmpD S .ne (fr a) (fr b) = some (!decide (a = b)) := by
  have d1 := der_ok (S := S) 16 (fr a) rfl
  have d2 := der_ok (S := S) 16 (fr b) rfl
  have o1 : okD 16 (fr a) = true := rfl
  have o2 : okD 16 (fr b) = true := rfl
  simp only [cmpD, d1, d2, o1, o2, Bool.and_self, if_true, eq_fr]
theorem c_neT {S : Store} {a b : Rat} : cmpD S .ne (.tup [.int a.num, .int (a.den : Int)]) (.tup [.int b.num, .int (b.den : Int)]) = some (!decide (a = b)) := c_neF
abbrev kk (i j : Int) : List L2.Key := [.inl i, .inl j]
theorem dz2 {x : D} : dzD (.lst (prD 2)) (.tup [x]) = some [(kk 0 1, x)] := by
  have h : keysD (prD 2) = some [kk 0 1] := by decide +kernel
  have hn : [kk 0 1].Nodup := by decide
  simp only [dzD, h, hn]
  simp [prD]
theorem dz3 {x y z : D} : dzD (.lst (prD 3)) (.tup [x, y, z]) = some [(kk 0 1, x), (kk 0 2, y), (kk 1 2, z)] := by
  have h : keysD (prD 3) = some [kk 0 1, kk 0 2, kk 1 2] := by decide +kernel
  have hn : [kk 0 1, kk 0 2, kk 1 2].Nodup := by decide
  simp only [dzD, h, hn]
  simp [prD]
theorem dz4 {x1 x2 x3 x4 x5 x6 : D} : dzD (.lst (prD 4)) (.tup [x1, x2, x3, x4, x5, x6]) = some [(kk 0 1, x1), (kk 0 2, x2), (kk 0 3, x3), (kk 1 2, x4), (kk 1 3, x5), (kk 2 3, x6)] := by
  have h : keysD (prD 4) = some [kk 0 1, kk 0 2, kk 0 3, kk 1 2, kk 1 3, kk 2 3] := by decide +kernel
  have hn : [kk 0 1, kk 0 2, kk 0 3, kk 1 2, kk 1 3, kk 2 3].Nodup := by decide
  simp only [dzD, h, hn]
  simp [prD]
theorem dget2 {S0 : Store} {kvs : List (List L2.Key × D)} {i j : Int} : dgetD (S0 ++ [.dT kvs]) (.cel S0.length) [.int i, .int j] = getK kvs (kk i j) := by
  simp [dgetD, dicOf, keyT, keyL, keyD]
section
variable {x1 x2 x3 x4 x5 x6 : D}
theorem t3_01 : getK [(kk 0 1, x1), (kk 0 2, x2), (kk 1 2, x3)] (kk 0 1) = some x1 := id rfl
theorem t3_02 : getK [(kk 0 1, x1), (kk 0 2, x2), (kk 1 2, x3)] (kk 0 2) = some x2 := id rfl
theorem t3_12 : getK [(kk 0 1, x1), (kk 0 2, x2), (kk 1 2, x3)] (kk 1 2) = some x3 := id rfl
theorem t4_01 : getK [(kk 0 1, x1), (kk 0 2, x2), (kk 0 3, x3), (kk 1 2, x4), (kk 1 3, x5), (kk 2 3, x6)] (kk 0 1) = some x1 := id rfl
theorem t4_02 : getK [(kk 0 1, x1), (kk 0 2, x2), (kk 0 3, x3), (kk 1 2, x4), (kk 1 3, x5), (kk 2 3, x6)] (kk 0 2) = some x2 := id rfl
theorem t4_03 : getK [(kk 0 1, x1), (kk 0 2, x2), (kk 0 3, x3), (kk 1 2, x4), (kk 1 3, x5), (kk 2 3, x6)] (kk 0 3) = some x3 := id rfl
theorem t4_12 : getK [(kk 0 1, x1), (kk 0 2, x2), (kk 0 3, x3), (kk 1 2, x4), (kk 1 3, x5), (kk 2 3, x6)] (kk 1 2) = some x4 := id rfl
theorem t4_13 : getK [(kk 0 1, x1), (kk 0 2, x2), (kk 0 3, x3), (kk 1 2, x4), (kk 1 3, x5), (kk 2 3, x6)] (kk 1 3) = some x5 := id rfl
theorem t4_23 : getK [(kk 0 1, x1), (kk 0 2, x2), (kk 0 3, x3), (kk 1 2, x4), (kk 1 3, x5), (kk 2 3, x6)] (kk 2 3) = some x6 := id rfl
end
theorem trunc_cut {S : Store} {o : O} {d : D} (h : below S.length d = true) (hS : S.all (belowO S.length) = true) : trunc S.length (.ok d (S ++ [o])) = .ok d S := by
  simp [trunc, h, hS]
end Ev
namespace K10
open Ev
open PySem (Str)
/-- what stands in a table -/
def Tb (x : Rat) : Prop := 0 < x ∧ Sz 20 x ∧ isFrac (fr x) 1000000 = true
theorem low40 (k : Nat) (S : Store) (x y : Rat) (hx : Tb x) (hy : Tb y) : prg.run (k + 2) 2 [.int (x.num * y.num), .int ((x.den : Int) * (y.den : Int))] S = .ok (fr (x * y)) S := by
  have h := lowest_run k 40 S (x.num * y.num) ((x.den : Int) * (y.den : Int)) (abs_mul_lt hx.2.1.den hy.2.1.den) (Int.mul_pos (den_pos x) (den_pos y)) (by decide)
  rw [mul_eq] at h
  exact h
theorem mo1 {x y : Rat} (hx : Tb x) (hy : Tb y) : mulOk x.num y.num = true := mulOk_sz hx.2.1.1 hy.2.1.1 (by decide)
theorem mo2 {x y : Rat} (hx : Tb x) (hy : Tb y) : mulOk (x.den : Int) (y.den : Int) = true := mulOk_sz hx.2.1.den hy.2.1.den (by decide)
theorem mo3 {x y z : Rat} (hx : Tb x) (hy : Tb y) (hz : Tb z) : mulOk (x.num * y.num) (z.den : Int) = true := mulOk_sz (abs_mul_lt hx.2.1.1 hy.2.1.1) hz.2.1.den (by decide)
theorem mo4 {x y z : Rat} (hx : Tb x) (hy : Tb y) (hz : Tb z) : mulOk ((x.den : Int) * (y.den : Int)) z.num = true := mulOk_sz (abs_mul_lt hx.2.1.den hy.2.1.den) hz.2.1.1 (by decide)
def tri (i j l : Int) : Ev.D := .tup [.int i, .int j, .int l]
/-- the first ring that is wrong -/
def fw2 : Ev.D := .non
def fw3 (a b c : Rat) : Ev.D := if a * c = b then .non else .tup [.int 0, .int 1, .int 2]
def fw4 (a b c d e f : Rat) : Ev.D := if a * d = b then (if a * e = c then (if b * f = c then (if d * f = e then .non else .tup [.int 1, .int 2, .int 3]) else .tup [.int 0, .int 2, .int 3]) else .tup [.int 0, .int 1, .int 3]) else .tup [.int 0, .int 1, .int 2]
section
variable (k : Nat) (S : Store) (hS : S.all (belowO S.length) = true)
include hS
theorem wrong2 (a : Rat) (ha : Tb a) : prg.run (k + 3) 8 [.int 2, .tup [fr a]] S = .ok fw2 S := by
  have ap := fun T => all_pairs_run (k + 1) T 2 (.inl rfl)
  rw [run_succ (k + 2) 8 _ rfl, fn_run _ rfl]
  simp only [B_first_wrong, s_cons, s_nil, s_ret', s_ite', s_asg', s_par', s_asgc', s_expr', s_raise', s_loop', s_for', s_app', g_tv', g_tt', gs_nil', gs_cons', g_ts', i_one', i_rng1', i_rng2', i_rng3', i_enum', enumI_lst, enumI_tup, i_zip', e_var, e_int, e_str, e_bl, e_non, e_bin, e_neg, e_not, e_cmp, e_chain, e_and, e_or, e_one, e_ife, e_tup, e_lst, e_ix, e_call, e_prim, e_isi, e_comp, e_sl, e_rev, e_upper, e_rep, e_dnew, e_dz, e_dix, e_din, e_lrng1, e_lrng2, e_word, w_ok, s_dset', GL_call, GL_glob, GL_fuel, GL_nf, optE_nil, optE_int, optE_neg, optE_var, optE_bin, a_nil', a_cons', end_nx, end_rt, fl_nx, fl_rt, trunc_same, tst_bl, getV0, getVs, R.bind_ok, R.bind_exc, R.bind_bad, R.ofO_some, R.ofO_none, view_int, view_bl, view_str, view_non, view_tup, view_lst, view_scr, isTy, b_add, b_addT, b_addL, b_sub, b_mul, b_mulT, b_fdiv, b_mod, b_addB, b_subB, b_mulB, pow12, pow18, pow31, pow6, c_eq3, c_lt, c_le, c_gt, c_ge, c_isN, c_notN, c_isB, c_notB, c_eqI, c_neI, t_bl, t_int, t_non, t_tup, t_lst, p_len_t, p_len_l, p_abs, p_int, p_all, p_any, p_tupL, p_tupT, p_lstT, p_lstL, p_max2, p_min2, x_tup, x_lst, n_int, it_tup, it_lst, sl_tup, sl_lst, at0, at1, at2, sl1, sl2, zipI, mkC_ok, mkL_f, w_nil, w_cons, bs_nil, bs_cons, List.all_cons, List.all_nil, id_eq, Bool.and_true, Bool.and_self, Bool.false_and, Bool.and_false, Bool.or_false, Bool.false_or, Bool.true_and, Bool.or_true, Bool.true_or, List.zipWith_cons_cons, List.zipWith_nil_right, List.zipWith_nil_left, decide_true, decide_false, l0, l1, l2, l3, if_true, List.reverse_cons, List.reverse_nil, nn_non, nn_int, nn_bl, nn_str, nn_tup, nn_lst, tlen, ite_and, ite_and', ite_or, Option.map_some, List.map_cons, List.map_nil, List.length_cons, List.length_nil, List.cons_append, List.nil_append, List.replicate, List.set_cons_zero, List.set_cons_succ, Nat.reduceSub, Nat.reduceAdd, Nat.reduceLeDiff, Nat.zero_le, Bool.not_true, Bool.not_false, ↓reduceIte, Bool.false_eq_true, ap, dz2]
  simp only [s_cons, s_nil, s_ret', s_ite', s_asg', s_par', s_asgc', s_expr', s_raise', s_loop', s_for', s_app', g_tv', g_tt', gs_nil', gs_cons', g_ts', i_one', i_rng1', i_rng2', i_rng3', i_enum', enumI_lst, enumI_tup, i_zip', e_var, e_int, e_str, e_bl, e_non, e_bin, e_neg, e_not, e_cmp, e_chain, e_and, e_or, e_one, e_ife, e_tup, e_lst, e_ix, e_call, e_prim, e_isi, e_comp, e_sl, e_rev, e_upper, e_rep, e_dnew, e_dz, e_dix, e_din, e_lrng1, e_lrng2, e_word, w_ok, s_dset', GL_call, GL_glob, GL_fuel, GL_nf, optE_nil, optE_int, optE_neg, optE_var, optE_bin, a_nil', a_cons', end_nx, end_rt, fl_nx, fl_rt, trunc_same, tst_bl, getV0, getVs, R.bind_ok, R.bind_exc, R.bind_bad, R.ofO_some, R.ofO_none, view_int, view_bl, view_str, view_non, view_tup, view_lst, view_scr, isTy, b_add, b_addT, b_addL, b_sub, b_mul, b_mulT, b_fdiv, b_mod, b_addB, b_subB, b_mulB, pow12, pow18, pow31, pow6, c_eq3, c_lt, c_le, c_gt, c_ge, c_isN, c_notN, c_isB, c_notB, c_eqI, c_neI, t_bl, t_int, t_non, t_tup, t_lst, p_len_t, p_len_l, p_abs, p_int, p_all, p_any, p_tupL, p_tupT, p_lstT, p_lstL, p_max2, p_min2, x_tup, x_lst, n_int, it_tup, it_lst, sl_tup, sl_lst, at0, at1, at2, sl1, sl2, zipI, mkC_ok, mkL_f, w_nil, w_cons, bs_nil, bs_cons, List.all_cons, List.all_nil, id_eq, Bool.and_true, Bool.and_self, Bool.false_and, Bool.and_false, Bool.or_false, Bool.false_or, Bool.true_and, Bool.or_true, Bool.true_or, List.zipWith_cons_cons, List.zipWith_nil_right, List.zipWith_nil_left, decide_true, decide_false, l0, l1, l2, l3, if_true, List.reverse_cons, List.reverse_nil, nn_non, nn_int, nn_bl, nn_str, nn_tup, nn_lst, tlen, ite_and, ite_and', ite_or, Option.map_some, List.map_cons, List.map_nil, List.length_cons, List.length_nil, List.cons_append, List.nil_append, List.replicate, List.set_cons_zero, List.set_cons_succ, Nat.reduceSub, Nat.reduceAdd, Nat.reduceLeDiff, Nat.zero_le, Bool.not_true, Bool.not_false, ↓reduceIte, Bool.false_eq_true, forL, pr2, r22, i11]
  exact trunc_cut rfl hS
theorem wrong3 (a b c : Rat) (ha : Tb a) (hb : Tb b) (hc : Tb c) : prg.run (k + 3) 8 [.int 3, .tup [fr a, fr b, fr c]] S = .ok (fw3 a b c) S := by
  have ap := fun T => all_pairs_run (k + 1) T 3 (.inr (.inl rfl))
  have fi : ∀ (S : Store) (y : Rat), view S (fr y) = .tup [.int y.num, .int (y.den : Int)] := fun S y => rfl
  have l1 := fun T => low40 k T a c ha hc
  rw [run_succ (k + 2) 8 _ rfl, fn_run _ rfl]
  simp only [B_first_wrong, s_cons, s_nil, s_ret', s_ite', s_asg', s_par', s_asgc', s_expr', s_raise', s_loop', s_for', s_app', g_tv', g_tt', gs_nil', gs_cons', g_ts', i_one', i_rng1', i_rng2', i_rng3', i_enum', enumI_lst, enumI_tup, i_zip', e_var, e_int, e_str, e_bl, e_non, e_bin, e_neg, e_not, e_cmp, e_chain, e_and, e_or, e_one, e_ife, e_tup, e_lst, e_ix, e_call, e_prim, e_isi, e_comp, e_sl, e_rev, e_upper, e_rep, e_dnew, e_dz, e_dix, e_din, e_lrng1, e_lrng2, e_word, w_ok, s_dset', GL_call, GL_glob, GL_fuel, GL_nf, optE_nil, optE_int, optE_neg, optE_var, optE_bin, a_nil', a_cons', end_nx, end_rt, fl_nx, fl_rt, trunc_same, tst_bl, getV0, getVs, R.bind_ok, R.bind_exc, R.bind_bad, R.ofO_some, R.ofO_none, view_int, view_bl, view_str, view_non, view_tup, view_lst, view_scr, isTy, b_add, b_addT, b_addL, b_sub, b_mul, b_mulT, b_fdiv, b_mod, b_addB, b_subB, b_mulB, pow12, pow18, pow31, pow6, c_eq3, c_lt, c_le, c_gt, c_ge, c_isN, c_notN, c_isB, c_notB, c_eqI, c_neI, t_bl, t_int, t_non, t_tup, t_lst, p_len_t, p_len_l, p_abs, p_int, p_all, p_any, p_tupL, p_tupT, p_lstT, p_lstL, p_max2, p_min2, x_tup, x_lst, n_int, it_tup, it_lst, sl_tup, sl_lst, at0, at1, at2, sl1, sl2, zipI, mkC_ok, mkL_f, w_nil, w_cons, bs_nil, bs_cons, List.all_cons, List.all_nil, id_eq, Bool.and_true, Bool.and_self, Bool.false_and, Bool.and_false, Bool.or_false, Bool.false_or, Bool.true_and, Bool.or_true, Bool.true_or, List.zipWith_cons_cons, List.zipWith_nil_right, List.zipWith_nil_left, decide_true, decide_false, l0, l1, l2, l3, if_true, List.reverse_cons, List.reverse_nil, nn_non, nn_int, nn_bl, nn_str, nn_tup, nn_lst, tlen, ite_and, ite_and', ite_or, Option.map_some, List.map_cons, List.map_nil, List.length_cons, List.length_nil, List.cons_append, List.nil_append, List.replicate, List.set_cons_zero, List.set_cons_succ, Nat.reduceSub, Nat.reduceAdd, Nat.reduceLeDiff, Nat.zero_le, Bool.not_true, Bool.not_false, ↓reduceIte, Bool.false_eq_true, ap, dz3]
  unfold fw3
  by_cases h : a * c = b
  · simp only [s_cons, s_nil, s_ret', s_ite', s_asg', s_par', s_asgc', s_expr', s_raise', s_loop', s_for', s_app', g_tv', g_tt', gs_nil', gs_cons', g_ts', i_one', i_rng1', i_rng2', i_rng3', i_enum', enumI_lst, enumI_tup, i_zip', e_var, e_int, e_str, e_bl, e_non, e_bin, e_neg, e_not, e_cmp, e_chain, e_and, e_or, e_one, e_ife, e_tup, e_lst, e_ix, e_call, e_prim, e_isi, e_comp, e_sl, e_rev, e_upper, e_rep, e_dnew, e_dz, e_dix, e_din, e_lrng1, e_lrng2, e_word, w_ok, s_dset', GL_call, GL_glob, GL_fuel, GL_nf, optE_nil, optE_int, optE_neg, optE_var, optE_bin, a_nil', a_cons', end_nx, end_rt, fl_nx, fl_rt, trunc_same, tst_bl, getV0, getVs, R.bind_ok, R.bind_exc, R.bind_bad, R.ofO_some, R.ofO_none, view_int, view_bl, view_str, view_non, view_tup, view_lst, view_scr, isTy, b_add, b_addT, b_addL, b_sub, b_mul, b_mulT, b_fdiv, b_mod, b_addB, b_subB, b_mulB, pow12, pow18, pow31, pow6, c_eq3, c_lt, c_le, c_gt, c_ge, c_isN, c_notN, c_isB, c_notB, c_eqI, c_neI, t_bl, t_int, t_non, t_tup, t_lst, p_len_t, p_len_l, p_abs, p_int, p_all, p_any, p_tupL, p_tupT, p_lstT, p_lstL, p_max2, p_min2, x_tup, x_lst, n_int, it_tup, it_lst, sl_tup, sl_lst, at0, at1, at2, sl1, sl2, zipI, mkC_ok, mkL_f, w_nil, w_cons, bs_nil, bs_cons, List.all_cons, List.all_nil, id_eq, Bool.and_true, Bool.and_self, Bool.false_and, Bool.and_false, Bool.or_false, Bool.false_or, Bool.true_and, Bool.or_true, Bool.true_or, List.zipWith_cons_cons, List.zipWith_nil_right, List.zipWith_nil_left, decide_true, decide_false, l0, l1, l2, l3, if_true, List.reverse_cons, List.reverse_nil, nn_non, nn_int, nn_bl, nn_str, nn_tup, nn_lst, tlen, ite_and, ite_and', ite_or, Option.map_some, List.map_cons, List.map_nil, List.length_cons, List.length_nil, List.cons_append, List.nil_append, List.replicate, List.set_cons_zero, List.set_cons_succ, Nat.reduceSub, Nat.reduceAdd, Nat.reduceLeDiff, Nat.zero_le, Bool.not_true, Bool.not_false, ↓reduceIte, Bool.false_eq_true, forL, pr3, r23, r33, i11, i21, dget2, t3_01, t3_02, t3_12, fi, mo1 ha hc, mo2 ha hc, l1, c_neT, h]
    exact trunc_cut rfl hS
  · simp only [s_cons, s_nil, s_ret', s_ite', s_asg', s_par', s_asgc', s_expr', s_raise', s_loop', s_for', s_app', g_tv', g_tt', gs_nil', gs_cons', g_ts', i_one', i_rng1', i_rng2', i_rng3', i_enum', enumI_lst, enumI_tup, i_zip', e_var, e_int, e_str, e_bl, e_non, e_bin, e_neg, e_not, e_cmp, e_chain, e_and, e_or, e_one, e_ife, e_tup, e_lst, e_ix, e_call, e_prim, e_isi, e_comp, e_sl, e_rev, e_upper, e_rep, e_dnew, e_dz, e_dix, e_din, e_lrng1, e_lrng2, e_word, w_ok, s_dset', GL_call, GL_glob, GL_fuel, GL_nf, optE_nil, optE_int, optE_neg, optE_var, optE_bin, a_nil', a_cons', end_nx, end_rt, fl_nx, fl_rt, trunc_same, tst_bl, getV0, getVs, R.bind_ok, R.bind_exc, R.bind_bad, R.ofO_some, R.ofO_none, view_int, view_bl, view_str, view_non, view_tup, view_lst, view_scr, isTy, b_add, b_addT, b_addL, b_sub, b_mul, b_mulT, b_fdiv, b_mod, b_addB, b_subB, b_mulB, pow12, pow18, pow31, pow6, c_eq3, c_lt, c_le, c_gt, c_ge, c_isN, c_notN, c_isB, c_notB, c_eqI, c_neI, t_bl, t_int, t_non, t_tup, t_lst, p_len_t, p_len_l, p_abs, p_int, p_all, p_any, p_tupL, p_tupT, p_lstT, p_lstL, p_max2, p_min2, x_tup, x_lst, n_int, it_tup, it_lst, sl_tup, sl_lst, at0, at1, at2, sl1, sl2, zipI, mkC_ok, mkL_f, w_nil, w_cons, bs_nil, bs_cons, List.all_cons, List.all_nil, id_eq, Bool.and_true, Bool.and_self, Bool.false_and, Bool.and_false, Bool.or_false, Bool.false_or, Bool.true_and, Bool.or_true, Bool.true_or, List.zipWith_cons_cons, List.zipWith_nil_right, List.zipWith_nil_left, decide_true, decide_false, l0, l1, l2, l3, if_true, List.reverse_cons, List.reverse_nil, nn_non, nn_int, nn_bl, nn_str, nn_tup, nn_lst, tlen, ite_and, ite_and', ite_or, Option.map_some, List.map_cons, List.map_nil, List.length_cons, List.length_nil, List.cons_append, List.nil_append, List.replicate, List.set_cons_zero, List.set_cons_succ, Nat.reduceSub, Nat.reduceAdd, Nat.reduceLeDiff, Nat.zero_le, Bool.not_true, Bool.not_false, ↓reduceIte, Bool.false_eq_true, forL, pr3, r23, r33, i11, i21, dget2, t3_01, t3_02, t3_12, fi, mo1 ha hc, mo2 ha hc, l1, c_neT, h]
    exact trunc_cut rfl hS
theorem wrong4 (a b c d e f : Rat) (ha : Tb a) (hb : Tb b) (hc : Tb c) (hd : Tb d) (he : Tb e) (hf : Tb f) : prg.run (k + 3) 8 [.int 4, .tup [fr a, fr b, fr c, fr d, fr e, fr f]] S = .ok (fw4 a b c d e f) S := by
  have ap := fun T => all_pairs_run (k + 1) T 4 (.inr (.inr rfl))
  have fi : ∀ (S : Store) (y : Rat), view S (fr y) = .tup [.int y.num, .int (y.den : Int)] := fun S y => rfl
  have l1 := fun T => low40 k T a d ha hd
  have l2 := fun T => low40 k T a e ha he
  have l3 := fun T => low40 k T b f hb hf
  have l4 := fun T => low40 k T d f hd hf
  rw [run_succ (k + 2) 8 _ rfl, fn_run _ rfl]
  simp only [B_first_wrong, s_cons, s_nil, s_ret', s_ite', s_asg', s_par', s_asgc', s_expr', s_raise', s_loop', s_for', s_app', g_tv', g_tt', gs_nil', gs_cons', g_ts', i_one', i_rng1', i_rng2', i_rng3', i_enum', enumI_lst, enumI_tup, i_zip', e_var, e_int, e_str, e_bl, e_non, e_bin, e_neg, e_not, e_cmp, e_chain, e_and, e_or, e_one, e_ife, e_tup, e_lst, e_ix, e_call, e_prim, e_isi, e_comp, e_sl, e_rev, e_upper, e_rep, e_dnew, e_dz, e_dix, e_din, e_lrng1, e_lrng2, e_word, w_ok, s_dset', GL_call, GL_glob, GL_fuel, GL_nf, optE_nil, optE_int, optE_neg, optE_var, optE_bin, a_nil', a_cons', end_nx, end_rt, fl_nx, fl_rt, trunc_same, tst_bl, getV0, getVs, R.bind_ok, R.bind_exc, R.bind_bad, R.ofO_some, R.ofO_none, view_int, view_bl, view_str, view_non, view_tup, view_lst, view_scr, isTy, b_add, b_addT, b_addL, b_sub, b_mul, b_mulT, b_fdiv, b_mod, b_addB, b_subB, b_mulB, pow12, pow18, pow31, pow6, c_eq3, c_lt, c_le, c_gt, c_ge, c_isN, c_notN, c_isB, c_notB, c_eqI, c_neI, t_bl, t_int, t_non, t_tup, t_lst, p_len_t, p_len_l, p_abs, p_int, p_all, p_any, p_tupL, p_tupT, p_lstT, p_lstL, p_max2, p_min2, x_tup, x_lst, n_int, it_tup, it_lst, sl_tup, sl_lst, at0, at1, at2, sl1, sl2, zipI, mkC_ok, mkL_f, w_nil, w_cons, bs_nil, bs_cons, List.all_cons, List.all_nil, id_eq, Bool.and_true, Bool.and_self, Bool.false_and, Bool.and_false, Bool.or_false, Bool.false_or, Bool.true_and, Bool.or_true, Bool.true_or, List.zipWith_cons_cons, List.zipWith_nil_right, List.zipWith_nil_left, decide_true, decide_false, l0, l1, l2, l3, if_true, List.reverse_cons, List.reverse_nil, nn_non, nn_int, nn_bl, nn_str, nn_tup, nn_lst, tlen, ite_and, ite_and', ite_or, Option.map_some, List.map_cons, List.map_nil, List.length_cons, List.length_nil, List.cons_append, List.nil_append, List.replicate, List.set_cons_zero, List.set_cons_succ, Nat.reduceSub, Nat.reduceAdd, Nat.reduceLeDiff, Nat.zero_le, Bool.not_true, Bool.not_false, ↓reduceIte, Bool.false_eq_true, ap, dz4]
  unfold fw4
  by_cases h1 : a * d = b
  · by_cases h2 : a * e = c
    · by_cases h3 : b * f = c
      · by_cases h4 : d * f = e
        · simp only [s_cons, s_nil, s_ret', s_ite', s_asg', s_par', s_asgc', s_expr', s_raise', s_loop', s_for', s_app', g_tv', g_tt', gs_nil', gs_cons', g_ts', i_one', i_rng1', i_rng2', i_rng3', i_enum', enumI_lst, enumI_tup, i_zip', e_var, e_int, e_str, e_bl, e_non, e_bin, e_neg, e_not, e_cmp, e_chain, e_and, e_or, e_one, e_ife, e_tup, e_lst, e_ix, e_call, e_prim, e_isi, e_comp, e_sl, e_rev, e_upper, e_rep, e_dnew, e_dz, e_dix, e_din, e_lrng1, e_lrng2, e_word, w_ok, s_dset', GL_call, GL_glob, GL_fuel, GL_nf, optE_nil, optE_int, optE_neg, optE_var, optE_bin, a_nil', a_cons', end_nx, end_rt, fl_nx, fl_rt, trunc_same, tst_bl, getV0, getVs, R.bind_ok, R.bind_exc, R.bind_bad, R.ofO_some, R.ofO_none, view_int, view_bl, view_str, view_non, view_tup, view_lst, view_scr, isTy, b_add, b_addT, b_addL, b_sub, b_mul, b_mulT, b_fdiv, b_mod, b_addB, b_subB, b_mulB, pow12, pow18, pow31, pow6, c_eq3, c_lt, c_le, c_gt, c_ge, c_isN, c_notN, c_isB, c_notB, c_eqI, c_neI, t_bl, t_int, t_non, t_tup, t_lst, p_len_t, p_len_l, p_abs, p_int, p_all, p_any, p_tupL, p_tupT, p_lstT, p_lstL, p_max2, p_min2, x_tup, x_lst, n_int, it_tup, it_lst, sl_tup, sl_lst, at0, at1, at2, sl1, sl2, zipI, mkC_ok, mkL_f, w_nil, w_cons, bs_nil, bs_cons, List.all_cons, List.all_nil, id_eq, Bool.and_true, Bool.and_self, Bool.false_and, Bool.and_false, Bool.or_false, Bool.false_or, Bool.true_and, Bool.or_true, Bool.true_or, List.zipWith_cons_cons, List.zipWith_nil_right, List.zipWith_nil_left, decide_true, decide_false, l0, l1, l2, l3, if_true, List.reverse_cons, List.reverse_nil, nn_non, nn_int, nn_bl, nn_str, nn_tup, nn_lst, tlen, ite_and, ite_and', ite_or, Option.map_some, List.map_cons, List.map_nil, List.length_cons, List.length_nil, List.cons_append, List.nil_append, List.replicate, List.set_cons_zero, List.set_cons_succ, Nat.reduceSub, Nat.reduceAdd, Nat.reduceLeDiff, Nat.zero_le, Bool.not_true, Bool.not_false, ↓reduceIte, Bool.false_eq_true, forL, pr4, r24, r34, r44, i11, i21, i31, dget2, t4_01, t4_02, t4_03, t4_12, t4_13, t4_23, fi, mo1 ha hd, mo2 ha hd, mo1 ha he, mo2 ha he, mo1 hb hf, mo2 hb hf, mo1 hd hf, mo2 hd hf, l1, l2, l3, l4, c_neT, h1, h2, h3, h4]
          exact trunc_cut rfl hS
        · simp only [s_cons, s_nil, s_ret', s_ite', s_asg', s_par', s_asgc', s_expr', s_raise', s_loop', s_for', s_app', g_tv', g_tt', gs_nil', gs_cons', g_ts', i_one', i_rng1', i_rng2', i_rng3', i_enum', enumI_lst, enumI_tup, i_zip', e_var, e_int, e_str, e_bl, e_non, e_bin, e_neg, e_not, e_cmp, e_chain, e_and, e_or, e_one, e_ife, e_tup, e_lst, e_ix, e_call, e_prim, e_isi, e_comp, e_sl, e_rev, e_upper, e_rep, e_dnew, e_dz, e_dix, e_din, e_lrng1, e_lrng2, e_word, w_ok, s_dset', GL_call, GL_glob, GL_fuel, GL_nf, optE_nil, optE_int, optE_neg, optE_var, optE_bin, a_nil', a_cons', end_nx, end_rt, fl_nx, fl_rt, trunc_same, tst_bl, getV0, getVs, R.bind_ok, R.bind_exc, R.bind_bad, R.ofO_some, R.ofO_none, view_int, view_bl, view_str, view_non, view_tup, view_lst, view_scr, isTy, b_add, b_addT, b_addL, b_sub, b_mul, b_mulT, b_fdiv, b_mod, b_addB, b_subB, b_mulB, pow12, pow18, pow31, pow6, c_eq3, c_lt, c_le, c_gt, c_ge, c_isN, c_notN, c_isB, c_notB, c_eqI, c_neI, t_bl, t_int, t_non, t_tup, t_lst, p_len_t, p_len_l, p_abs, p_int, p_all, p_any, p_tupL, p_tupT, p_lstT, p_lstL, p_max2, p_min2, x_tup, x_lst, n_int, it_tup, it_lst, sl_tup, sl_lst, at0, at1, at2, sl1, sl2, zipI, mkC_ok, mkL_f, w_nil, w_cons, bs_nil, bs_cons, List.all_cons, List.all_nil, id_eq, Bool.and_true, Bool.and_self, Bool.false_and, Bool.and_false, Bool.or_false, Bool.false_or, Bool.true_and, Bool.or_true, Bool.true_or, List.zipWith_cons_cons, List.zipWith_nil_right, List.zipWith_nil_left, decide_true, decide_false, l0, l1, l2, l3, if_true, List.reverse_cons, List.reverse_nil, nn_non, nn_int, nn_bl, nn_str, nn_tup, nn_lst, tlen, ite_and, ite_and', ite_or, Option.map_some, List.map_cons, List.map_nil, List.length_cons, List.length_nil, List.cons_append, List.nil_append, List.replicate, List.set_cons_zero, List.set_cons_succ, Nat.reduceSub, Nat.reduceAdd, Nat.reduceLeDiff, Nat.zero_le, Bool.not_true, Bool.not_false, ↓reduceIte, Bool.false_eq_true, forL, pr4, r24, r34, r44, i11, i21, i31, dget2, t4_01, t4_02, t4_03, t4_12, t4_13, t4_23, fi, mo1 ha hd, mo2 ha hd, mo1 ha he, mo2 ha he, mo1 hb hf, mo2 hb hf, mo1 hd hf, mo2 hd hf, l1, l2, l3, l4, c_neT, h1, h2, h3, h4]
          exact trunc_cut rfl hS
      · simp only [s_cons, s_nil, s_ret', s_ite', s_asg', s_par', s_asgc', s_expr', s_raise', s_loop', s_for', s_app', g_tv', g_tt', gs_nil', gs_cons', g_ts', i_one', i_rng1', i_rng2', i_rng3', i_enum', enumI_lst, enumI_tup, i_zip', e_var, e_int, e_str, e_bl, e_non, e_bin, e_neg, e_not, e_cmp, e_chain, e_and, e_or, e_one, e_ife, e_tup, e_lst, e_ix, e_call, e_prim, e_isi, e_comp, e_sl, e_rev, e_upper, e_rep, e_dnew, e_dz, e_dix, e_din, e_lrng1, e_lrng2, e_word, w_ok, s_dset', GL_call, GL_glob, GL_fuel, GL_nf, optE_nil, optE_int, optE_neg, optE_var, optE_bin, a_nil', a_cons', end_nx, end_rt, fl_nx, fl_rt, trunc_same, tst_bl, getV0, getVs, R.bind_ok, R.bind_exc, R.bind_bad, R.ofO_some, R.ofO_none, view_int, view_bl, view_str, view_non, view_tup, view_lst, view_scr, isTy, b_add, b_addT, b_addL, b_sub, b_mul, b_mulT, b_fdiv, b_mod, b_addB, b_subB, b_mulB, pow12, pow18, pow31, pow6, c_eq3, c_lt, c_le, c_gt, c_ge, c_isN, c_notN, c_isB, c_notB, c_eqI, c_neI, t_bl, t_int, t_non, t_tup, t_lst, p_len_t, p_len_l, p_abs, p_int, p_all, p_any, p_tupL, p_tupT, p_lstT, p_lstL, p_max2, p_min2, x_tup, x_lst, n_int, it_tup, it_lst, sl_tup, sl_lst, at0, at1, at2, sl1, sl2, zipI, mkC_ok, mkL_f, w_nil, w_cons, bs_nil, bs_cons, List.all_cons, List.all_nil, id_eq, Bool.and_true, Bool.and_self, Bool.false_and, Bool.and_false, Bool.or_false, Bool.false_or, Bool.true_and, Bool.or_true, Bool.true_or, List.zipWith_cons_cons, List.zipWith_nil_right, List.zipWith_nil_left, decide_true, decide_false, l0, l1, l2, l3, if_true, List.reverse_cons, List.reverse_nil, nn_non, nn_int, nn_bl, nn_str, nn_tup, nn_lst, tlen, ite_and, ite_and', ite_or, Option.map_some, List.map_cons, List.map_nil, List.length_cons, List.length_nil, List.cons_append, List.nil_append, List.replicate, List.set_cons_zero, List.set_cons_succ, Nat.reduceSub, Nat.reduceAdd, Nat.reduceLeDiff, Nat.zero_le, Bool.not_true, Bool.not_false, ↓reduceIte, Bool.false_eq_true, forL, pr4, r24, r34, r44, i11, i21, i31, dget2, t4_01, t4_02, t4_03, t4_12, t4_13, t4_23, fi, mo1 ha hd, mo2 ha hd, mo1 ha he, mo2 ha he, mo1 hb hf, mo2 hb hf, mo1 hd hf, mo2 hd hf, l1, l2, l3, l4, c_neT, h1, h2, h3]
        exact trunc_cut rfl hS
    · simp only [s_cons, s_nil, s_ret', s_ite', s_asg', s_par', s_asgc', s_expr', s_raise', s_loop', s_for', s_app', g_tv', g_tt', gs_nil', gs_cons', g_ts', i_one', i_rng1', i_rng2', i_rng3', i_enum', enumI_lst, enumI_tup, i_zip', e_var, e_int, e_str, e_bl, e_non, e_bin, e_neg, e_not, e_cmp, e_chain, e_and, e_or, e_one, e_ife, e_tup, e_lst, e_ix, e_call, e_prim, e_isi, e_comp, e_sl, e_rev, e_upper, e_rep, e_dnew, e_dz, e_dix, e_din, e_lrng1, e_lrng2, e_word, w_ok, s_dset', GL_call, GL_glob, GL_fuel, GL_nf, optE_nil, optE_int, optE_neg, optE_var, optE_bin, a_nil', a_cons', end_nx, end_rt, fl_nx, fl_rt, trunc_same, tst_bl, getV0, getVs, R.bind_ok, R.bind_exc, R.bind_bad, R.ofO_some, R.ofO_none, view_int, view_bl, view_str, view_non, view_tup, view_lst, view_scr, isTy, b_add, b_addT, b_addL, b_sub, b_mul, b_mulT, b_fdiv, b_mod, b_addB, b_subB, b_mulB, pow12, pow18, pow31, pow6, c_eq3, c_lt, c_le, c_gt, c_ge, c_isN, c_notN, c_isB, c_notB, c_eqI, c_neI, t_bl, t_int, t_non, t_tup, t_lst, p_len_t, p_len_l, p_abs, p_int, p_all, p_any, p_tupL, p_tupT, p_lstT, p_lstL, p_max2, p_min2, x_tup, x_lst, n_int, it_tup, it_lst, sl_tup, sl_lst, at0, at1, at2, sl1, sl2, zipI, mkC_ok, mkL_f, w_nil, w_cons, bs_nil, bs_cons, List.all_cons, List.all_nil, id_eq, Bool.and_true, Bool.and_self, Bool.false_and, Bool.and_false, Bool.or_false, Bool.false_or, Bool.true_and, Bool.or_true, Bool.true_or, List.zipWith_cons_cons, List.zipWith_nil_right, List.zipWith_nil_left, decide_true, decide_false, l0, l1, l2, l3, if_true, List.reverse_cons, List.reverse_nil, nn_non, nn_int, nn_bl, nn_str, nn_tup, nn_lst, tlen, ite_and, ite_and', ite_or, Option.map_some, List.map_cons, List.map_nil, List.length_cons, List.length_nil, List.cons_append, List.nil_append, List.replicate, List.set_cons_zero, List.set_cons_succ, Nat.reduceSub, Nat.reduceAdd, Nat.reduceLeDiff, Nat.zero_le, Bool.not_true, Bool.not_false, ↓reduceIte, Bool.false_eq_true, forL, pr4, r24, r34, r44, i11, i21, i31, dget2, t4_01, t4_02, t4_03, t4_12, t4_13, t4_23, fi, mo1 ha hd, mo2 ha hd, mo1 ha he, mo2 ha he, mo1 hb hf, mo2 hb hf, mo1 hd hf, mo2 hd hf, l1, l2, l3, l4, c_neT, h1, h2]
      exact trunc_cut rfl hS
  · simp only [s_cons, s_nil, s_ret', s_ite', s_asg', s_par', s_asgc', s_expr', s_raise', s_loop', s_for', s_app', g_tv', g_tt', gs_nil', gs_cons', g_ts', i_one', i_rng1', i_rng2', i_rng3', i_enum', enumI_lst, enumI_tup, i_zip', e_var, e_int, e_str, e_bl, e_non, e_bin, e_neg, e_not, e_cmp, e_chain, e_and, e_or, e_one, e_ife, e_tup, e_lst, e_ix, e_call, e_prim, e_isi, e_comp, e_sl, e_rev, e_upper, e_rep, e_dnew, e_dz, e_dix, e_din, e_lrng1, e_lrng2, e_word, w_ok, s_dset', GL_call, GL_glob, GL_fuel, GL_nf, optE_nil, optE_int, optE_neg, optE_var, optE_bin, a_nil', a_cons', end_nx, end_rt, fl_nx, fl_rt, trunc_same, tst_bl, getV0, getVs, R.bind_ok, R.bind_exc, R.bind_bad, R.ofO_some, R.ofO_none, view_int, view_bl, view_str, view_non, view_tup, view_lst, view_scr, isTy, b_add, b_addT, b_addL, b_sub, b_mul, b_mulT, b_fdiv, b_mod, b_addB, b_subB, b_mulB, pow12, pow18, pow31, pow6, c_eq3, c_lt, c_le, c_gt, c_ge, c_isN, c_notN, c_isB, c_notB, c_eqI, c_neI, t_bl, t_int, t_non, t_tup, t_lst, p_len_t, p_len_l, p_abs, p_int, p_all, p_any, p_tupL, p_tupT, p_lstT, p_lstL, p_max2, p_min2, x_tup, x_lst, n_int, it_tup, it_lst, sl_tup, sl_lst, at0, at1, at2, sl1, sl2, zipI, mkC_ok, mkL_f, w_nil, w_cons, bs_nil, bs_cons, List.all_cons, List.all_nil, id_eq, Bool.and_true, Bool.and_self, Bool.false_and, Bool.and_false, Bool.or_false, Bool.false_or, Bool.true_and, Bool.or_true, Bool.true_or, List.zipWith_cons_cons, List.zipWith_nil_right, List.zipWith_nil_left, decide_true, decide_false, l0, l1, l2, l3, if_true, List.reverse_cons, List.reverse_nil, nn_non, nn_int, nn_bl, nn_str, nn_tup, nn_lst, tlen, ite_and, ite_and', ite_or, Option.map_some, List.map_cons, List.map_nil, List.length_cons, List.length_nil, List.cons_append, List.nil_append, List.replicate, List.set_cons_zero, List.set_cons_succ, Nat.reduceSub, Nat.reduceAdd, Nat.reduceLeDiff, Nat.zero_le, Bool.not_true, Bool.not_false, ↓reduceIte, Bool.false_eq_true, forL, pr4, r24, r34, r44, i11, i21, i31, dget2, t4_01, t4_02, t4_03, t4_12, t4_13, t4_23, fi, mo1 ha hd, mo2 ha hd, mo1 ha he, mo2 ha he, mo1 hb hf, mo2 hb hf, mo1 hd hf, mo2 hd hf, l1, l2, l3, l4, c_neT, h1]
    exact trunc_cut rfl hS
end
end K10
end
section
set_option Elab.async false
set_option linter.all false
set_option maxRecDepth 100000
set_option maxHeartbeats 4000000
set_option exponentiation.threshold 100000
namespace Ev
theorem cross (x y z : Rat) : (x.num * y.num * (z.den : Int) = (x.den : Int) * (y.den : Int) * z.num) = (x * y = z) := by
  have h1 := fr_div x
  have h2 := fr_div y
  have h3 := fr_div z
  have n1 := den_ne x
  have n2 := den_ne y
  have n3 := den_ne z
  have e : (x.num * y.num * (z.den : Int) = (x.den : Int) * (y.den : Int) * z.num) ↔ ((x.num : Rat) * (y.num : Rat) * ((z.den : Int) : Rat) = ((x.den : Int) : Rat) * ((y.den : Int) : Rat) * (z.num : Rat)) := by
    rw [← Rat.intCast_mul, ← Rat.intCast_mul, ← Rat.intCast_mul, ← Rat.intCast_mul]
    exact Rat.intCast_inj.symm
  rw [propext e]
  generalize ((x.den : Int) : Rat) = dx at *
  generalize ((y.den : Int) : Rat) = dy at *
  generalize ((z.den : Int) : Rat) = dz at *
  generalize ((x.num : Int) : Rat) = nx at *
  generalize ((y.num : Int) : Rat) = ny at *
  generalize ((z.num : Int) : Rat) = nz at *
  clear e
  refine propext ⟨fun h => ?_, fun h => ?_⟩
  · grind
  · grind
end Ev
namespace K10
open Ev
open PySem (Str)
section
variable (k : Nat) (S : Store) (hS : S.all (belowO S.length) = true)
include hS
theorem due2 (a : Rat) (ha : Tb a) : prg.run (k + 2) 17 [.int 2, .tup [fr a]] S = .ok fw2 S := by
  have ap := fun T => law_pairs_run k T 2 (.inl rfl)
  rw [run_succ (k + 1) 17 _ rfl, fn_run _ rfl]
  simp only [B__law_due, s_cons, s_nil, s_ret', s_ite', s_asg', s_par', s_asgc', s_expr', s_raise', s_loop', s_for', s_app', g_tv', g_tt', gs_nil', gs_cons', g_ts', i_one', i_rng1', i_rng2', i_rng3', i_enum', enumI_lst, enumI_tup, i_zip', e_var, e_int, e_str, e_bl, e_non, e_bin, e_neg, e_not, e_cmp, e_chain, e_and, e_or, e_one, e_ife, e_tup, e_lst, e_ix, e_call, e_prim, e_isi, e_comp, e_sl, e_rev, e_upper, e_rep, e_dnew, e_dz, e_dix, e_din, e_lrng1, e_lrng2, e_word, w_ok, s_dset', GL_call, GL_glob, GL_fuel, GL_nf, optE_nil, optE_int, optE_neg, optE_var, optE_bin, a_nil', a_cons', end_nx, end_rt, fl_nx, fl_rt, trunc_same, tst_bl, getV0, getVs, R.bind_ok, R.bind_exc, R.bind_bad, R.ofO_some, R.ofO_none, view_int, view_bl, view_str, view_non, view_tup, view_lst, view_scr, isTy, b_add, b_addT, b_addL, b_sub, b_mul, b_mulT, b_fdiv, b_mod, b_addB, b_subB, b_mulB, pow12, pow18, pow31, pow6, c_eq3, c_lt, c_le, c_gt, c_ge, c_isN, c_notN, c_isB, c_notB, c_eqI, c_neI, t_bl, t_int, t_non, t_tup, t_lst, p_len_t, p_len_l, p_abs, p_int, p_all, p_any, p_tupL, p_tupT, p_lstT, p_lstL, p_max2, p_min2, x_tup, x_lst, n_int, it_tup, it_lst, sl_tup, sl_lst, at0, at1, at2, sl1, sl2, zipI, mkC_ok, mkL_f, w_nil, w_cons, bs_nil, bs_cons, List.all_cons, List.all_nil, id_eq, Bool.and_true, Bool.and_self, Bool.false_and, Bool.and_false, Bool.or_false, Bool.false_or, Bool.true_and, Bool.or_true, Bool.true_or, List.zipWith_cons_cons, List.zipWith_nil_right, List.zipWith_nil_left, decide_true, decide_false, l0, l1, l2, l3, if_true, List.reverse_cons, List.reverse_nil, nn_non, nn_int, nn_bl, nn_str, nn_tup, nn_lst, tlen, ite_and, ite_and', ite_or, Option.map_some, List.map_cons, List.map_nil, List.length_cons, List.length_nil, List.cons_append, List.nil_append, List.replicate, List.set_cons_zero, List.set_cons_succ, Nat.reduceSub, Nat.reduceAdd, Nat.reduceLeDiff, Nat.zero_le, Bool.not_true, Bool.not_false, ↓reduceIte, Bool.false_eq_true, ap, dz2]
  simp only [s_cons, s_nil, s_ret', s_ite', s_asg', s_par', s_asgc', s_expr', s_raise', s_loop', s_for', s_app', g_tv', g_tt', gs_nil', gs_cons', g_ts', i_one', i_rng1', i_rng2', i_rng3', i_enum', enumI_lst, enumI_tup, i_zip', e_var, e_int, e_str, e_bl, e_non, e_bin, e_neg, e_not, e_cmp, e_chain, e_and, e_or, e_one, e_ife, e_tup, e_lst, e_ix, e_call, e_prim, e_isi, e_comp, e_sl, e_rev, e_upper, e_rep, e_dnew, e_dz, e_dix, e_din, e_lrng1, e_lrng2, e_word, w_ok, s_dset', GL_call, GL_glob, GL_fuel, GL_nf, optE_nil, optE_int, optE_neg, optE_var, optE_bin, a_nil', a_cons', end_nx, end_rt, fl_nx, fl_rt, trunc_same, tst_bl, getV0, getVs, R.bind_ok, R.bind_exc, R.bind_bad, R.ofO_some, R.ofO_none, view_int, view_bl, view_str, view_non, view_tup, view_lst, view_scr, isTy, b_add, b_addT, b_addL, b_sub, b_mul, b_mulT, b_fdiv, b_mod, b_addB, b_subB, b_mulB, pow12, pow18, pow31, pow6, c_eq3, c_lt, c_le, c_gt, c_ge, c_isN, c_notN, c_isB, c_notB, c_eqI, c_neI, t_bl, t_int, t_non, t_tup, t_lst, p_len_t, p_len_l, p_abs, p_int, p_all, p_any, p_tupL, p_tupT, p_lstT, p_lstL, p_max2, p_min2, x_tup, x_lst, n_int, it_tup, it_lst, sl_tup, sl_lst, at0, at1, at2, sl1, sl2, zipI, mkC_ok, mkL_f, w_nil, w_cons, bs_nil, bs_cons, List.all_cons, List.all_nil, id_eq, Bool.and_true, Bool.and_self, Bool.false_and, Bool.and_false, Bool.or_false, Bool.false_or, Bool.true_and, Bool.or_true, Bool.true_or, List.zipWith_cons_cons, List.zipWith_nil_right, List.zipWith_nil_left, decide_true, decide_false, l0, l1, l2, l3, if_true, List.reverse_cons, List.reverse_nil, nn_non, nn_int, nn_bl, nn_str, nn_tup, nn_lst, tlen, ite_and, ite_and', ite_or, Option.map_some, List.map_cons, List.map_nil, List.length_cons, List.length_nil, List.cons_append, List.nil_append, List.replicate, List.set_cons_zero, List.set_cons_succ, Nat.reduceSub, Nat.reduceAdd, Nat.reduceLeDiff, Nat.zero_le, Bool.not_true, Bool.not_false, ↓reduceIte, Bool.false_eq_true, forL, pr2, r22, i11]
  exact trunc_cut rfl hS
theorem due3 (a b c : Rat) (ha : Tb a) (hb : Tb b) (hc : Tb c) : prg.run (k + 2) 17 [.int 3, .tup [fr a, fr b, fr c]] S = .ok (fw3 a b c) S := by
  have ap := fun T => law_pairs_run k T 3 (.inr (.inl rfl))
  have fi : ∀ (S : Store) (y : Rat), view S (fr y) = .tup [.int y.num, .int (y.den : Int)] := fun S y => rfl
  rw [run_succ (k + 1) 17 _ rfl, fn_run _ rfl]
  simp only [B__law_due, s_cons, s_nil, s_ret', s_ite', s_asg', s_par', s_asgc', s_expr', s_raise', s_loop', s_for', s_app', g_tv', g_tt', gs_nil', gs_cons', g_ts', i_one', i_rng1', i_rng2', i_rng3', i_enum', enumI_lst, enumI_tup, i_zip', e_var, e_int, e_str, e_bl, e_non, e_bin, e_neg, e_not, e_cmp, e_chain, e_and, e_or, e_one, e_ife, e_tup, e_lst, e_ix, e_call, e_prim, e_isi, e_comp, e_sl, e_rev, e_upper, e_rep, e_dnew, e_dz, e_dix, e_din, e_lrng1, e_lrng2, e_word, w_ok, s_dset', GL_call, GL_glob, GL_fuel, GL_nf, optE_nil, optE_int, optE_neg, optE_var, optE_bin, a_nil', a_cons', end_nx, end_rt, fl_nx, fl_rt, trunc_same, tst_bl, getV0, getVs, R.bind_ok, R.bind_exc, R.bind_bad, R.ofO_some, R.ofO_none, view_int, view_bl, view_str, view_non, view_tup, view_lst, view_scr, isTy, b_add, b_addT, b_addL, b_sub, b_mul, b_mulT, b_fdiv, b_mod, b_addB, b_subB, b_mulB, pow12, pow18, pow31, pow6, c_eq3, c_lt, c_le, c_gt, c_ge, c_isN, c_notN, c_isB, c_notB, c_eqI, c_neI, t_bl, t_int, t_non, t_tup, t_lst, p_len_t, p_len_l, p_abs, p_int, p_all, p_any, p_tupL, p_tupT, p_lstT, p_lstL, p_max2, p_min2, x_tup, x_lst, n_int, it_tup, it_lst, sl_tup, sl_lst, at0, at1, at2, sl1, sl2, zipI, mkC_ok, mkL_f, w_nil, w_cons, bs_nil, bs_cons, List.all_cons, List.all_nil, id_eq, Bool.and_true, Bool.and_self, Bool.false_and, Bool.and_false, Bool.or_false, Bool.false_or, Bool.true_and, Bool.or_true, Bool.true_or, List.zipWith_cons_cons, List.zipWith_nil_right, List.zipWith_nil_left, decide_true, decide_false, l0, l1, l2, l3, if_true, List.reverse_cons, List.reverse_nil, nn_non, nn_int, nn_bl, nn_str, nn_tup, nn_lst, tlen, ite_and, ite_and', ite_or, Option.map_some, List.map_cons, List.map_nil, List.length_cons, List.length_nil, List.cons_append, List.nil_append, List.replicate, List.set_cons_zero, List.set_cons_succ, Nat.reduceSub, Nat.reduceAdd, Nat.reduceLeDiff, Nat.zero_le, Bool.not_true, Bool.not_false, ↓reduceIte, Bool.false_eq_true, ap, dz3]
  unfold fw3
  by_cases h : a * c = b
  · simp only [s_cons, s_nil, s_ret', s_ite', s_asg', s_par', s_asgc', s_expr', s_raise', s_loop', s_for', s_app', g_tv', g_tt', gs_nil', gs_cons', g_ts', i_one', i_rng1', i_rng2', i_rng3', i_enum', enumI_lst, enumI_tup, i_zip', e_var, e_int, e_str, e_bl, e_non, e_bin, e_neg, e_not, e_cmp, e_chain, e_and, e_or, e_one, e_ife, e_tup, e_lst, e_ix, e_call, e_prim, e_isi, e_comp, e_sl, e_rev, e_upper, e_rep, e_dnew, e_dz, e_dix, e_din, e_lrng1, e_lrng2, e_word, w_ok, s_dset', GL_call, GL_glob, GL_fuel, GL_nf, optE_nil, optE_int, optE_neg, optE_var, optE_bin, a_nil', a_cons', end_nx, end_rt, fl_nx, fl_rt, trunc_same, tst_bl, getV0, getVs, R.bind_ok, R.bind_exc, R.bind_bad, R.ofO_some, R.ofO_none, view_int, view_bl, view_str, view_non, view_tup, view_lst, view_scr, isTy, b_add, b_addT, b_addL, b_sub, b_mul, b_mulT, b_fdiv, b_mod, b_addB, b_subB, b_mulB, pow12, pow18, pow31, pow6, c_eq3, c_lt, c_le, c_gt, c_ge, c_isN, c_notN, c_isB, c_notB, c_eqI, c_neI, t_bl, t_int, t_non, t_tup, t_lst, p_len_t, p_len_l, p_abs, p_int, p_all, p_any, p_tupL, p_tupT, p_lstT, p_lstL, p_max2, p_min2, x_tup, x_lst, n_int, it_tup, it_lst, sl_tup, sl_lst, at0, at1, at2, sl1, sl2, zipI, mkC_ok, mkL_f, w_nil, w_cons, bs_nil, bs_cons, List.all_cons, List.all_nil, id_eq, Bool.and_true, Bool.and_self, Bool.false_and, Bool.and_false, Bool.or_false, Bool.false_or, Bool.true_and, Bool.or_true, Bool.true_or, List.zipWith_cons_cons, List.zipWith_nil_right, List.zipWith_nil_left, decide_true, decide_false, l0, l1, l2, l3, if_true, List.reverse_cons, List.reverse_nil, nn_non, nn_int, nn_bl, nn_str, nn_tup, nn_lst, tlen, ite_and, ite_and', ite_or, Option.map_some, List.map_cons, List.map_nil, List.length_cons, List.length_nil, List.cons_append, List.nil_append, List.replicate, List.set_cons_zero, List.set_cons_succ, Nat.reduceSub, Nat.reduceAdd, Nat.reduceLeDiff, Nat.zero_le, Bool.not_true, Bool.not_false, ↓reduceIte, Bool.false_eq_true, forL, pr3, r23, r33, i11, i21, dget2, t3_01, t3_02, t3_12, fi, mo1 ha hc, mo2 ha hc, mo3 ha hc hb, mo4 ha hc hb, cross, h]
    exact trunc_cut rfl hS
  · simp only [s_cons, s_nil, s_ret', s_ite', s_asg', s_par', s_asgc', s_expr', s_raise', s_loop', s_for', s_app', g_tv', g_tt', gs_nil', gs_cons', g_ts', i_one', i_rng1', i_rng2', i_rng3', i_enum', enumI_lst, enumI_tup, i_zip', e_var, e_int, e_str, e_bl, e_non, e_bin, e_neg, e_not, e_cmp, e_chain, e_and, e_or, e_one, e_ife, e_tup, e_lst, e_ix, e_call, e_prim, e_isi, e_comp, e_sl, e_rev, e_upper, e_rep, e_dnew, e_dz, e_dix, e_din, e_lrng1, e_lrng2, e_word, w_ok, s_dset', GL_call, GL_glob, GL_fuel, GL_nf, optE_nil, optE_int, optE_neg, optE_var, optE_bin, a_nil', a_cons', end_nx, end_rt, fl_nx, fl_rt, trunc_same, tst_bl, getV0, getVs, R.bind_ok, R.bind_exc, R.bind_bad, R.ofO_some, R.ofO_none, view_int, view_bl, view_str, view_non, view_tup, view_lst, view_scr, isTy, b_add, b_addT, b_addL, b_sub, b_mul, b_mulT, b_fdiv, b_mod, b_addB, b_subB, b_mulB, pow12, pow18, pow31, pow6, c_eq3, c_lt, c_le, c_gt, c_ge, c_isN, c_notN, c_isB, c_notB, c_eqI, c_neI, t_bl, t_int, t_non, t_tup, t_lst, p_len_t, p_len_l, p_abs, p_int, p_all, p_any, p_tupL, p_tupT, p_lstT, p_lstL, p_max2, p_min2, x_tup, x_lst, n_int, it_tup, it_lst, sl_tup, sl_lst, at0, at1, at2, sl1, sl2, zipI, mkC_ok, mkL_f, w_nil, w_cons, bs_nil, bs_cons, List.all_cons, List.all_nil, id_eq, Bool.and_true, Bool.and_self, Bool.false_and, Bool.and_false, Bool.or_false, Bool.false_or, Bool.true_and, Bool.or_true, Bool.true_or, List.zipWith_cons_cons, List.zipWith_nil_right, List.zipWith_nil_left, decide_true, decide_false, l0, l1, l2, l3, if_true, List.reverse_cons, List.reverse_nil, nn_non, nn_int, nn_bl, nn_str, nn_tup, nn_lst, tlen, ite_and, ite_and', ite_or, Option.map_some, List.map_cons, List.map_nil, List.length_cons, List.length_nil, List.cons_append, List.nil_append, List.replicate, List.set_cons_zero, List.set_cons_succ, Nat.reduceSub, Nat.reduceAdd, Nat.reduceLeDiff, Nat.zero_le, Bool.not_true, Bool.not_false, ↓reduceIte, Bool.false_eq_true, forL, pr3, r23, r33, i11, i21, dget2, t3_01, t3_02, t3_12, fi, mo1 ha hc, mo2 ha hc, mo3 ha hc hb, mo4 ha hc hb, cross, h]
    exact trunc_cut rfl hS
theorem due4 (a b c d e f : Rat) (ha : Tb a) (hb : Tb b) (hc : Tb c) (hd : Tb d) (he : Tb e) (hf : Tb f) : prg.run (k + 2) 17 [.int 4, .tup [fr a, fr b, fr c, fr d, fr e, fr f]] S = .ok (fw4 a b c d e f) S := by
  have ap := fun T => law_pairs_run k T 4 (.inr (.inr rfl))
  have fi : ∀ (S : Store) (y : Rat), view S (fr y) = .tup [.int y.num, .int (y.den : Int)] := fun S y => rfl
  rw [run_succ (k + 1) 17 _ rfl, fn_run _ rfl]
  simp only [B__law_due, s_cons, s_nil, s_ret', s_ite', s_asg', s_par', s_asgc', s_expr', s_raise', s_loop', s_for', s_app', g_tv', g_tt', gs_nil', gs_cons', g_ts', i_one', i_rng1', i_rng2', i_rng3', i_enum', enumI_lst, enumI_tup, i_zip', e_var, e_int, e_str, e_bl, e_non, e_bin, e_neg, e_not, e_cmp, e_chain, e_and, e_or, e_one, e_ife, e_tup, e_lst, e_ix, e_call, e_prim, e_isi, e_comp, e_sl, e_rev, e_upper, e_rep, e_dnew, e_dz, e_dix, e_din, e_lrng1, e_lrng2, e_word, w_ok, s_dset', GL_call, GL_glob, GL_fuel, GL_nf, optE_nil, optE_int, optE_neg, optE_var, optE_bin, a_nil', a_cons', end_nx, end_rt, fl_nx, fl_rt, trunc_same, tst_bl, getV0, getVs, R.bind_ok, R.bind_exc, R.bind_bad, R.ofO_some, R.ofO_none, view_int, view_bl, view_str, view_non, view_tup, view_lst, view_scr, isTy, b_add, b_addT, b_addL, b_sub, b_mul, b_mulT, b_fdiv, b_mod, b_addB, b_subB, b_mulB, pow12, pow18, pow31, pow6, c_eq3, c_lt, c_le, c_gt, c_ge, c_isN, c_notN, c_isB, c_notB, c_eqI, c_neI, t_bl, t_int, t_non, t_tup, t_lst, p_len_t, p_len_l, p_abs, p_int, p_all, p_any, p_tupL, p_tupT, p_lstT, p_lstL, p_max2, p_min2, x_tup, x_lst, n_int, it_tup, it_lst, sl_tup, sl_lst, at0, at1, at2, sl1, sl2, zipI, mkC_ok, mkL_f, w_nil, w_cons, bs_nil, bs_cons, List.all_cons, List.all_nil, id_eq, Bool.and_true, Bool.and_self, Bool.false_and, Bool.and_false, Bool.or_false, Bool.false_or, Bool.true_and, Bool.or_true, Bool.true_or, List.zipWith_cons_cons, List.zipWith_nil_right, List.zipWith_nil_left, decide_true, decide_false, l0, l1, l2, l3, if_true, List.reverse_cons, List.reverse_nil, nn_non, nn_int, nn_bl, nn_str, nn_tup, nn_lst, tlen, ite_and, ite_and', ite_or, Option.map_some, List.map_cons, List.map_nil, List.length_cons, List.length_nil, List.cons_append, List.nil_append, List.replicate, List.set_cons_zero, List.set_cons_succ, Nat.reduceSub, Nat.reduceAdd, Nat.reduceLeDiff, Nat.zero_le, Bool.not_true, Bool.not_false, ↓reduceIte, Bool.false_eq_true, ap, dz4]
  unfold fw4
  by_cases h1 : a * d = b
  · by_cases h2 : a * e = c
    · by_cases h3 : b * f = c
      · by_cases h4 : d * f = e
        · simp only [s_cons, s_nil, s_ret', s_ite', s_asg', s_par', s_asgc', s_expr', s_raise', s_loop', s_for', s_app', g_tv', g_tt', gs_nil', gs_cons', g_ts', i_one', i_rng1', i_rng2', i_rng3', i_enum', enumI_lst, enumI_tup, i_zip', e_var, e_int, e_str, e_bl, e_non, e_bin, e_neg, e_not, e_cmp, e_chain, e_and, e_or, e_one, e_ife, e_tup, e_lst, e_ix, e_call, e_prim, e_isi, e_comp, e_sl, e_rev, e_upper, e_rep, e_dnew, e_dz, e_dix, e_din, e_lrng1, e_lrng2, e_word, w_ok, s_dset', GL_call, GL_glob, GL_fuel, GL_nf, optE_nil, optE_int, optE_neg, optE_var, optE_bin, a_nil', a_cons', end_nx, end_rt, fl_nx, fl_rt, trunc_same, tst_bl, getV0, getVs, R.bind_ok, R.bind_exc, R.bind_bad, R.ofO_some, R.ofO_none, view_int, view_bl, view_str, view_non, view_tup, view_lst, view_scr, isTy, b_add, b_addT, b_addL, b_sub, b_mul, b_mulT, b_fdiv, b_mod, b_addB, b_subB, b_mulB, pow12, pow18, pow31, pow6, c_eq3, c_lt, c_le, c_gt, c_ge, c_isN, c_notN, c_isB, c_notB, c_eqI, c_neI, t_bl, t_int, t_non, t_tup, t_lst, p_len_t, p_len_l, p_abs, p_int, p_all, p_any, p_tupL, p_tupT, p_lstT, p_lstL, p_max2, p_min2, x_tup, x_lst, n_int, it_tup, it_lst, sl_tup, sl_lst, at0, at1, at2, sl1, sl2, zipI, mkC_ok, mkL_f, w_nil, w_cons, bs_nil, bs_cons, List.all_cons, List.all_nil, id_eq, Bool.and_true, Bool.and_self, Bool.false_and, Bool.and_false, Bool.or_false, Bool.false_or, Bool.true_and, Bool.or_true, Bool.true_or, List.zipWith_cons_cons, List.zipWith_nil_right, List.zipWith_nil_left, decide_true, decide_false, l0, l1, l2, l3, if_true, List.reverse_cons, List.reverse_nil, nn_non, nn_int, nn_bl, nn_str, nn_tup, nn_lst, tlen, ite_and, ite_and', ite_or, Option.map_some, List.map_cons, List.map_nil, List.length_cons, List.length_nil, List.cons_append, List.nil_append, List.replicate, List.set_cons_zero, List.set_cons_succ, Nat.reduceSub, Nat.reduceAdd, Nat.reduceLeDiff, Nat.zero_le, Bool.not_true, Bool.not_false, ↓reduceIte, Bool.false_eq_true, forL, pr4, r24, r34, r44, i11, i21, i31, dget2, t4_01, t4_02, t4_03, t4_12, t4_13, t4_23, fi, mo1, mo2, mo3, mo4, ha, hb, hc, hd, he, hf, cross, h1, h2, h3, h4]
          exact trunc_cut rfl hS
        · simp only [s_cons, s_nil, s_ret', s_ite', s_asg', s_par', s_asgc', s_expr', s_raise', s_loop', s_for', s_app', g_tv', g_tt', gs_nil', gs_cons', g_ts', i_one', i_rng1', i_rng2', i_rng3', i_enum', enumI_lst, enumI_tup, i_zip', e_var, e_int, e_str, e_bl, e_non, e_bin, e_neg, e_not, e_cmp, e_chain, e_and, e_or, e_one, e_ife, e_tup, e_lst, e_ix, e_call, e_prim, e_isi, e_comp, e_sl, e_rev, e_upper, e_rep, e_dnew, e_dz, e_dix, e_din, e_lrng1, e_lrng2, e_word, w_ok, s_dset', GL_call, GL_glob, GL_fuel, GL_nf, optE_nil, optE_int, optE_neg, optE_var, optE_bin, a_nil', a_cons', end_nx, end_rt, fl_nx, fl_rt, trunc_same, tst_bl, getV0, getVs, R.bind_ok, R.bind_exc, R.bind_bad, R.ofO_some, R.ofO_none, view_int, view_bl, view_str, view_non, view_tup, view_lst, view_scr, isTy, b_add, b_addT, b_addL, b_sub, b_mul, b_mulT, b_fdiv, b_mod, b_addB, b_subB, b_mulB, pow12, pow18, pow31, pow6, c_eq3, c_lt, c_le, c_gt, c_ge, c_isN, c_notN, c_isB, c_notB, c_eqI, c_neI, t_bl, t_int, t_non, t_tup, t_lst, p_len_t, p_len_l, p_abs, p_int, p_all, p_any, p_tupL, p_tupT, p_lstT, p_lstL, p_max2, p_min2, x_tup, x_lst, n_int, it_tup, it_lst, sl_tup, sl_lst, at0, at1, at2, sl1, sl2, zipI, mkC_ok, mkL_f, w_nil, w_cons, bs_nil, bs_cons, List.all_cons, List.all_nil, id_eq, Bool.and_true, Bool.and_self, Bool.false_and, Bool.and_false, Bool.or_false, Bool.false_or, Bool.true_and, Bool.or_true, Bool.true_or, List.zipWith_cons_cons, List.zipWith_nil_right, List.zipWith_nil_left, decide_true, decide_false, l0, l1, l2, l3, if_true, List.reverse_cons, List.reverse_nil, nn_non, nn_int, nn_bl, nn_str, nn_tup, nn_lst, tlen, ite_and, ite_and', ite_or, Option.map_some, List.map_cons, List.map_nil, List.length_cons, List.length_nil, List.cons_append, List.nil_append, List.replicate, List.set_cons_zero, List.set_cons_succ, Nat.reduceSub, Nat.reduceAdd, Nat.reduceLeDiff, Nat.zero_le, Bool.not_true, Bool.not_false, ↓reduceIte, Bool.false_eq_true, forL, pr4, r24, r34, r44, i11, i21, i31, dget2, t4_01, t4_02, t4_03, t4_12, t4_13, t4_23, fi, mo1, mo2, mo3, mo4, ha, hb, hc, hd, he, hf, cross, h1, h2, h3, h4]
          exact trunc_cut rfl hS
      · simp only [s_cons, s_nil, s_ret', s_ite', s_asg', s_par', s_asgc', s_expr', s_raise', s_loop', s_for', s_app', g_tv', g_tt', gs_nil', gs_cons', g_ts', i_one', i_rng1', i_rng2', i_rng3', i_enum', enumI_lst, enumI_tup, i_zip', e_var, e_int, e_str, e_bl, e_non, e_bin, e_neg, e_not, e_cmp, e_chain, e_and, e_or, e_one, e_ife, e_tup, e_lst, e_ix, e_call, e_prim, e_isi, e_comp, e_sl, e_rev, e_upper, e_rep, e_dnew, e_dz, e_dix, e_din, e_lrng1, e_lrng2, e_word, w_ok, s_dset', GL_call, GL_glob, GL_fuel, GL_nf, optE_nil, optE_int, optE_neg, optE_var, optE_bin, a_nil', a_cons', end_nx, end_rt, fl_nx, fl_rt, trunc_same, tst_bl, getV0, getVs, R.bind_ok, R.bind_exc, R.bind_bad, R.ofO_some, R.ofO_none, view_int, view_bl, view_str, view_non, view_tup, view_lst, view_scr, isTy, b_add, b_addT, b_addL, b_sub, b_mul, b_mulT, b_fdiv, b_mod, b_addB, b_subB, b_mulB, pow12, pow18, pow31, pow6, c_eq3, c_lt, c_le, c_gt, c_ge, c_isN, c_notN, c_isB, c_notB, c_eqI, c_neI, t_bl, t_int, t_non, t_tup, t_lst, p_len_t, p_len_l, p_abs, p_int, p_all, p_any, p_tupL, p_tupT, p_lstT, p_lstL, p_max2, p_min2, x_tup, x_lst, n_int, it_tup, it_lst, sl_tup, sl_lst, at0, at1, at2, sl1, sl2, zipI, mkC_ok, mkL_f, w_nil, w_cons, bs_nil, bs_cons, List.all_cons, List.all_nil, id_eq, Bool.and_true, Bool.and_self, Bool.false_and, Bool.and_false, Bool.or_false, Bool.false_or, Bool.true_and, Bool.or_true, Bool.true_or, List.zipWith_cons_cons, List.zipWith_nil_right, List.zipWith_nil_left, decide_true, decide_false, l0, l1, l2, l3, if_true, List.reverse_cons, List.reverse_nil, nn_non, nn_int, nn_bl, nn_str, nn_tup, nn_lst, tlen, ite_and, ite_and', ite_or, Option.map_some, List.map_cons, List.map_nil, List.length_cons, List.length_nil, List.cons_append, List.nil_append, List.replicate, List.set_cons_zero, List.set_cons_succ, Nat.reduceSub, Nat.reduceAdd, Nat.reduceLeDiff, Nat.zero_le, Bool.not_true, Bool.not_false, ↓reduceIte, Bool.false_eq_true, forL, pr4, r24, r34, r44, i11, i21, i31, dget2, t4_01, t4_02, t4_03, t4_12, t4_13, t4_23, fi, mo1, mo2, mo3, mo4, ha, hb, hc, hd, he, hf, cross, h1, h2, h3]
        exact trunc_cut rfl hS
    · simp only [s_cons, s_nil, s_ret', s_ite', s_asg', s_par', s_asgc', s_expr', s_raise', s_loop', s_for', s_app', g_tv', g_tt', gs_nil', gs_cons', g_ts', i_one', i_rng1', i_rng2', i_rng3', i_enum', enumI_lst, enumI_tup, i_zip', e_var, e_int, e_str, e_bl, e_non, e_bin, e_neg, e_not, e_cmp, e_chain, e_and, e_or, e_one, e_ife, e_tup, e_lst, e_ix, e_call, e_prim, e_isi, e_comp, e_sl, e_rev, e_upper, e_rep, e_dnew, e_dz, e_dix, e_din, e_lrng1, e_lrng2, e_word, w_ok, s_dset', GL_call, GL_glob, GL_fuel, GL_nf, optE_nil, optE_int, optE_neg, optE_var, optE_bin, a_nil', a_cons', end_nx, end_rt, fl_nx, fl_rt, trunc_same, tst_bl, getV0, getVs, R.bind_ok, R.bind_exc, R.bind_bad, R.ofO_some, R.ofO_none, view_int, view_bl, view_str, view_non, view_tup, view_lst, view_scr, isTy, b_add, b_addT, b_addL, b_sub, b_mul, b_mulT, b_fdiv, b_mod, b_addB, b_subB, b_mulB, pow12, pow18, pow31, pow6, c_eq3, c_lt, c_le, c_gt, c_ge, c_isN, c_notN, c_isB, c_notB, c_eqI, c_neI, t_bl, t_int, t_non, t_tup, t_lst, p_len_t, p_len_l, p_abs, p_int, p_all, p_any, p_tupL, p_tupT, p_lstT, p_lstL, p_max2, p_min2, x_tup, x_lst, n_int, it_tup, it_lst, sl_tup, sl_lst, at0, at1, at2, sl1, sl2, zipI, mkC_ok, mkL_f, w_nil, w_cons, bs_nil, bs_cons, List.all_cons, List.all_nil, id_eq, Bool.and_true, Bool.and_self, Bool.false_and, Bool.and_false, Bool.or_false, Bool.false_or, Bool.true_and, Bool.or_true, Bool.true_or, List.zipWith_cons_cons, List.zipWith_nil_right, List.zipWith_nil_left, decide_true, decide_false, l0, l1, l2, l3, if_true, List.reverse_cons, List.reverse_nil, nn_non, nn_int, nn_bl, nn_str, nn_tup, nn_lst, tlen, ite_and, ite_and', ite_or, Option.map_some, List.map_cons, List.map_nil, List.length_cons, List.length_nil, List.cons_append, List.nil_append, List.replicate, List.set_cons_zero, List.set_cons_succ, Nat.reduceSub, Nat.reduceAdd, Nat.reduceLeDiff, Nat.zero_le, Bool.not_true, Bool.not_false, ↓reduceIte, Bool.false_eq_true, forL, pr4, r24, r34, r44, i11, i21, i31, dget2, t4_01, t4_02, t4_03, t4_12, t4_13, t4_23, fi, mo1, mo2, mo3, mo4, ha, hb, hc, hd, he, hf, cross, h1, h2]
      exact trunc_cut rfl hS
  · simp only [s_cons, s_nil, s_ret', s_ite', s_asg', s_par', s_asgc', s_expr', s_raise', s_loop', s_for', s_app', g_tv', g_tt', gs_nil', gs_cons', g_ts', i_one', i_rng1', i_rng2', i_rng3', i_enum', enumI_lst, enumI_tup, i_zip', e_var, e_int, e_str, e_bl, e_non, e_bin, e_neg, e_not, e_cmp, e_chain, e_and, e_or, e_one, e_ife, e_tup, e_lst, e_ix, e_call, e_prim, e_isi, e_comp, e_sl, e_rev, e_upper, e_rep, e_dnew, e_dz, e_dix, e_din, e_lrng1, e_lrng2, e_word, w_ok, s_dset', GL_call, GL_glob, GL_fuel, GL_nf, optE_nil, optE_int, optE_neg, optE_var, optE_bin, a_nil', a_cons', end_nx, end_rt, fl_nx, fl_rt, trunc_same, tst_bl, getV0, getVs, R.bind_ok, R.bind_exc, R.bind_bad, R.ofO_some, R.ofO_none, view_int, view_bl, view_str, view_non, view_tup, view_lst, view_scr, isTy, b_add, b_addT, b_addL, b_sub, b_mul, b_mulT, b_fdiv, b_mod, b_addB, b_subB, b_mulB, pow12, pow18, pow31, pow6, c_eq3, c_lt, c_le, c_gt, c_ge, c_isN, c_notN, c_isB, c_notB, c_eqI, c_neI, t_bl, t_int, t_non, t_tup, t_lst, p_len_t, p_len_l, p_abs, p_int, p_all, p_any, p_tupL, p_tupT, p_lstT, p_lstL, p_max2, p_min2, x_tup, x_lst, n_int, it_tup, it_lst, sl_tup, sl_lst, at0, at1, at2, sl1, sl2, zipI, mkC_ok, mkL_f, w_nil, w_cons, bs_nil, bs_cons, List.all_cons, List.all_nil, id_eq, Bool.and_true, Bool.and_self, Bool.false_and, Bool.and_false, Bool.or_false, Bool.false_or, Bool.true_and, Bool.or_true, Bool.true_or, List.zipWith_cons_cons, List.zipWith_nil_right, List.zipWith_nil_left, decide_true, decide_false, l0, l1, l2, l3, if_true, List.reverse_cons, List.reverse_nil, nn_non, nn_int, nn_bl, nn_str, nn_tup, nn_lst, tlen, ite_and, ite_and', ite_or, Option.map_some, List.map_cons, List.map_nil, List.length_cons, List.length_nil, List.cons_append, List.nil_append, List.replicate, List.set_cons_zero, List.set_cons_succ, Nat.reduceSub, Nat.reduceAdd, Nat.reduceLeDiff, Nat.zero_le, Bool.not_true, Bool.not_false, ↓reduceIte, Bool.false_eq_true, forL, pr4, r24, r34, r44, i11, i21, i31, dget2, t4_01, t4_02, t4_03, t4_12, t4_13, t4_23, fi, mo1, mo2, mo3, mo4, ha, hb, hc, hd, he, hf, cross, h1]
    exact trunc_cut rfl hS
end
/-- what both find -/
def fwD (m : Int) (xs : List Rat) : Ev.D := match xs with
  | [a, b, c] => fw3 a b c
  | [a, b, c, d, e, f] => fw4 a b c d e f
  | _ => fw2
theorem fw_len {xs : List Rat} {m : Int} (hm : Pl m) (hl : xs.length = (prD m).length) : (m = 2 ∧ ∃ a, xs = [a]) ∨ (m = 3 ∧ ∃ a b c, xs = [a, b, c]) ∨ (m = 4 ∧ ∃ a b c d e f, xs = [a, b, c, d, e, f]) := by
  rcases hm with rfl | rfl | rfl
  · match xs, hl with
    | [a], _ => exact .inl ⟨rfl, a, rfl⟩
  · match xs, hl with
    | [a, b, c], _ => exact .inr (.inl ⟨rfl, a, b, c, rfl⟩)
  · match xs, hl with
    | [a, b, c, d, e, f], _ => exact .inr (.inr ⟨rfl, a, b, c, d, e, f, rfl⟩)
section
variable (k : Nat) (S : Store) (hS : S.all (belowO S.length) = true) (m : Int) (hm : Pl m) (xs : List Rat) (hl : xs.length = (prD m).length) (hx : ∀ x ∈ xs, Tb x)
include hS hm hl hx
theorem wrong_run : prg.run (k + 3) 8 [.int m, .tup (xs.map fr)] S = .ok (fwD m xs) S := by
  rcases fw_len hm hl with ⟨rfl, a, rfl⟩ | ⟨rfl, a, b, c, rfl⟩ | ⟨rfl, a, b, c, d, e, f, rfl⟩
  · exact wrong2 k S hS a (hx a (by simp))
  · exact wrong3 k S hS a b c (hx a (by simp)) (hx b (by simp)) (hx c (by simp))
  · exact wrong4 k S hS a b c d e f (hx a (by simp)) (hx b (by simp)) (hx c (by simp)) (hx d (by simp)) (hx e (by simp)) (hx f (by simp))
theorem due_run : prg.run (k + 2) 17 [.int m, .tup (xs.map fr)] S = .ok (fwD m xs) S := by
  rcases fw_len hm hl with ⟨rfl, a, rfl⟩ | ⟨rfl, a, b, c, rfl⟩ | ⟨rfl, a, b, c, d, e, f, rfl⟩
  · exact due2 k S hS a (hx a (by simp))
  · exact due3 k S hS a b c (hx a (by simp)) (hx b (by simp)) (hx c (by simp))
  · exact due4 k S hS a b c d e f (hx a (by simp)) (hx b (by simp)) (hx c (by simp)) (hx d (by simp)) (hx e (by simp)) (hx f (by simp))
theorem tab_ok : isTab m (.tup (xs.map fr)) = true := by
  have h2 : (xs.map fr).all (fun d => isFrac d 1000000) = true := by
    rw [List.all_eq_true]
    intro d hd
    obtain ⟨x, hxm, rfl⟩ := List.mem_map.1 hd
    exact (hx x hxm).2.2
  show (decide ((xs.map fr).length = (prD m).length) && (xs.map fr).all (fun d => isFrac d 1000000)) = true
  rw [h2, List.length_map, hl]
  simp
theorem gd_frs : gd 2 (.tup (xs.map fr)) = true := by
  have : xs.length ≤ 6 := by
    rcases hm with rfl | rfl | rfl <;> (rw [hl]; decide)
  show (decide ((xs.map fr).length ≤ 1000) && gdL 1 (xs.map fr)) = true
  rw [List.length_map]
  have e : gdL 1 (xs.map fr) = true := by
    clear hl hx this
    induction xs with
    | nil => rfl
    | cons x xs ih => simp only [List.map_cons, gdL, gd_fr, ih, Bool.and_self]
  rw [e]
  simp; omega
theorem comes_run : prg.run (k + 5) 10 [.int m, .tup (xs.map fr)] S = .ok (.bl (isNon (fwD m xs))) S := by
  rw [run_succ (k + 4) 10 _ rfl, fn_run _ rfl]
  have f := need_table_run k 2 S m hm _ (gd_frs S hS m hm xs hl hx)
  rw [tab_ok S hS m hm xs hl hx, if_pos rfl] at f
  have w := wrong_run (k + 1) S hS m hm xs hl hx
  have v : ∀ T, view T (fwD m xs) = fwD m xs := fun T => by
    rcases fw_len hm hl with ⟨rfl, a, rfl⟩ | ⟨rfl, a, b, c, rfl⟩ | ⟨rfl, a, b, c, d, e, f, rfl⟩
    · rfl
    · simp only [fwD, fw3]; split <;> rfl
    · simp only [fwD, fw4]; repeat (first | rfl | split)
  simp only [B_comes_from, s_cons, s_nil, s_ret', s_ite', s_asg', s_par', s_asgc', s_expr', s_raise', s_loop', s_for', s_app', g_tv', g_tt', gs_nil', gs_cons', g_ts', i_one', i_rng1', i_rng2', i_rng3', i_enum', enumI_lst, enumI_tup, i_zip', e_var, e_int, e_str, e_bl, e_non, e_bin, e_neg, e_not, e_cmp, e_chain, e_and, e_or, e_one, e_ife, e_tup, e_lst, e_ix, e_call, e_prim, e_isi, e_comp, e_sl, e_rev, e_upper, e_rep, e_dnew, e_dz, e_dix, e_din, e_lrng1, e_lrng2, e_word, w_ok, s_dset', GL_call, GL_glob, GL_fuel, GL_nf, optE_nil, optE_int, optE_neg, optE_var, optE_bin, a_nil', a_cons', end_nx, end_rt, fl_nx, fl_rt, trunc_same, tst_bl, getV0, getVs, R.bind_ok, R.bind_exc, R.bind_bad, R.ofO_some, R.ofO_none, view_int, view_bl, view_str, view_non, view_tup, view_lst, view_scr, isTy, b_add, b_addT, b_addL, b_sub, b_mul, b_mulT, b_fdiv, b_mod, b_addB, b_subB, b_mulB, pow12, pow18, pow31, pow6, c_eq3, c_lt, c_le, c_gt, c_ge, c_isN, c_notN, c_isB, c_notB, c_eqI, c_neI, t_bl, t_int, t_non, t_tup, t_lst, p_len_t, p_len_l, p_abs, p_int, p_all, p_any, p_tupL, p_tupT, p_lstT, p_lstL, p_max2, p_min2, x_tup, x_lst, n_int, it_tup, it_lst, sl_tup, sl_lst, at0, at1, at2, sl1, sl2, zipI, mkC_ok, mkL_f, w_nil, w_cons, bs_nil, bs_cons, List.all_cons, List.all_nil, id_eq, Bool.and_true, Bool.and_self, Bool.false_and, Bool.and_false, Bool.or_false, Bool.false_or, Bool.true_and, Bool.or_true, Bool.true_or, List.zipWith_cons_cons, List.zipWith_nil_right, List.zipWith_nil_left, decide_true, decide_false, l0, l1, l2, l3, if_true, List.reverse_cons, List.reverse_nil, nn_non, nn_int, nn_bl, nn_str, nn_tup, nn_lst, tlen, ite_and, ite_and', ite_or, Option.map_some, List.map_cons, List.map_nil, List.length_cons, List.length_nil, List.cons_append, List.nil_append, List.replicate, List.set_cons_zero, List.set_cons_succ, Nat.reduceSub, Nat.reduceAdd, Nat.reduceLeDiff, Nat.zero_le, Bool.not_true, Bool.not_false, ↓reduceIte, Bool.false_eq_true, f, w, v]
theorem ring_run : prg.run (k + 5) 11 [.int m, .tup (xs.map fr)] S = .ok (fwD m xs) S := by
  rw [run_succ (k + 4) 11 _ rfl, fn_run _ rfl]
  have f := need_table_run k 2 S m hm _ (gd_frs S hS m hm xs hl hx)
  rw [tab_ok S hS m hm xs hl hx, if_pos rfl] at f
  have w := wrong_run (k + 1) S hS m hm xs hl hx
  simp only [B_wrong_ring, s_cons, s_nil, s_ret', s_ite', s_asg', s_par', s_asgc', s_expr', s_raise', s_loop', s_for', s_app', g_tv', g_tt', gs_nil', gs_cons', g_ts', i_one', i_rng1', i_rng2', i_rng3', i_enum', enumI_lst, enumI_tup, i_zip', e_var, e_int, e_str, e_bl, e_non, e_bin, e_neg, e_not, e_cmp, e_chain, e_and, e_or, e_one, e_ife, e_tup, e_lst, e_ix, e_call, e_prim, e_isi, e_comp, e_sl, e_rev, e_upper, e_rep, e_dnew, e_dz, e_dix, e_din, e_lrng1, e_lrng2, e_word, w_ok, s_dset', GL_call, GL_glob, GL_fuel, GL_nf, optE_nil, optE_int, optE_neg, optE_var, optE_bin, a_nil', a_cons', end_nx, end_rt, fl_nx, fl_rt, trunc_same, tst_bl, getV0, getVs, R.bind_ok, R.bind_exc, R.bind_bad, R.ofO_some, R.ofO_none, view_int, view_bl, view_str, view_non, view_tup, view_lst, view_scr, isTy, b_add, b_addT, b_addL, b_sub, b_mul, b_mulT, b_fdiv, b_mod, b_addB, b_subB, b_mulB, pow12, pow18, pow31, pow6, c_eq3, c_lt, c_le, c_gt, c_ge, c_isN, c_notN, c_isB, c_notB, c_eqI, c_neI, t_bl, t_int, t_non, t_tup, t_lst, p_len_t, p_len_l, p_abs, p_int, p_all, p_any, p_tupL, p_tupT, p_lstT, p_lstL, p_max2, p_min2, x_tup, x_lst, n_int, it_tup, it_lst, sl_tup, sl_lst, at0, at1, at2, sl1, sl2, zipI, mkC_ok, mkL_f, w_nil, w_cons, bs_nil, bs_cons, List.all_cons, List.all_nil, id_eq, Bool.and_true, Bool.and_self, Bool.false_and, Bool.and_false, Bool.or_false, Bool.false_or, Bool.true_and, Bool.or_true, Bool.true_or, List.zipWith_cons_cons, List.zipWith_nil_right, List.zipWith_nil_left, decide_true, decide_false, l0, l1, l2, l3, if_true, List.reverse_cons, List.reverse_nil, nn_non, nn_int, nn_bl, nn_str, nn_tup, nn_lst, tlen, ite_and, ite_and', ite_or, Option.map_some, List.map_cons, List.map_nil, List.length_cons, List.length_nil, List.cons_append, List.nil_append, List.replicate, List.set_cons_zero, List.set_cons_succ, Nat.reduceSub, Nat.reduceAdd, Nat.reduceLeDiff, Nat.zero_le, Bool.not_true, Bool.not_false, ↓reduceIte, Bool.false_eq_true, f, w]
theorem right_run : prg.run (k + 6) 18 [.int m, .tup (xs.map fr)] S = .ok (.bl true) S := by
  rw [run_succ (k + 5) 18 _ rfl, fn_run _ rfl]
  have d := due_run (k + 3) S hS m hm xs hl hx
  have c := comes_run k S hS m hm xs hl hx
  have r := ring_run k S hS m hm xs hl hx
  have t := is_table_run k 2 S m hm _ (gd_frs S hS m hm xs hl hx)
  rw [tab_ok S hS m hm xs hl hx] at t
  have v : ∀ T, view T (fwD m xs) = fwD m xs := fun T => by
    rcases fw_len hm hl with ⟨rfl, a, rfl⟩ | ⟨rfl, a, b, c, rfl⟩ | ⟨rfl, a, b, c, d, e, f, rfl⟩
    · rfl
    · simp only [fwD, fw3]; split <;> rfl
    · simp only [fwD, fw4]; repeat (first | rfl | split)
  have o : okD 16 (fwD m xs) = true := by
    rcases fw_len hm hl with ⟨rfl, a, rfl⟩ | ⟨rfl, a, b, c, rfl⟩ | ⟨rfl, a, b, c, d, e, f, rfl⟩
    · rfl
    · simp only [fwD, fw3]; split <;> rfl
    · simp only [fwD, fw4]; repeat (first | rfl | split)
  have ne := c_ne_same (S := S) o
  have eb : ∀ b : Bool, cmpD S .eq (.bl b) (.bl b) = some true := fun b => c_eq_same (by cases b <;> rfl)
  simp only [B__law_right, s_cons, s_nil, s_ret', s_ite', s_asg', s_par', s_asgc', s_expr', s_raise', s_loop', s_for', s_app', g_tv', g_tt', gs_nil', gs_cons', g_ts', i_one', i_rng1', i_rng2', i_rng3', i_enum', enumI_lst, enumI_tup, i_zip', e_var, e_int, e_str, e_bl, e_non, e_bin, e_neg, e_not, e_cmp, e_chain, e_and, e_or, e_one, e_ife, e_tup, e_lst, e_ix, e_call, e_prim, e_isi, e_comp, e_sl, e_rev, e_upper, e_rep, e_dnew, e_dz, e_dix, e_din, e_lrng1, e_lrng2, e_word, w_ok, s_dset', GL_call, GL_glob, GL_fuel, GL_nf, optE_nil, optE_int, optE_neg, optE_var, optE_bin, a_nil', a_cons', end_nx, end_rt, fl_nx, fl_rt, trunc_same, tst_bl, getV0, getVs, R.bind_ok, R.bind_exc, R.bind_bad, R.ofO_some, R.ofO_none, view_int, view_bl, view_str, view_non, view_tup, view_lst, view_scr, isTy, b_add, b_addT, b_addL, b_sub, b_mul, b_mulT, b_fdiv, b_mod, b_addB, b_subB, b_mulB, pow12, pow18, pow31, pow6, c_eq3, c_lt, c_le, c_gt, c_ge, c_isN, c_notN, c_isB, c_notB, c_eqI, c_neI, t_bl, t_int, t_non, t_tup, t_lst, p_len_t, p_len_l, p_abs, p_int, p_all, p_any, p_tupL, p_tupT, p_lstT, p_lstL, p_max2, p_min2, x_tup, x_lst, n_int, it_tup, it_lst, sl_tup, sl_lst, at0, at1, at2, sl1, sl2, zipI, mkC_ok, mkL_f, w_nil, w_cons, bs_nil, bs_cons, List.all_cons, List.all_nil, id_eq, Bool.and_true, Bool.and_self, Bool.false_and, Bool.and_false, Bool.or_false, Bool.false_or, Bool.true_and, Bool.or_true, Bool.true_or, List.zipWith_cons_cons, List.zipWith_nil_right, List.zipWith_nil_left, decide_true, decide_false, l0, l1, l2, l3, if_true, List.reverse_cons, List.reverse_nil, nn_non, nn_int, nn_bl, nn_str, nn_tup, nn_lst, tlen, ite_and, ite_and', ite_or, Option.map_some, List.map_cons, List.map_nil, List.length_cons, List.length_nil, List.cons_append, List.nil_append, List.replicate, List.set_cons_zero, List.set_cons_succ, Nat.reduceSub, Nat.reduceAdd, Nat.reduceLeDiff, Nat.zero_le, Bool.not_true, Bool.not_false, ↓reduceIte, Bool.false_eq_true, d, c, r, t, v, ne, eb, beq_self_eq_true]
end
end K10
end
section
set_option Elab.async false
set_option linter.all false
set_option maxRecDepth 100000
set_option maxHeartbeats 4000000
set_option exponentiation.threshold 100000
namespace Ev
open PySem (Str)
theorem div_eq {a b : Rat} (hb : 0 < b) : ((a.num * (b.den : Int) : Int) : Rat) / (((a.den : Int) * b.num : Int) : Rat) = a / b := by
  have h1 := fr_div a
  have h2 := fr_div b
  have n1 := den_ne a
  have n2 := den_ne b
  have n3 : (b.num : Rat) ≠ 0 := by
    intro h
    rw [h] at h2
    have : b = 0 := by rw [← h2, Rat.div_def, Rat.zero_mul]
    grind
  rw [Rat.intCast_mul, Rat.intCast_mul]
  generalize ((a.den : Int) : Rat) = da at *
  generalize ((b.den : Int) : Rat) = db at *
  generalize ((a.num : Int) : Rat) = na at *
  generalize ((b.num : Int) : Rat) = nb at *
  have hb0 : b ≠ 0 := by grind
  rw [← h1, ← h2]
  grind
theorem a2_0 {x0 x1 : D} : L2.atI [x0, x1] 0 = some x0 := id rfl
theorem a2_1 {x0 x1 : D} : L2.atI [x0, x1] 1 = some x1 := id rfl
theorem a3_0 {x0 x1 x2 : D} : L2.atI [x0, x1, x2] 0 = some x0 := id rfl
theorem a3_1 {x0 x1 x2 : D} : L2.atI [x0, x1, x2] 1 = some x1 := id rfl
theorem a3_2 {x0 x1 x2 : D} : L2.atI [x0, x1, x2] 2 = some x2 := id rfl
theorem a4_0 {x0 x1 x2 x3 : D} : L2.atI [x0, x1, x2, x3] 0 = some x0 := id rfl
theorem a4_1 {x0 x1 x2 x3 : D} : L2.atI [x0, x1, x2, x3] 1 = some x1 := id rfl
theorem a4_2 {x0 x1 x2 x3 : D} : L2.atI [x0, x1, x2, x3] 2 = some x2 := id rfl
theorem a4_3 {x0 x1 x2 x3 : D} : L2.atI [x0, x1, x2, x3] 3 = some x3 := id rfl
def callF (G : Glb) (v : D) (x : R (List D)) : R D := match v with
  | .fn f => if f < G.nf then x.bind fun ds S1 => G.call f ds S1 else .bad
  | _ => .bad
theorem callF_fn {G : Glb} {f : Nat} {x : R (List D)} : callF G (.fn f) x = if f < G.nf then x.bind fun ds S1 => G.call f ds S1 else .bad := id rfl
theorem e_callv' {G : Glb} {i : Nat} {es : T} {ρ : Env} {S : Store} : evE G (.callv i es) ρ S = (R.ofO (getV ρ i) S).bind fun v S0 => callF G v (evA G es ρ S0) := by
  first | (simp only [evE]; done) | (simp only [evE]; rfl) | (simp only [evE]; congr 1; done) | (simp only [evE]; congr 1; funext v S0; cases v <;> rfl)
theorem e_glob' {G : Glb} {g : Nat} {ρ : Env} {S : Store} : evE G (.glob g) ρ S = R.ofO (G.glob g) S := by simp only [evE]
end Ev
namespace K10
open Ev
open PySem (Str)
/-- a strength that is told -/
def Tl (x : Rat) : Prop := 0 < x ∧ Sz 5 x
theorem Tl_num {x : Rat} (h : Tl x) : 0 < x.num ∧ x.num < 32 ∧ (x.den : Int) < 32 := by
  have := num_pos h.1
  have := h.2.1
  have := h.2.2
  omega
theorem Tl_frac {x : Rat} (h : Tl x) : isFrac (fr x) 1000 = true := by
  have := Tl_num h
  exact isFrac_fr h.1 (by omega) (by omega)
theorem Tl_is (k : Nat) (T : Store) {x : Rat} (h : Tl x) : prg.run (k + 2) 3 [fr x, .int 1000] T = .ok (.bl true) T := by
  have f := is_fraction_run k 1 T (fr x) 1000 (gd_fr x) (by decide)
  rw [Tl_frac h] at f
  exact f
theorem lowD (k : Nat) (T : Store) {a b : Rat} (ha : Tl a) (hb : Tl b) : prg.run (k + 2) 2 [.int (a.num * (b.den : Int)), .int ((a.den : Int) * b.num)] T = .ok (fr (a / b)) T := by
  have h := lowest_run k 10 T (a.num * (b.den : Int)) ((a.den : Int) * b.num) (abs_mul_lt ha.2.den hb.2.1) (Int.mul_pos (den_pos a) (num_pos hb.1)) (by decide)
  rw [div_eq hb.1] at h
  exact h
theorem lawD (k : Nat) (T : Store) {a b : Rat} (ha : Tl a) (hb : Tl b) : prg.run (k + 1) 15 [.int (a.num * (b.den : Int)), .int ((a.den : Int) * b.num)] T = .ok (fr (a / b)) T := by
  have h := law_low_run k 10 T (a.num * (b.den : Int)) ((a.den : Int) * b.num) (Int.mul_nonneg (num_nn (Rat.le_of_lt ha.1)) (Int.le_of_lt (den_pos b))) (Int.mul_pos (den_pos a) (num_pos hb.1)) (abs_mul_lt ha.2.den hb.2.1) (by decide)
  rw [div_eq hb.1] at h
  exact h
theorem md1 {a b : Rat} (ha : Tl a) (hb : Tl b) : mulOk a.num (b.den : Int) = true := mulOk_sz ha.2.1 hb.2.den (by decide)
theorem md2 {a b : Rat} (ha : Tl a) (hb : Tl b) : mulOk (a.den : Int) b.num = true := mulOk_sz ha.2.den hb.2.1 (by decide)
theorem Tl_div {a b : Rat} (ha : Tl a) (hb : Tl b) : Tb (a / b) := by
  have p := num_pos ha.1
  have q := num_pos hb.1
  have s : Sz 10 (a / b) := by
    rw [← div_eq hb.1]
    exact Sz.of (Int.mul_pos (den_pos a) q) (abs_mul_lt ha.2.1 hb.2.den) (abs_mul_lt ha.2.den hb.2.1)
  have pos : 0 < a / b := by
    rw [Rat.div_def]
    exact Rat.mul_pos ha.1 (Rat.inv_pos.2 hb.1)
  refine ⟨pos, s.mono (by decide), isFrac_fr pos ?_ ?_⟩
  · have := s.1; omega
  · have := s.2; omega
/-- the table of these -/
def dueL : List Rat → List Rat
  | [a, b] => [a / b]
  | [a, b, c] => [a / b, a / c, b / c]
  | [a, b, c, d] => [a / b, a / c, a / d, b / c, b / d, c / d]
  | _ => []
theorem ts_len {ts : List Rat} {m : Int} (hm : Pl m) (hl : (ts.length : Int) = m) : (m = 2 ∧ ∃ a b, ts = [a, b]) ∨ (m = 3 ∧ ∃ a b c, ts = [a, b, c]) ∨ (m = 4 ∧ ∃ a b c d, ts = [a, b, c, d]) := by
  rcases hm with rfl | rfl | rfl
  · match ts, (show ts.length = 2 by omega) with
    | [a, b], _ => exact .inl ⟨rfl, a, b, rfl⟩
  · match ts, (show ts.length = 3 by omega) with
    | [a, b, c], _ => exact .inr (.inl ⟨rfl, a, b, c, rfl⟩)
  · match ts, (show ts.length = 4 by omega) with
    | [a, b, c, d], _ => exact .inr (.inr ⟨rfl, a, b, c, d, rfl⟩)
theorem dueL_ok {ts : List Rat} {m : Int} (hm : Pl m) (hl : (ts.length : Int) = m) (ht : ∀ x ∈ ts, Tl x) : (dueL ts).length = (prD m).length ∧ ∀ x ∈ dueL ts, Tb x := by
  rcases ts_len hm hl with ⟨rfl, a, b, rfl⟩ | ⟨rfl, a, b, c, rfl⟩ | ⟨rfl, a, b, c, d, rfl⟩
  · refine ⟨rfl, fun x hx => ?_⟩
    simp only [dueL, List.mem_cons, List.not_mem_nil, or_false] at hx
    subst hx
    exact Tl_div (ht a (by simp)) (ht b (by simp))
  · refine ⟨rfl, fun x hx => ?_⟩
    simp only [dueL, List.mem_cons, List.not_mem_nil, or_false] at hx
    rcases hx with rfl | rfl | rfl <;> exact Tl_div (ht _ (by simp)) (ht _ (by simp))
  · refine ⟨rfl, fun x hx => ?_⟩
    simp only [dueL, List.mem_cons, List.not_mem_nil, or_false] at hx
    rcases hx with rfl | rfl | rfl | rfl | rfl | rfl <;> exact Tl_div (ht _ (by simp)) (ht _ (by simp))
theorem table_run (k : Nat) (S : Store) (m : Int) (hm : Pl m) (ts : List Rat) (hl : (ts.length : Int) = m) (ht : ∀ x ∈ ts, Tl x) : prg.run (k + 3) 12 [.tup (ts.map fr)] S = .ok (.tup ((dueL ts).map fr)) S := by
  have fi : ∀ (S : Store) (y : Rat), view S (fr y) = .tup [.int y.num, .int (y.den : Int)] := fun S y => rfl
  rw [run_succ (k + 2) 12 _ rfl, fn_run _ rfl]
  rcases ts_len hm hl with ⟨rfl, a, b, rfl⟩ | ⟨rfl, a, b, c, rfl⟩ | ⟨rfl, a, b, c, d, rfl⟩
  · have ap := fun T => all_pairs_run (k + 1) T 2 hm
    have ha : Tl a := ht a (by simp)
    have hb : Tl b := ht b (by simp)
    simp only [B_table_of, s_cons, s_nil, s_ret', s_ite', s_asg', s_par', s_asgc', s_expr', s_raise', s_loop', s_for', s_app', g_tv', g_tt', gs_nil', gs_cons', g_ts', i_one', i_rng1', i_rng2', i_rng3', i_enum', enumI_lst, enumI_tup, i_zip', e_var, e_int, e_str, e_bl, e_non, e_bin, e_neg, e_not, e_cmp, e_chain, e_and, e_or, e_one, e_ife, e_tup, e_lst, e_ix, e_call, e_prim, e_isi, e_comp, e_sl, e_rev, e_upper, e_rep, e_dnew, e_dz, e_dix, e_din, e_lrng1, e_lrng2, e_word, w_ok, s_dset', GL_call, GL_glob, GL_fuel, GL_nf, optE_nil, optE_int, optE_neg, optE_var, optE_bin, a_nil', a_cons', end_nx, end_rt, fl_nx, fl_rt, trunc_same, tst_bl, getV0, getVs, R.bind_ok, R.bind_exc, R.bind_bad, R.ofO_some, R.ofO_none, view_int, view_bl, view_str, view_non, view_tup, view_lst, view_scr, isTy, b_add, b_addT, b_addL, b_sub, b_mul, b_mulT, b_fdiv, b_mod, b_addB, b_subB, b_mulB, pow12, pow18, pow31, pow6, c_eq3, c_lt, c_le, c_gt, c_ge, c_isN, c_notN, c_isB, c_notB, c_eqI, c_neI, t_bl, t_int, t_non, t_tup, t_lst, p_len_t, p_len_l, p_abs, p_int, p_all, p_any, p_tupL, p_tupT, p_lstT, p_lstL, p_max2, p_min2, x_tup, x_lst, n_int, it_tup, it_lst, sl_tup, sl_lst, at0, at1, at2, sl1, sl2, zipI, mkC_ok, mkL_f, w_nil, w_cons, bs_nil, bs_cons, List.all_cons, List.all_nil, id_eq, Bool.and_true, Bool.and_self, Bool.false_and, Bool.and_false, Bool.or_false, Bool.false_or, Bool.true_and, Bool.or_true, Bool.true_or, List.zipWith_cons_cons, List.zipWith_nil_right, List.zipWith_nil_left, decide_true, decide_false, l0, l1, l2, l3, if_true, List.reverse_cons, List.reverse_nil, nn_non, nn_int, nn_bl, nn_str, nn_tup, nn_lst, tlen, ite_and, ite_and', ite_or, Option.map_some, List.map_cons, List.map_nil, List.length_cons, List.length_nil, List.cons_append, List.nil_append, List.replicate, List.set_cons_zero, List.set_cons_succ, Nat.reduceSub, Nat.reduceAdd, Nat.reduceLeDiff, Nat.zero_le, Bool.not_true, Bool.not_false, ↓reduceIte, Bool.false_eq_true, compL, cnd_eq, Tl_is, ha, hb, ap, pr2, forL, a2_0, a2_1, fi, md1, md2, lowD, dueL, show ((0 + 1 + 1 : Nat) : Int) = 2 by decide, show (2 : Int) ≤ 2 by decide, show (2 : Int) ≤ 4 by decide]
  · have ap := fun T => all_pairs_run (k + 1) T 3 hm
    have ha : Tl a := ht a (by simp)
    have hb : Tl b := ht b (by simp)
    have hc : Tl c := ht c (by simp)
    simp only [B_table_of, s_cons, s_nil, s_ret', s_ite', s_asg', s_par', s_asgc', s_expr', s_raise', s_loop', s_for', s_app', g_tv', g_tt', gs_nil', gs_cons', g_ts', i_one', i_rng1', i_rng2', i_rng3', i_enum', enumI_lst, enumI_tup, i_zip', e_var, e_int, e_str, e_bl, e_non, e_bin, e_neg, e_not, e_cmp, e_chain, e_and, e_or, e_one, e_ife, e_tup, e_lst, e_ix, e_call, e_prim, e_isi, e_comp, e_sl, e_rev, e_upper, e_rep, e_dnew, e_dz, e_dix, e_din, e_lrng1, e_lrng2, e_word, w_ok, s_dset', GL_call, GL_glob, GL_fuel, GL_nf, optE_nil, optE_int, optE_neg, optE_var, optE_bin, a_nil', a_cons', end_nx, end_rt, fl_nx, fl_rt, trunc_same, tst_bl, getV0, getVs, R.bind_ok, R.bind_exc, R.bind_bad, R.ofO_some, R.ofO_none, view_int, view_bl, view_str, view_non, view_tup, view_lst, view_scr, isTy, b_add, b_addT, b_addL, b_sub, b_mul, b_mulT, b_fdiv, b_mod, b_addB, b_subB, b_mulB, pow12, pow18, pow31, pow6, c_eq3, c_lt, c_le, c_gt, c_ge, c_isN, c_notN, c_isB, c_notB, c_eqI, c_neI, t_bl, t_int, t_non, t_tup, t_lst, p_len_t, p_len_l, p_abs, p_int, p_all, p_any, p_tupL, p_tupT, p_lstT, p_lstL, p_max2, p_min2, x_tup, x_lst, n_int, it_tup, it_lst, sl_tup, sl_lst, at0, at1, at2, sl1, sl2, zipI, mkC_ok, mkL_f, w_nil, w_cons, bs_nil, bs_cons, List.all_cons, List.all_nil, id_eq, Bool.and_true, Bool.and_self, Bool.false_and, Bool.and_false, Bool.or_false, Bool.false_or, Bool.true_and, Bool.or_true, Bool.true_or, List.zipWith_cons_cons, List.zipWith_nil_right, List.zipWith_nil_left, decide_true, decide_false, l0, l1, l2, l3, if_true, List.reverse_cons, List.reverse_nil, nn_non, nn_int, nn_bl, nn_str, nn_tup, nn_lst, tlen, ite_and, ite_and', ite_or, Option.map_some, List.map_cons, List.map_nil, List.length_cons, List.length_nil, List.cons_append, List.nil_append, List.replicate, List.set_cons_zero, List.set_cons_succ, Nat.reduceSub, Nat.reduceAdd, Nat.reduceLeDiff, Nat.zero_le, Bool.not_true, Bool.not_false, ↓reduceIte, Bool.false_eq_true, compL, cnd_eq, Tl_is, ha, hb, hc, ap, pr3, forL, a3_0, a3_1, a3_2, fi, md1, md2, lowD, dueL, show ((0 + 1 + 1 + 1 : Nat) : Int) = 3 by decide, show (2 : Int) ≤ 3 by decide, show (3 : Int) ≤ 4 by decide]
  · have ap := fun T => all_pairs_run (k + 1) T 4 hm
    have ha : Tl a := ht a (by simp)
    have hb : Tl b := ht b (by simp)
    have hc : Tl c := ht c (by simp)
    have hd : Tl d := ht d (by simp)
    simp only [B_table_of, s_cons, s_nil, s_ret', s_ite', s_asg', s_par', s_asgc', s_expr', s_raise', s_loop', s_for', s_app', g_tv', g_tt', gs_nil', gs_cons', g_ts', i_one', i_rng1', i_rng2', i_rng3', i_enum', enumI_lst, enumI_tup, i_zip', e_var, e_int, e_str, e_bl, e_non, e_bin, e_neg, e_not, e_cmp, e_chain, e_and, e_or, e_one, e_ife, e_tup, e_lst, e_ix, e_call, e_prim, e_isi, e_comp, e_sl, e_rev, e_upper, e_rep, e_dnew, e_dz, e_dix, e_din, e_lrng1, e_lrng2, e_word, w_ok, s_dset', GL_call, GL_glob, GL_fuel, GL_nf, optE_nil, optE_int, optE_neg, optE_var, optE_bin, a_nil', a_cons', end_nx, end_rt, fl_nx, fl_rt, trunc_same, tst_bl, getV0, getVs, R.bind_ok, R.bind_exc, R.bind_bad, R.ofO_some, R.ofO_none, view_int, view_bl, view_str, view_non, view_tup, view_lst, view_scr, isTy, b_add, b_addT, b_addL, b_sub, b_mul, b_mulT, b_fdiv, b_mod, b_addB, b_subB, b_mulB, pow12, pow18, pow31, pow6, c_eq3, c_lt, c_le, c_gt, c_ge, c_isN, c_notN, c_isB, c_notB, c_eqI, c_neI, t_bl, t_int, t_non, t_tup, t_lst, p_len_t, p_len_l, p_abs, p_int, p_all, p_any, p_tupL, p_tupT, p_lstT, p_lstL, p_max2, p_min2, x_tup, x_lst, n_int, it_tup, it_lst, sl_tup, sl_lst, at0, at1, at2, sl1, sl2, zipI, mkC_ok, mkL_f, w_nil, w_cons, bs_nil, bs_cons, List.all_cons, List.all_nil, id_eq, Bool.and_true, Bool.and_self, Bool.false_and, Bool.and_false, Bool.or_false, Bool.false_or, Bool.true_and, Bool.or_true, Bool.true_or, List.zipWith_cons_cons, List.zipWith_nil_right, List.zipWith_nil_left, decide_true, decide_false, l0, l1, l2, l3, if_true, List.reverse_cons, List.reverse_nil, nn_non, nn_int, nn_bl, nn_str, nn_tup, nn_lst, tlen, ite_and, ite_and', ite_or, Option.map_some, List.map_cons, List.map_nil, List.length_cons, List.length_nil, List.cons_append, List.nil_append, List.replicate, List.set_cons_zero, List.set_cons_succ, Nat.reduceSub, Nat.reduceAdd, Nat.reduceLeDiff, Nat.zero_le, Bool.not_true, Bool.not_false, ↓reduceIte, Bool.false_eq_true, compL, cnd_eq, Tl_is, ha, hb, hc, hd, ap, pr4, forL, a4_0, a4_1, a4_2, a4_3, fi, md1, md2, lowD, dueL, show ((0 + 1 + 1 + 1 + 1 : Nat) : Int) = 4 by decide, show (2 : Int) ≤ 4 by decide, show (4 : Int) ≤ 4 by decide]
end K10
end
section
set_option Elab.async false
set_option linter.all false
set_option maxRecDepth 100000
set_option maxHeartbeats 4000000
set_option exponentiation.threshold 100000
namespace K10
open Ev
open PySem (Str)
theorem due_comp (k : Nat) (S : Store) (m : Int) (hm : Pl m) (ts : List Rat) (hl : (ts.length : Int) = m) (ht : ∀ x ∈ ts, Tl x) (o0 o1 o2 o3 o4 o6 o7 o10 o11 o12 o13 o14 o15 : Option Ev.D) :
    compL (evG (GL (k + 2)) (.tt (.cons (.tv 8) (.cons (.tv 9) .nil)))) (cnd (GL (k + 2)) (.bl true)) (evE (GL (k + 2)) (.call 19 (.cons (.var 5) (.cons (.var 8) (.cons (.var 9) .nil))))) [o0, o1, o2, o3, o4, some (.tup (ts.map fr)), o6, o7, none, none, o10, o11, o12, o13, o14, o15] (prD m) [] S = .ok ((dueL ts).map fr) S := by
  have fi : ∀ (S : Store) (y : Rat), view S (fr y) = .tup [.int y.num, .int (y.den : Int)] := fun S y => rfl
  have ag : ∀ (T : Store) (ds : List Ev.D) (i j : Int) (a b : Rat), L2.atI ds i = some (fr a) → L2.atI ds j = some (fr b) → Tl a → Tl b → prg.run (k + 2) 19 [.tup ds, .int i, .int j] T = .ok (fr (a / b)) T := by
    intro T ds i j a b h1 h2 ha hb
    rw [run_succ (k + 1) 19 _ rfl, fn_run _ rfl]
    simp only [B__law_against, s_cons, s_nil, s_ret', s_ite', s_asg', s_par', s_asgc', s_expr', s_raise', s_loop', s_for', s_app', g_tv', g_tt', gs_nil', gs_cons', g_ts', i_one', i_rng1', i_rng2', i_rng3', i_enum', enumI_lst, enumI_tup, i_zip', e_var, e_int, e_str, e_bl, e_non, e_bin, e_neg, e_not, e_cmp, e_chain, e_and, e_or, e_one, e_ife, e_tup, e_lst, e_ix, e_call, e_prim, e_isi, e_comp, e_sl, e_rev, e_upper, e_rep, e_dnew, e_dz, e_dix, e_din, e_lrng1, e_lrng2, e_word, w_ok, s_dset', GL_call, GL_glob, GL_fuel, GL_nf, optE_nil, optE_int, optE_neg, optE_var, optE_bin, a_nil', a_cons', end_nx, end_rt, fl_nx, fl_rt, trunc_same, tst_bl, getV0, getVs, R.bind_ok, R.bind_exc, R.bind_bad, R.ofO_some, R.ofO_none, view_int, view_bl, view_str, view_non, view_tup, view_lst, view_scr, isTy, b_add, b_addT, b_addL, b_sub, b_mul, b_mulT, b_fdiv, b_mod, b_addB, b_subB, b_mulB, pow12, pow18, pow31, pow6, c_eq3, c_lt, c_le, c_gt, c_ge, c_isN, c_notN, c_isB, c_notB, c_eqI, c_neI, t_bl, t_int, t_non, t_tup, t_lst, p_len_t, p_len_l, p_abs, p_int, p_all, p_any, p_tupL, p_tupT, p_lstT, p_lstL, p_max2, p_min2, x_tup, x_lst, n_int, it_tup, it_lst, sl_tup, sl_lst, at0, at1, at2, sl1, sl2, zipI, mkC_ok, mkL_f, w_nil, w_cons, bs_nil, bs_cons, List.all_cons, List.all_nil, id_eq, Bool.and_true, Bool.and_self, Bool.false_and, Bool.and_false, Bool.or_false, Bool.false_or, Bool.true_and, Bool.or_true, Bool.true_or, List.zipWith_cons_cons, List.zipWith_nil_right, List.zipWith_nil_left, decide_true, decide_false, l0, l1, l2, l3, if_true, List.reverse_cons, List.reverse_nil, nn_non, nn_int, nn_bl, nn_str, nn_tup, nn_lst, tlen, ite_and, ite_and', ite_or, Option.map_some, List.map_cons, List.map_nil, List.length_cons, List.length_nil, List.cons_append, List.nil_append, List.replicate, List.set_cons_zero, List.set_cons_succ, Nat.reduceSub, Nat.reduceAdd, Nat.reduceLeDiff, Nat.zero_le, Bool.not_true, Bool.not_false, ↓reduceIte, Bool.false_eq_true, h1, h2, fi, md1 ha hb, md2 ha hb, lawD k T ha hb]
  rcases ts_len hm hl with ⟨rfl, a, b, rfl⟩ | ⟨rfl, a, b, c, rfl⟩ | ⟨rfl, a, b, c, d, rfl⟩
  · have ha : Tl a := ht a (by simp)
    have hb : Tl b := ht b (by simp)
    have g1 := fun T => ag T [fr a, fr b] 0 1 a b rfl rfl ha hb
    simp only [s_cons, s_nil, s_ret', s_ite', s_asg', s_par', s_asgc', s_expr', s_raise', s_loop', s_for', s_app', g_tv', g_tt', gs_nil', gs_cons', g_ts', i_one', i_rng1', i_rng2', i_rng3', i_enum', enumI_lst, enumI_tup, i_zip', e_var, e_int, e_str, e_bl, e_non, e_bin, e_neg, e_not, e_cmp, e_chain, e_and, e_or, e_one, e_ife, e_tup, e_lst, e_ix, e_call, e_prim, e_isi, e_comp, e_sl, e_rev, e_upper, e_rep, e_dnew, e_dz, e_dix, e_din, e_lrng1, e_lrng2, e_word, w_ok, s_dset', GL_call, GL_glob, GL_fuel, GL_nf, optE_nil, optE_int, optE_neg, optE_var, optE_bin, a_nil', a_cons', end_nx, end_rt, fl_nx, fl_rt, trunc_same, tst_bl, getV0, getVs, R.bind_ok, R.bind_exc, R.bind_bad, R.ofO_some, R.ofO_none, view_int, view_bl, view_str, view_non, view_tup, view_lst, view_scr, isTy, b_add, b_addT, b_addL, b_sub, b_mul, b_mulT, b_fdiv, b_mod, b_addB, b_subB, b_mulB, pow12, pow18, pow31, pow6, c_eq3, c_lt, c_le, c_gt, c_ge, c_isN, c_notN, c_isB, c_notB, c_eqI, c_neI, t_bl, t_int, t_non, t_tup, t_lst, p_len_t, p_len_l, p_abs, p_int, p_all, p_any, p_tupL, p_tupT, p_lstT, p_lstL, p_max2, p_min2, x_tup, x_lst, n_int, it_tup, it_lst, sl_tup, sl_lst, at0, at1, at2, sl1, sl2, zipI, mkC_ok, mkL_f, w_nil, w_cons, bs_nil, bs_cons, List.all_cons, List.all_nil, id_eq, Bool.and_true, Bool.and_self, Bool.false_and, Bool.and_false, Bool.or_false, Bool.false_or, Bool.true_and, Bool.or_true, Bool.true_or, List.zipWith_cons_cons, List.zipWith_nil_right, List.zipWith_nil_left, decide_true, decide_false, l0, l1, l2, l3, if_true, List.reverse_cons, List.reverse_nil, nn_non, nn_int, nn_bl, nn_str, nn_tup, nn_lst, tlen, ite_and, ite_and', ite_or, Option.map_some, List.map_cons, List.map_nil, List.length_cons, List.length_nil, List.cons_append, List.nil_append, List.replicate, List.set_cons_zero, List.set_cons_succ, Nat.reduceSub, Nat.reduceAdd, Nat.reduceLeDiff, Nat.zero_le, Bool.not_true, Bool.not_false, ↓reduceIte, Bool.false_eq_true, compL, cnd_eq, pr2, g1, dueL]
  · have ha : Tl a := ht a (by simp)
    have hb : Tl b := ht b (by simp)
    have hc : Tl c := ht c (by simp)
    have g1 := fun T => ag T [fr a, fr b, fr c] 0 1 a b rfl rfl ha hb
    have g2 := fun T => ag T [fr a, fr b, fr c] 0 2 a c rfl rfl ha hc
    have g3 := fun T => ag T [fr a, fr b, fr c] 1 2 b c rfl rfl hb hc
    simp only [s_cons, s_nil, s_ret', s_ite', s_asg', s_par', s_asgc', s_expr', s_raise', s_loop', s_for', s_app', g_tv', g_tt', gs_nil', gs_cons', g_ts', i_one', i_rng1', i_rng2', i_rng3', i_enum', enumI_lst, enumI_tup, i_zip', e_var, e_int, e_str, e_bl, e_non, e_bin, e_neg, e_not, e_cmp, e_chain, e_and, e_or, e_one, e_ife, e_tup, e_lst, e_ix, e_call, e_prim, e_isi, e_comp, e_sl, e_rev, e_upper, e_rep, e_dnew, e_dz, e_dix, e_din, e_lrng1, e_lrng2, e_word, w_ok, s_dset', GL_call, GL_glob, GL_fuel, GL_nf, optE_nil, optE_int, optE_neg, optE_var, optE_bin, a_nil', a_cons', end_nx, end_rt, fl_nx, fl_rt, trunc_same, tst_bl, getV0, getVs, R.bind_ok, R.bind_exc, R.bind_bad, R.ofO_some, R.ofO_none, view_int, view_bl, view_str, view_non, view_tup, view_lst, view_scr, isTy, b_add, b_addT, b_addL, b_sub, b_mul, b_mulT, b_fdiv, b_mod, b_addB, b_subB, b_mulB, pow12, pow18, pow31, pow6, c_eq3, c_lt, c_le, c_gt, c_ge, c_isN, c_notN, c_isB, c_notB, c_eqI, c_neI, t_bl, t_int, t_non, t_tup, t_lst, p_len_t, p_len_l, p_abs, p_int, p_all, p_any, p_tupL, p_tupT, p_lstT, p_lstL, p_max2, p_min2, x_tup, x_lst, n_int, it_tup, it_lst, sl_tup, sl_lst, at0, at1, at2, sl1, sl2, zipI, mkC_ok, mkL_f, w_nil, w_cons, bs_nil, bs_cons, List.all_cons, List.all_nil, id_eq, Bool.and_true, Bool.and_self, Bool.false_and, Bool.and_false, Bool.or_false, Bool.false_or, Bool.true_and, Bool.or_true, Bool.true_or, List.zipWith_cons_cons, List.zipWith_nil_right, List.zipWith_nil_left, decide_true, decide_false, l0, l1, l2, l3, if_true, List.reverse_cons, List.reverse_nil, nn_non, nn_int, nn_bl, nn_str, nn_tup, nn_lst, tlen, ite_and, ite_and', ite_or, Option.map_some, List.map_cons, List.map_nil, List.length_cons, List.length_nil, List.cons_append, List.nil_append, List.replicate, List.set_cons_zero, List.set_cons_succ, Nat.reduceSub, Nat.reduceAdd, Nat.reduceLeDiff, Nat.zero_le, Bool.not_true, Bool.not_false, ↓reduceIte, Bool.false_eq_true, compL, cnd_eq, pr3, g1, g2, g3, dueL]
  · have ha : Tl a := ht a (by simp)
    have hb : Tl b := ht b (by simp)
    have hc : Tl c := ht c (by simp)
    have hd : Tl d := ht d (by simp)
    have g1 := fun T => ag T [fr a, fr b, fr c, fr d] 0 1 a b rfl rfl ha hb
    have g2 := fun T => ag T [fr a, fr b, fr c, fr d] 0 2 a c rfl rfl ha hc
    have g3 := fun T => ag T [fr a, fr b, fr c, fr d] 0 3 a d rfl rfl ha hd
    have g4 := fun T => ag T [fr a, fr b, fr c, fr d] 1 2 b c rfl rfl hb hc
    have g5 := fun T => ag T [fr a, fr b, fr c, fr d] 1 3 b d rfl rfl hb hd
    have g6 := fun T => ag T [fr a, fr b, fr c, fr d] 2 3 c d rfl rfl hc hd
    simp only [s_cons, s_nil, s_ret', s_ite', s_asg', s_par', s_asgc', s_expr', s_raise', s_loop', s_for', s_app', g_tv', g_tt', gs_nil', gs_cons', g_ts', i_one', i_rng1', i_rng2', i_rng3', i_enum', enumI_lst, enumI_tup, i_zip', e_var, e_int, e_str, e_bl, e_non, e_bin, e_neg, e_not, e_cmp, e_chain, e_and, e_or, e_one, e_ife, e_tup, e_lst, e_ix, e_call, e_prim, e_isi, e_comp, e_sl, e_rev, e_upper, e_rep, e_dnew, e_dz, e_dix, e_din, e_lrng1, e_lrng2, e_word, w_ok, s_dset', GL_call, GL_glob, GL_fuel, GL_nf, optE_nil, optE_int, optE_neg, optE_var, optE_bin, a_nil', a_cons', end_nx, end_rt, fl_nx, fl_rt, trunc_same, tst_bl, getV0, getVs, R.bind_ok, R.bind_exc, R.bind_bad, R.ofO_some, R.ofO_none, view_int, view_bl, view_str, view_non, view_tup, view_lst, view_scr, isTy, b_add, b_addT, b_addL, b_sub, b_mul, b_mulT, b_fdiv, b_mod, b_addB, b_subB, b_mulB, pow12, pow18, pow31, pow6, c_eq3, c_lt, c_le, c_gt, c_ge, c_isN, c_notN, c_isB, c_notB, c_eqI, c_neI, t_bl, t_int, t_non, t_tup, t_lst, p_len_t, p_len_l, p_abs, p_int, p_all, p_any, p_tupL, p_tupT, p_lstT, p_lstL, p_max2, p_min2, x_tup, x_lst, n_int, it_tup, it_lst, sl_tup, sl_lst, at0, at1, at2, sl1, sl2, zipI, mkC_ok, mkL_f, w_nil, w_cons, bs_nil, bs_cons, List.all_cons, List.all_nil, id_eq, Bool.and_true, Bool.and_self, Bool.false_and, Bool.and_false, Bool.or_false, Bool.false_or, Bool.true_and, Bool.or_true, Bool.true_or, List.zipWith_cons_cons, List.zipWith_nil_right, List.zipWith_nil_left, decide_true, decide_false, l0, l1, l2, l3, if_true, List.reverse_cons, List.reverse_nil, nn_non, nn_int, nn_bl, nn_str, nn_tup, nn_lst, tlen, ite_and, ite_and', ite_or, Option.map_some, List.map_cons, List.map_nil, List.length_cons, List.length_nil, List.cons_append, List.nil_append, List.replicate, List.set_cons_zero, List.set_cons_succ, Nat.reduceSub, Nat.reduceAdd, Nat.reduceLeDiff, Nat.zero_le, Bool.not_true, Bool.not_false, ↓reduceIte, Bool.false_eq_true, compL, cnd_eq, pr4, g1, g2, g3, g4, g5, g6, dueL, Nat.reduceLT]
theorem wx1 {S : Store} : wordE [(1, "number"), (2, "table"), (0, "strengths")] "none" (.exc 1 S) = .ok (.str "number") S := w_exc rfl
theorem wx2 {S : Store} : wordE [(1, "number"), (2, "table"), (0, "strengths")] "none" (.exc 2 S) = .ok (.str "table") S := w_exc rfl
theorem wx0 {S : Store} : wordE [(1, "number"), (2, "table"), (0, "strengths")] "none" (.exc 0 S) = .ok (.str "strengths") S := w_exc rfl
theorem cs1 {S : Store} : cmpD S .ne (.str "number") (.str "number") = some false := c_ne_same (by decide +kernel)
theorem cs2 {S : Store} : cmpD S .ne (.str "table") (.str "table") = some false := c_ne_same (by decide +kernel)
theorem cs0 {S : Store} : cmpD S .ne (.str "strengths") (.str "strengths") = some false := c_ne_same (by decide +kernel)
theorem gb0 : glob 0 = some (.fn 10) := id rfl
theorem gb1 : glob 1 = some (.fn 9) := id rfl
theorem gb2 : glob 2 = some (.fn 11) := id rfl
theorem nfl : fns.length = 23 := id rfl
theorem none_run (k n : Nat) (S : Store) (m : Int) (hm : Pl m) (v : Ev.D) (hg : gd n v = true) (ht : isTab m v = false) : prg.run (k + 6) 20 [.int m, v] S = .ok (.bl true) S := by
  have c := comes_not k n S m hm v hg ht
  have r := ring_not k n S m hm v hg ht
  have t := is_table_run k n S m hm v hg
  rw [ht] at t
  rw [run_succ (k + 5) 20 _ rfl, fn_run _ rfl]
  simp only [B__law_none, s_cons, s_nil, s_ret', s_ite', s_asg', s_par', s_asgc', s_expr', s_raise', s_loop', s_for', s_app', g_tv', g_tt', gs_nil', gs_cons', g_ts', i_one', i_rng1', i_rng2', i_rng3', i_enum', enumI_lst, enumI_tup, i_zip', e_var, e_int, e_str, e_bl, e_non, e_bin, e_neg, e_not, e_cmp, e_chain, e_and, e_or, e_one, e_ife, e_tup, e_lst, e_ix, e_call, e_prim, e_isi, e_comp, e_sl, e_rev, e_upper, e_rep, e_dnew, e_dz, e_dix, e_din, e_lrng1, e_lrng2, e_word, w_ok, s_dset', GL_call, GL_glob, GL_fuel, GL_nf, optE_nil, optE_int, optE_neg, optE_var, optE_bin, a_nil', a_cons', end_nx, end_rt, fl_nx, fl_rt, trunc_same, tst_bl, getV0, getVs, R.bind_ok, R.bind_exc, R.bind_bad, R.ofO_some, R.ofO_none, view_int, view_bl, view_str, view_non, view_tup, view_lst, view_scr, isTy, b_add, b_addT, b_addL, b_sub, b_mul, b_mulT, b_fdiv, b_mod, b_addB, b_subB, b_mulB, pow12, pow18, pow31, pow6, c_eq3, c_lt, c_le, c_gt, c_ge, c_isN, c_notN, c_isB, c_notB, c_eqI, c_neI, t_bl, t_int, t_non, t_tup, t_lst, p_len_t, p_len_l, p_abs, p_int, p_all, p_any, p_tupL, p_tupT, p_lstT, p_lstL, p_max2, p_min2, x_tup, x_lst, n_int, it_tup, it_lst, sl_tup, sl_lst, at0, at1, at2, sl1, sl2, zipI, mkC_ok, mkL_f, w_nil, w_cons, bs_nil, bs_cons, List.all_cons, List.all_nil, id_eq, Bool.and_true, Bool.and_self, Bool.false_and, Bool.and_false, Bool.or_false, Bool.false_or, Bool.true_and, Bool.or_true, Bool.true_or, List.zipWith_cons_cons, List.zipWith_nil_right, List.zipWith_nil_left, decide_true, decide_false, l0, l1, l2, l3, if_true, List.reverse_cons, List.reverse_nil, nn_non, nn_int, nn_bl, nn_str, nn_tup, nn_lst, tlen, ite_and, ite_and', ite_or, Option.map_some, List.map_cons, List.map_nil, List.length_cons, List.length_nil, List.cons_append, List.nil_append, List.replicate, List.set_cons_zero, List.set_cons_succ, Nat.reduceSub, Nat.reduceAdd, Nat.reduceLeDiff, Nat.zero_le, Bool.not_true, Bool.not_false, ↓reduceIte, Bool.false_eq_true, forL, e_callv', e_glob', callF_fn, gb0, gb2, nfl, c, r, t, wx2, cs2, Nat.reduceLT, beq_self_eq_true]
theorem table_bad (k n : Nat) (S : Store) (ds : List Ev.D) (hg : gd n (.tup ds) = true) (h : (decide ((2 : Int) ≤ (ds.length : Int)) && decide ((ds.length : Int) ≤ 4) && ds.all (fun d => isFrac d 1000)) = false) : prg.run (k + 3) 12 [.tup ds] S = .exc 0 S := by
  rw [run_succ (k + 2) 12 _ rfl, fn_run _ rfl]
  obtain ⟨hl, j, rfl, hd⟩ := gd_tup hg
  have hcomp : ∀ o, compL (evG (GL (k + 2)) (.tv 2)) (cnd (GL (k + 2)) (.bl true)) (evE (GL (k + 2)) (.call 3 (.cons (.var 2) (.cons (.int 1000) .nil)))) [some (.tup ds), o, none, none, none, none, none, none] ds [] S = .ok ([].reverse ++ ds.map fun d => .bl (isFrac d 1000)) S := by
    intro o
    refine compL_map (fun d => .bl (isFrac d 1000)) ds [] (fun d hdm => ?_) (by simp; omega)
    refine ⟨[some (.tup ds), o, some d, none, none, none, none, none], ?_, ?_, ?_⟩
    · simp only [s_cons, s_nil, s_ret', s_ite', s_asg', s_par', s_asgc', s_expr', s_raise', s_loop', s_for', s_app', g_tv', g_tt', gs_nil', gs_cons', g_ts', i_one', i_rng1', i_rng2', i_rng3', i_enum', enumI_lst, enumI_tup, i_zip', e_var, e_int, e_str, e_bl, e_non, e_bin, e_neg, e_not, e_cmp, e_chain, e_and, e_or, e_one, e_ife, e_tup, e_lst, e_ix, e_call, e_prim, e_isi, e_comp, e_sl, e_rev, e_upper, e_rep, e_dnew, e_dz, e_dix, e_din, e_lrng1, e_lrng2, e_word, w_ok, s_dset', GL_call, GL_glob, GL_fuel, GL_nf, optE_nil, optE_int, optE_neg, optE_var, optE_bin, a_nil', a_cons', end_nx, end_rt, fl_nx, fl_rt, trunc_same, tst_bl, getV0, getVs, R.bind_ok, R.bind_exc, R.bind_bad, R.ofO_some, R.ofO_none, view_int, view_bl, view_str, view_non, view_tup, view_lst, view_scr, isTy, b_add, b_addT, b_addL, b_sub, b_mul, b_mulT, b_fdiv, b_mod, b_addB, b_subB, b_mulB, pow12, pow18, pow31, pow6, c_eq3, c_lt, c_le, c_gt, c_ge, c_isN, c_notN, c_isB, c_notB, c_eqI, c_neI, t_bl, t_int, t_non, t_tup, t_lst, p_len_t, p_len_l, p_abs, p_int, p_all, p_any, p_tupL, p_tupT, p_lstT, p_lstL, p_max2, p_min2, x_tup, x_lst, n_int, it_tup, it_lst, sl_tup, sl_lst, at0, at1, at2, sl1, sl2, zipI, mkC_ok, mkL_f, w_nil, w_cons, bs_nil, bs_cons, List.all_cons, List.all_nil, id_eq, Bool.and_true, Bool.and_self, Bool.false_and, Bool.and_false, Bool.or_false, Bool.false_or, Bool.true_and, Bool.or_true, Bool.true_or, List.zipWith_cons_cons, List.zipWith_nil_right, List.zipWith_nil_left, decide_true, decide_false, l0, l1, l2, l3, if_true, List.reverse_cons, List.reverse_nil, nn_non, nn_int, nn_bl, nn_str, nn_tup, nn_lst, tlen, ite_and, ite_and', ite_or, Option.map_some, List.map_cons, List.map_nil, List.length_cons, List.length_nil, List.cons_append, List.nil_append, List.replicate, List.set_cons_zero, List.set_cons_succ, Nat.reduceSub, Nat.reduceAdd, Nat.reduceLeDiff, Nat.zero_le, Bool.not_true, Bool.not_false, ↓reduceIte, Bool.false_eq_true]
    · simp only [cnd_eq, s_cons, s_nil, s_ret', s_ite', s_asg', s_par', s_asgc', s_expr', s_raise', s_loop', s_for', s_app', g_tv', g_tt', gs_nil', gs_cons', g_ts', i_one', i_rng1', i_rng2', i_rng3', i_enum', enumI_lst, enumI_tup, i_zip', e_var, e_int, e_str, e_bl, e_non, e_bin, e_neg, e_not, e_cmp, e_chain, e_and, e_or, e_one, e_ife, e_tup, e_lst, e_ix, e_call, e_prim, e_isi, e_comp, e_sl, e_rev, e_upper, e_rep, e_dnew, e_dz, e_dix, e_din, e_lrng1, e_lrng2, e_word, w_ok, s_dset', GL_call, GL_glob, GL_fuel, GL_nf, optE_nil, optE_int, optE_neg, optE_var, optE_bin, a_nil', a_cons', end_nx, end_rt, fl_nx, fl_rt, trunc_same, tst_bl, getV0, getVs, R.bind_ok, R.bind_exc, R.bind_bad, R.ofO_some, R.ofO_none, view_int, view_bl, view_str, view_non, view_tup, view_lst, view_scr, isTy, b_add, b_addT, b_addL, b_sub, b_mul, b_mulT, b_fdiv, b_mod, b_addB, b_subB, b_mulB, pow12, pow18, pow31, pow6, c_eq3, c_lt, c_le, c_gt, c_ge, c_isN, c_notN, c_isB, c_notB, c_eqI, c_neI, t_bl, t_int, t_non, t_tup, t_lst, p_len_t, p_len_l, p_abs, p_int, p_all, p_any, p_tupL, p_tupT, p_lstT, p_lstL, p_max2, p_min2, x_tup, x_lst, n_int, it_tup, it_lst, sl_tup, sl_lst, at0, at1, at2, sl1, sl2, zipI, mkC_ok, mkL_f, w_nil, w_cons, bs_nil, bs_cons, List.all_cons, List.all_nil, id_eq, Bool.and_true, Bool.and_self, Bool.false_and, Bool.and_false, Bool.or_false, Bool.false_or, Bool.true_and, Bool.or_true, Bool.true_or, List.zipWith_cons_cons, List.zipWith_nil_right, List.zipWith_nil_left, decide_true, decide_false, l0, l1, l2, l3, if_true, List.reverse_cons, List.reverse_nil, nn_non, nn_int, nn_bl, nn_str, nn_tup, nn_lst, tlen, ite_and, ite_and', ite_or, Option.map_some, List.map_cons, List.map_nil, List.length_cons, List.length_nil, List.cons_append, List.nil_append, List.replicate, List.set_cons_zero, List.set_cons_succ, Nat.reduceSub, Nat.reduceAdd, Nat.reduceLeDiff, Nat.zero_le, Bool.not_true, Bool.not_false, ↓reduceIte, Bool.false_eq_true]
    · simp only [s_cons, s_nil, s_ret', s_ite', s_asg', s_par', s_asgc', s_expr', s_raise', s_loop', s_for', s_app', g_tv', g_tt', gs_nil', gs_cons', g_ts', i_one', i_rng1', i_rng2', i_rng3', i_enum', enumI_lst, enumI_tup, i_zip', e_var, e_int, e_str, e_bl, e_non, e_bin, e_neg, e_not, e_cmp, e_chain, e_and, e_or, e_one, e_ife, e_tup, e_lst, e_ix, e_call, e_prim, e_isi, e_comp, e_sl, e_rev, e_upper, e_rep, e_dnew, e_dz, e_dix, e_din, e_lrng1, e_lrng2, e_word, w_ok, s_dset', GL_call, GL_glob, GL_fuel, GL_nf, optE_nil, optE_int, optE_neg, optE_var, optE_bin, a_nil', a_cons', end_nx, end_rt, fl_nx, fl_rt, trunc_same, tst_bl, getV0, getVs, R.bind_ok, R.bind_exc, R.bind_bad, R.ofO_some, R.ofO_none, view_int, view_bl, view_str, view_non, view_tup, view_lst, view_scr, isTy, b_add, b_addT, b_addL, b_sub, b_mul, b_mulT, b_fdiv, b_mod, b_addB, b_subB, b_mulB, pow12, pow18, pow31, pow6, c_eq3, c_lt, c_le, c_gt, c_ge, c_isN, c_notN, c_isB, c_notB, c_eqI, c_neI, t_bl, t_int, t_non, t_tup, t_lst, p_len_t, p_len_l, p_abs, p_int, p_all, p_any, p_tupL, p_tupT, p_lstT, p_lstL, p_max2, p_min2, x_tup, x_lst, n_int, it_tup, it_lst, sl_tup, sl_lst, at0, at1, at2, sl1, sl2, zipI, mkC_ok, mkL_f, w_nil, w_cons, bs_nil, bs_cons, List.all_cons, List.all_nil, id_eq, Bool.and_true, Bool.and_self, Bool.false_and, Bool.and_false, Bool.or_false, Bool.false_or, Bool.true_and, Bool.or_true, Bool.true_or, List.zipWith_cons_cons, List.zipWith_nil_right, List.zipWith_nil_left, decide_true, decide_false, l0, l1, l2, l3, if_true, List.reverse_cons, List.reverse_nil, nn_non, nn_int, nn_bl, nn_str, nn_tup, nn_lst, tlen, ite_and, ite_and', ite_or, Option.map_some, List.map_cons, List.map_nil, List.length_cons, List.length_nil, List.cons_append, List.nil_append, List.replicate, List.set_cons_zero, List.set_cons_succ, Nat.reduceSub, Nat.reduceAdd, Nat.reduceLeDiff, Nat.zero_le, Bool.not_true, Bool.not_false, ↓reduceIte, Bool.false_eq_true, is_fraction_run k j S d 1000 (gdL_mem hd hdm) (by decide)]
  have ea : ((ds.map fun d => isFrac d 1000).all id) = ds.all (fun d => isFrac d 1000) := by simp [List.all_map]
  by_cases h1 : (2 : Int) ≤ (ds.length : Int)
  · by_cases h2 : (ds.length : Int) ≤ 4
    · have h3 : ds.all (fun d => isFrac d 1000) = false := by simpa [h1, h2] using h
      rw [h3] at ea
      simp only [B_table_of, s_cons, s_nil, s_ret', s_ite', s_asg', s_par', s_asgc', s_expr', s_raise', s_loop', s_for', s_app', g_tv', g_tt', gs_nil', gs_cons', g_ts', i_one', i_rng1', i_rng2', i_rng3', i_enum', enumI_lst, enumI_tup, i_zip', e_var, e_int, e_str, e_bl, e_non, e_bin, e_neg, e_not, e_cmp, e_chain, e_and, e_or, e_one, e_ife, e_tup, e_lst, e_ix, e_call, e_prim, e_isi, e_comp, e_sl, e_rev, e_upper, e_rep, e_dnew, e_dz, e_dix, e_din, e_lrng1, e_lrng2, e_word, w_ok, s_dset', GL_call, GL_glob, GL_fuel, GL_nf, optE_nil, optE_int, optE_neg, optE_var, optE_bin, a_nil', a_cons', end_nx, end_rt, fl_nx, fl_rt, trunc_same, tst_bl, getV0, getVs, R.bind_ok, R.bind_exc, R.bind_bad, R.ofO_some, R.ofO_none, view_int, view_bl, view_str, view_non, view_tup, view_lst, view_scr, isTy, b_add, b_addT, b_addL, b_sub, b_mul, b_mulT, b_fdiv, b_mod, b_addB, b_subB, b_mulB, pow12, pow18, pow31, pow6, c_eq3, c_lt, c_le, c_gt, c_ge, c_isN, c_notN, c_isB, c_notB, c_eqI, c_neI, t_bl, t_int, t_non, t_tup, t_lst, p_len_t, p_len_l, p_abs, p_int, p_all, p_any, p_tupL, p_tupT, p_lstT, p_lstL, p_max2, p_min2, x_tup, x_lst, n_int, it_tup, it_lst, sl_tup, sl_lst, at0, at1, at2, sl1, sl2, zipI, mkC_ok, mkL_f, w_nil, w_cons, bs_nil, bs_cons, List.all_cons, List.all_nil, id_eq, Bool.and_true, Bool.and_self, Bool.false_and, Bool.and_false, Bool.or_false, Bool.false_or, Bool.true_and, Bool.or_true, Bool.true_or, List.zipWith_cons_cons, List.zipWith_nil_right, List.zipWith_nil_left, decide_true, decide_false, l0, l1, l2, l3, if_true, List.reverse_cons, List.reverse_nil, nn_non, nn_int, nn_bl, nn_str, nn_tup, nn_lst, tlen, ite_and, ite_and', ite_or, Option.map_some, List.map_cons, List.map_nil, List.length_cons, List.length_nil, List.cons_append, List.nil_append, List.replicate, List.set_cons_zero, List.set_cons_succ, Nat.reduceSub, Nat.reduceAdd, Nat.reduceLeDiff, Nat.zero_le, Bool.not_true, Bool.not_false, ↓reduceIte, Bool.false_eq_true, h1, h2, hcomp, bools_map, ea, trunc_exc]
    · simp only [B_table_of, s_cons, s_nil, s_ret', s_ite', s_asg', s_par', s_asgc', s_expr', s_raise', s_loop', s_for', s_app', g_tv', g_tt', gs_nil', gs_cons', g_ts', i_one', i_rng1', i_rng2', i_rng3', i_enum', enumI_lst, enumI_tup, i_zip', e_var, e_int, e_str, e_bl, e_non, e_bin, e_neg, e_not, e_cmp, e_chain, e_and, e_or, e_one, e_ife, e_tup, e_lst, e_ix, e_call, e_prim, e_isi, e_comp, e_sl, e_rev, e_upper, e_rep, e_dnew, e_dz, e_dix, e_din, e_lrng1, e_lrng2, e_word, w_ok, s_dset', GL_call, GL_glob, GL_fuel, GL_nf, optE_nil, optE_int, optE_neg, optE_var, optE_bin, a_nil', a_cons', end_nx, end_rt, fl_nx, fl_rt, trunc_same, tst_bl, getV0, getVs, R.bind_ok, R.bind_exc, R.bind_bad, R.ofO_some, R.ofO_none, view_int, view_bl, view_str, view_non, view_tup, view_lst, view_scr, isTy, b_add, b_addT, b_addL, b_sub, b_mul, b_mulT, b_fdiv, b_mod, b_addB, b_subB, b_mulB, pow12, pow18, pow31, pow6, c_eq3, c_lt, c_le, c_gt, c_ge, c_isN, c_notN, c_isB, c_notB, c_eqI, c_neI, t_bl, t_int, t_non, t_tup, t_lst, p_len_t, p_len_l, p_abs, p_int, p_all, p_any, p_tupL, p_tupT, p_lstT, p_lstL, p_max2, p_min2, x_tup, x_lst, n_int, it_tup, it_lst, sl_tup, sl_lst, at0, at1, at2, sl1, sl2, zipI, mkC_ok, mkL_f, w_nil, w_cons, bs_nil, bs_cons, List.all_cons, List.all_nil, id_eq, Bool.and_true, Bool.and_self, Bool.false_and, Bool.and_false, Bool.or_false, Bool.false_or, Bool.true_and, Bool.or_true, Bool.true_or, List.zipWith_cons_cons, List.zipWith_nil_right, List.zipWith_nil_left, decide_true, decide_false, l0, l1, l2, l3, if_true, List.reverse_cons, List.reverse_nil, nn_non, nn_int, nn_bl, nn_str, nn_tup, nn_lst, tlen, ite_and, ite_and', ite_or, Option.map_some, List.map_cons, List.map_nil, List.length_cons, List.length_nil, List.cons_append, List.nil_append, List.replicate, List.set_cons_zero, List.set_cons_succ, Nat.reduceSub, Nat.reduceAdd, Nat.reduceLeDiff, Nat.zero_le, Bool.not_true, Bool.not_false, ↓reduceIte, Bool.false_eq_true, h1, h2, trunc_exc]
  · simp only [B_table_of, s_cons, s_nil, s_ret', s_ite', s_asg', s_par', s_asgc', s_expr', s_raise', s_loop', s_for', s_app', g_tv', g_tt', gs_nil', gs_cons', g_ts', i_one', i_rng1', i_rng2', i_rng3', i_enum', enumI_lst, enumI_tup, i_zip', e_var, e_int, e_str, e_bl, e_non, e_bin, e_neg, e_not, e_cmp, e_chain, e_and, e_or, e_one, e_ife, e_tup, e_lst, e_ix, e_call, e_prim, e_isi, e_comp, e_sl, e_rev, e_upper, e_rep, e_dnew, e_dz, e_dix, e_din, e_lrng1, e_lrng2, e_word, w_ok, s_dset', GL_call, GL_glob, GL_fuel, GL_nf, optE_nil, optE_int, optE_neg, optE_var, optE_bin, a_nil', a_cons', end_nx, end_rt, fl_nx, fl_rt, trunc_same, tst_bl, getV0, getVs, R.bind_ok, R.bind_exc, R.bind_bad, R.ofO_some, R.ofO_none, view_int, view_bl, view_str, view_non, view_tup, view_lst, view_scr, isTy, b_add, b_addT, b_addL, b_sub, b_mul, b_mulT, b_fdiv, b_mod, b_addB, b_subB, b_mulB, pow12, pow18, pow31, pow6, c_eq3, c_lt, c_le, c_gt, c_ge, c_isN, c_notN, c_isB, c_notB, c_eqI, c_neI, t_bl, t_int, t_non, t_tup, t_lst, p_len_t, p_len_l, p_abs, p_int, p_all, p_any, p_tupL, p_tupT, p_lstT, p_lstL, p_max2, p_min2, x_tup, x_lst, n_int, it_tup, it_lst, sl_tup, sl_lst, at0, at1, at2, sl1, sl2, zipI, mkC_ok, mkL_f, w_nil, w_cons, bs_nil, bs_cons, List.all_cons, List.all_nil, id_eq, Bool.and_true, Bool.and_self, Bool.false_and, Bool.and_false, Bool.or_false, Bool.false_or, Bool.true_and, Bool.or_true, Bool.true_or, List.zipWith_cons_cons, List.zipWith_nil_right, List.zipWith_nil_left, decide_true, decide_false, l0, l1, l2, l3, if_true, List.reverse_cons, List.reverse_nil, nn_non, nn_int, nn_bl, nn_str, nn_tup, nn_lst, tlen, ite_and, ite_and', ite_or, Option.map_some, List.map_cons, List.map_nil, List.length_cons, List.length_nil, List.cons_append, List.nil_append, List.replicate, List.set_cons_zero, List.set_cons_succ, Nat.reduceSub, Nat.reduceAdd, Nat.reduceLeDiff, Nat.zero_le, Bool.not_true, Bool.not_false, ↓reduceIte, Bool.false_eq_true, h1, trunc_exc]
theorem table_not (k : Nat) (S : Store) (v : Ev.D) (h : v = .non ∨ ∃ ds, v = .lst ds) : prg.run (k + 3) 12 [v] S = .exc 0 S := by
  rw [run_succ (k + 2) 12 _ rfl, fn_run _ rfl]
  rcases h with rfl | ⟨ds, rfl⟩
  · simp only [B_table_of, s_cons, s_nil, s_ret', s_ite', s_asg', s_par', s_asgc', s_expr', s_raise', s_loop', s_for', s_app', g_tv', g_tt', gs_nil', gs_cons', g_ts', i_one', i_rng1', i_rng2', i_rng3', i_enum', enumI_lst, enumI_tup, i_zip', e_var, e_int, e_str, e_bl, e_non, e_bin, e_neg, e_not, e_cmp, e_chain, e_and, e_or, e_one, e_ife, e_tup, e_lst, e_ix, e_call, e_prim, e_isi, e_comp, e_sl, e_rev, e_upper, e_rep, e_dnew, e_dz, e_dix, e_din, e_lrng1, e_lrng2, e_word, w_ok, s_dset', GL_call, GL_glob, GL_fuel, GL_nf, optE_nil, optE_int, optE_neg, optE_var, optE_bin, a_nil', a_cons', end_nx, end_rt, fl_nx, fl_rt, trunc_same, tst_bl, getV0, getVs, R.bind_ok, R.bind_exc, R.bind_bad, R.ofO_some, R.ofO_none, view_int, view_bl, view_str, view_non, view_tup, view_lst, view_scr, isTy, b_add, b_addT, b_addL, b_sub, b_mul, b_mulT, b_fdiv, b_mod, b_addB, b_subB, b_mulB, pow12, pow18, pow31, pow6, c_eq3, c_lt, c_le, c_gt, c_ge, c_isN, c_notN, c_isB, c_notB, c_eqI, c_neI, t_bl, t_int, t_non, t_tup, t_lst, p_len_t, p_len_l, p_abs, p_int, p_all, p_any, p_tupL, p_tupT, p_lstT, p_lstL, p_max2, p_min2, x_tup, x_lst, n_int, it_tup, it_lst, sl_tup, sl_lst, at0, at1, at2, sl1, sl2, zipI, mkC_ok, mkL_f, w_nil, w_cons, bs_nil, bs_cons, List.all_cons, List.all_nil, id_eq, Bool.and_true, Bool.and_self, Bool.false_and, Bool.and_false, Bool.or_false, Bool.false_or, Bool.true_and, Bool.or_true, Bool.true_or, List.zipWith_cons_cons, List.zipWith_nil_right, List.zipWith_nil_left, decide_true, decide_false, l0, l1, l2, l3, if_true, List.reverse_cons, List.reverse_nil, nn_non, nn_int, nn_bl, nn_str, nn_tup, nn_lst, tlen, ite_and, ite_and', ite_or, Option.map_some, List.map_cons, List.map_nil, List.length_cons, List.length_nil, List.cons_append, List.nil_append, List.replicate, List.set_cons_zero, List.set_cons_succ, Nat.reduceSub, Nat.reduceAdd, Nat.reduceLeDiff, Nat.zero_le, Bool.not_true, Bool.not_false, ↓reduceIte, Bool.false_eq_true, trunc_exc]
  · simp only [B_table_of, s_cons, s_nil, s_ret', s_ite', s_asg', s_par', s_asgc', s_expr', s_raise', s_loop', s_for', s_app', g_tv', g_tt', gs_nil', gs_cons', g_ts', i_one', i_rng1', i_rng2', i_rng3', i_enum', enumI_lst, enumI_tup, i_zip', e_var, e_int, e_str, e_bl, e_non, e_bin, e_neg, e_not, e_cmp, e_chain, e_and, e_or, e_one, e_ife, e_tup, e_lst, e_ix, e_call, e_prim, e_isi, e_comp, e_sl, e_rev, e_upper, e_rep, e_dnew, e_dz, e_dix, e_din, e_lrng1, e_lrng2, e_word, w_ok, s_dset', GL_call, GL_glob, GL_fuel, GL_nf, optE_nil, optE_int, optE_neg, optE_var, optE_bin, a_nil', a_cons', end_nx, end_rt, fl_nx, fl_rt, trunc_same, tst_bl, getV0, getVs, R.bind_ok, R.bind_exc, R.bind_bad, R.ofO_some, R.ofO_none, view_int, view_bl, view_str, view_non, view_tup, view_lst, view_scr, isTy, b_add, b_addT, b_addL, b_sub, b_mul, b_mulT, b_fdiv, b_mod, b_addB, b_subB, b_mulB, pow12, pow18, pow31, pow6, c_eq3, c_lt, c_le, c_gt, c_ge, c_isN, c_notN, c_isB, c_notB, c_eqI, c_neI, t_bl, t_int, t_non, t_tup, t_lst, p_len_t, p_len_l, p_abs, p_int, p_all, p_any, p_tupL, p_tupT, p_lstT, p_lstL, p_max2, p_min2, x_tup, x_lst, n_int, it_tup, it_lst, sl_tup, sl_lst, at0, at1, at2, sl1, sl2, zipI, mkC_ok, mkL_f, w_nil, w_cons, bs_nil, bs_cons, List.all_cons, List.all_nil, id_eq, Bool.and_true, Bool.and_self, Bool.false_and, Bool.and_false, Bool.or_false, Bool.false_or, Bool.true_and, Bool.or_true, Bool.true_or, List.zipWith_cons_cons, List.zipWith_nil_right, List.zipWith_nil_left, decide_true, decide_false, l0, l1, l2, l3, if_true, List.reverse_cons, List.reverse_nil, nn_non, nn_int, nn_bl, nn_str, nn_tup, nn_lst, tlen, ite_and, ite_and', ite_or, Option.map_some, List.map_cons, List.map_nil, List.length_cons, List.length_nil, List.cons_append, List.nil_append, List.replicate, List.set_cons_zero, List.set_cons_succ, Nat.reduceSub, Nat.reduceAdd, Nat.reduceLeDiff, Nat.zero_le, Bool.not_true, Bool.not_false, ↓reduceIte, Bool.false_eq_true, trunc_exc]
theorem mu5 {x : Ev.D} : binD .mul (.tup [x]) (.int 5) = some (.tup [x, x, x, x, x]) := id rfl
theorem refused_run (k : Nat) (S : Store) : prg.run (k + 6) 21 [] S = .ok (.bl true) S := by
  rw [run_succ (k + 5) 21 _ rfl, fn_run _ rfl]
  have b1 : ∀ v, isDat v = true → isFrom v 2 4 = false → ∀ S, prg.run (k + 5) 10 [v, .non] S = .exc 1 S := fun v h1 h2 S => comes_bad k S v .non h1 h2
  have b2 : ∀ v, isDat v = true → isFrom v 2 4 = false → ∀ S, prg.run (k + 5) 11 [v, .non] S = .exc 1 S := fun v h1 h2 S => ring_bad k S v .non h1 h2
  have b3 : ∀ v, isDat v = true → isFrom v 2 4 = false → ∀ S, prg.run (k + 5) 9 [v, .non] S = .exc 1 S := fun v h1 h2 S => is_table_bad k S v .non h1 h2
  have p1 := b1 .non rfl rfl
  have p2 := b1 (.int 1) rfl rfl
  have p3 := b1 (.int 5) rfl rfl
  have p4 := b1 (.bl true) rfl rfl
  have p5 := b1 (.str "3") rfl rfl
  have q1 := b2 .non rfl rfl
  have q2 := b2 (.int 1) rfl rfl
  have q3 := b2 (.int 5) rfl rfl
  have q4 := b2 (.bl true) rfl rfl
  have q5 := b2 (.str "3") rfl rfl
  have r1 := b3 .non rfl rfl
  have r2 := b3 (.int 1) rfl rfl
  have r3 := b3 (.int 5) rfl rfl
  have r4 := b3 (.bl true) rfl rfl
  have r5 := b3 (.str "3") rfl rfl
  have t1 := table_not (k + 2) S .non (.inl rfl)
  have t2 := table_bad (k + 2) 3 S [] rfl (by decide +kernel)
  have t3 := table_bad (k + 2) 3 S [.tup [.int 1, .int 1]] rfl (by decide +kernel)
  have t4 := table_bad (k + 2) 3 S [.tup [.int 1, .int 1], .tup [.int 1, .int 1], .tup [.int 1, .int 1], .tup [.int 1, .int 1], .tup [.int 1, .int 1]] rfl (by decide +kernel)
  have t5 := table_not (k + 2) S (.lst [.tup [.int 1, .int 1], .tup [.int 1, .int 1]]) (.inr ⟨_, rfl⟩)
  have t6 := table_bad (k + 2) 3 S [.tup [.int 1, .int 1], .tup [.int 2, .int 2]] rfl (by decide +kernel)
  have t7 := table_bad (k + 2) 3 S [.tup [.int 1001, .int 1], .tup [.int 1, .int 1]] rfl (by decide +kernel)
  simp (config := { maxSteps := 1000000 }) only [B__law_refused, s_cons, s_nil, s_ret', s_ite', s_asg', s_par', s_asgc', s_expr', s_raise', s_loop', s_for', s_app', g_tv', g_tt', gs_nil', gs_cons', g_ts', i_one', i_rng1', i_rng2', i_rng3', i_enum', enumI_lst, enumI_tup, i_zip', e_var, e_int, e_str, e_bl, e_non, e_bin, e_neg, e_not, e_cmp, e_chain, e_and, e_or, e_one, e_ife, e_tup, e_lst, e_ix, e_call, e_prim, e_isi, e_comp, e_sl, e_rev, e_upper, e_rep, e_dnew, e_dz, e_dix, e_din, e_lrng1, e_lrng2, e_word, w_ok, s_dset', GL_call, GL_glob, GL_fuel, GL_nf, optE_nil, optE_int, optE_neg, optE_var, optE_bin, a_nil', a_cons', end_nx, end_rt, fl_nx, fl_rt, trunc_same, tst_bl, getV0, getVs, R.bind_ok, R.bind_exc, R.bind_bad, R.ofO_some, R.ofO_none, view_int, view_bl, view_str, view_non, view_tup, view_lst, view_scr, isTy, b_add, b_addT, b_addL, b_sub, b_mul, b_fdiv, b_mod, b_addB, b_subB, b_mulB, pow12, pow18, pow31, pow6, c_eq3, c_lt, c_le, c_gt, c_ge, c_isN, c_notN, c_isB, c_notB, c_eqI, c_neI, t_bl, t_int, t_non, t_tup, t_lst, p_len_t, p_len_l, p_abs, p_int, p_all, p_any, p_tupL, p_tupT, p_lstT, p_lstL, p_max2, p_min2, x_tup, x_lst, n_int, it_tup, it_lst, sl_tup, sl_lst, at0, at1, at2, sl1, sl2, zipI, mkC_ok, mkL_f, w_nil, w_cons, bs_nil, bs_cons, List.all_cons, List.all_nil, id_eq, Bool.and_true, Bool.and_self, Bool.false_and, Bool.and_false, Bool.or_false, Bool.false_or, Bool.true_and, Bool.or_true, Bool.true_or, List.zipWith_cons_cons, List.zipWith_nil_right, List.zipWith_nil_left, decide_true, decide_false, l0, l1, l2, l3, if_true, List.reverse_cons, List.reverse_nil, nn_non, nn_int, nn_bl, nn_str, nn_tup, nn_lst, tlen, ite_and, ite_and', ite_or, Option.map_some, List.map_cons, List.map_nil, List.length_cons, List.length_nil, List.cons_append, List.nil_append, List.replicate, List.set_cons_zero, List.set_cons_succ, Nat.reduceSub, Nat.reduceAdd, Nat.reduceLeDiff, Nat.zero_le, Bool.not_true, Bool.not_false, ↓reduceIte, Bool.false_eq_true, Ok_ok, Ok_bind, Ok_tst, Ok_mkC, Ok_mkLf, Ok_mkLt, forL, e_callv', e_glob', callF_fn, gb0, gb1, gb2, nfl, Nat.reduceLT, p1, p2, p3, p4, p5, q1, q2, q3, q4, q5, r1, r2, r3, r4, r5, t1, t2, t3, t4, t5, t6, t7, wx1, wx0, cs1, cs0, mu5]
end K10
end
section
set_option Elab.async false
set_option linter.all false
set_option maxRecDepth 100000
set_option maxHeartbeats 4000000
set_option exponentiation.threshold 100000
namespace Ev
theorem cut_hi {ds : List D} {i : Nat} (h : i ≤ ds.length) : cutD ds none (some (i : Int)) = ds.take i := by
  unfold cutD
  rw [HT.sIx_none, HT.sIx_nat, List.drop_zero, Nat.sub_zero, Nat.min_eq_left h]
theorem cut_lo {ds : List D} {i : Nat} (h : i ≤ ds.length) : cutD ds (some (i : Int)) none = ds.drop i := by
  unfold cutD
  rw [HT.sIx_none, HT.sIx_nat, Nat.min_eq_left h]
  exact List.take_of_length_le (by rw [List.length_drop]; exact Nat.le_refl _)
theorem cut_m1 {ds : List D} (h : 1 ≤ ds.length) : cutD ds none (some (-1)) = ds.take (ds.length - 1) := by
  have e : HT.sIx ds.length ds.length (some (-1)) = ds.length - 1 := by
    unfold HT.sIx
    simp only
    rw [if_pos (by omega)]
    omega
  unfold cutD
  rw [HT.sIx_none, e, List.drop_zero, Nat.sub_zero]
theorem ones : ∀ {n : Nat}, 1 ≤ n → n ≤ 6 → binD .mul (.tup [.int 1]) (.int (n : Int)) = some (.tup (List.replicate n (.int 1)))
  | 1, _, _ => rfl
  | 2, _, _ => rfl
  | 3, _, _ => rfl
  | 4, _, _ => rfl
  | 5, _, _ => rfl
  | 6, _, _ => rfl
theorem frs_of {P : Rat → Prop} : ∀ (vs : List D), (∀ d ∈ vs, ∃ x, d = fr x ∧ P x) → ∃ xs : List Rat, vs = xs.map fr ∧ ∀ x ∈ xs, P x
  | [], _ => ⟨[], rfl, fun _ h => absurd h List.not_mem_nil⟩
  | d :: vs, h => by
    obtain ⟨x, rfl, hx⟩ := h d List.mem_cons_self
    obtain ⟨xs, rfl, hxs⟩ := frs_of vs fun e he => h e (List.mem_cons_of_mem _ he)
    exact ⟨x :: xs, rfl, fun y hy => by
      rcases List.mem_cons.1 hy with rfl | hy
      · exact hx
      · exact hxs y hy⟩
theorem ok_frs (k : Nat) (xs : List Rat) : okD (k + 2) (.tup (xs.map fr)) = true := by
  show okL (k + 1) _ = true
  refine okL_all fun d hd => ?_
  obtain ⟨w, _, rfl⟩ := List.mem_map.1 hd
  exact okD_fr k w
end Ev
namespace K10
open Ev
open PySem (Str)
theorem gd_tupI {n : Nat} {l : List Ev.D} (h : l.length ≤ 1000) (hd : ∀ d ∈ l, gd n d = true) : gd (n + 1) (.tup l) = true := by
  have e : gdL n l = true := by
    clear h
    induction l with
    | nil => rfl
    | cons d l ih => simp only [gdL, hd d List.mem_cons_self, ih fun x hx => hd x (List.mem_cons_of_mem _ hx), Bool.and_self]
  simp [gd, h, e]
theorem gd_lstI {n : Nat} {l : List Ev.D} (h : l.length ≤ 1000) (hd : ∀ d ∈ l, gd n d = true) : gd (n + 1) (.lst l) = true := by
  have e : gdL n l = true := by
    clear h
    induction l with
    | nil => rfl
    | cons d l ih => simp only [gdL, hd d List.mem_cons_self, ih fun x hx => hd x (List.mem_cons_of_mem _ hx), Bool.and_self]
  simp [gd, h, e]
theorem tab_len {m : Int} {l : List Ev.D} (h : l.length ≠ (prD m).length) : isTab m (.tup l) = false := by
  show (decide (l.length = (prD m).length) && _) = false
  rw [decide_eq_false h, Bool.false_and]
theorem tab_mem {m : Int} {l : List Ev.D} {d : Ev.D} (h : d ∈ l) (hf : isFrac d 1000000 = false) : isTab m (.tup l) = false := by
  have : l.all (fun d => isFrac d 1000000) = false := by
    rw [List.all_eq_false]
    exact ⟨d, h, by simp [hf]⟩
  show (_ && l.all (fun d => isFrac d 1000000)) = false
  rw [this, Bool.and_false]
theorem Tb_of {x : Rat} {B : Nat} (h0 : 0 < x) (hs : Sz B x) (hB : B ≤ 19) : Tb x := by
  have h := hs.mono hB
  refine ⟨h0, h.mono (by decide), isFrac_fr h0 ?_ ?_⟩
  · have := h.1; omega
  · have := h.2; omega
theorem dueL_sz {ts : List Rat} {m : Int} (hm : Pl m) (hl : (ts.length : Int) = m) (ht : ∀ x ∈ ts, Tl x) : ∀ x ∈ dueL ts, Sz 10 x ∧ 0 < x := by
  have dv : ∀ {a b : Rat}, Tl a → Tl b → Sz 10 (a / b) ∧ 0 < a / b := fun {a b} ha hb => by
    refine ⟨?_, (Tl_div ha hb).1⟩
    rw [← div_eq hb.1]
    exact Sz.of (Int.mul_pos (den_pos a) (num_pos hb.1)) (abs_mul_lt ha.2.1 hb.2.den) (abs_mul_lt ha.2.den hb.2.1)
  intro x hx
  rcases ts_len hm hl with ⟨rfl, a, b, rfl⟩ | ⟨rfl, a, b, c, rfl⟩ | ⟨rfl, a, b, c, d, rfl⟩
  · simp only [dueL, List.mem_cons, List.not_mem_nil, or_false] at hx
    subst hx
    exact dv (ht a (by simp)) (ht b (by simp))
  · simp only [dueL, List.mem_cons, List.not_mem_nil, or_false] at hx
    rcases hx with rfl | rfl | rfl <;> exact dv (ht _ (by simp)) (ht _ (by simp))
  · simp only [dueL, List.mem_cons, List.not_mem_nil, or_false] at hx
    rcases hx with rfl | rfl | rfl | rfl | rfl | rfl <;> exact dv (ht _ (by simp)) (ht _ (by simp))
/-- what is no table of these -/
theorem odd_vals {m : Int} {xs : List Rat} (hl : xs.length = (prD m).length) (h1 : 1 ≤ xs.length) (h6 : xs.length ≤ 6) : ∀ v ∈ [Ev.D.non, .tup ((xs.map fr).drop 1), .tup (xs.map fr ++ (xs.map fr).take 1), .lst (xs.map fr), .tup ((xs.map fr).take (xs.length - 1) ++ [.tup [.int 2, .int 4]]), .tup ((xs.map fr).take (xs.length - 1) ++ [.tup [.int 0, .int 1]]), .tup (List.replicate xs.length (.int 1))], gd 3 v = true ∧ isTab m v = false := by
  have gf : ∀ d ∈ xs.map fr, gd 2 d = true := fun d hd => by
    obtain ⟨x, _, rfl⟩ := List.mem_map.1 hd
    simp [fr, gd, gdL]
  intro v hv
  simp only [List.mem_cons, List.not_mem_nil, or_false] at hv
  rcases hv with rfl | rfl | rfl | rfl | rfl | rfl | rfl
  · exact ⟨rfl, rfl⟩
  · exact ⟨gd_tupI (by simp; omega) fun d hd => gf d (List.mem_of_mem_drop hd), tab_len (by simp; omega)⟩
  · refine ⟨gd_tupI (by simp; omega) fun d hd => ?_, tab_len (by simp; omega)⟩
    rcases List.mem_append.1 hd with hd | hd
    · exact gf d hd
    · exact gf d (List.mem_of_mem_take hd)
  · exact ⟨gd_lstI (by simp; omega) gf, rfl⟩
  · refine ⟨gd_tupI (by simp; omega) fun d hd => ?_, tab_mem (d := .tup [.int 2, .int 4]) (by simp) (by decide +kernel)⟩
    rcases List.mem_append.1 hd with hd | hd
    · exact gf d (List.mem_of_mem_take hd)
    · rw [List.mem_singleton.1 hd]; rfl
  · refine ⟨gd_tupI (by simp; omega) fun d hd => ?_, tab_mem (d := .tup [.int 0, .int 1]) (by simp) (by decide +kernel)⟩
    rcases List.mem_append.1 hd with hd | hd
    · exact gf d (List.mem_of_mem_take hd)
    · rw [List.mem_singleton.1 hd]; rfl
  · refine ⟨gd_tupI (by simp; omega) fun d hd => ?_, tab_mem (d := .int 1) (List.mem_replicate.2 ⟨by omega, rfl⟩) rfl⟩
    rw [(List.mem_replicate.1 hd).2]; rfl
def turnB : Ev.T := .cons (.asg (.tv 4) (.bin .add (.int 2) (.call 14 (.cons (.var 2) (.cons (.int 3) .nil))))) (.cons (.asg (.tv 5) (.prim .tuple (.cons (.comp false (.call 15 (.cons (.bin .add (.int 1) (.call 14 (.cons (.var 2) (.cons (.int 30) .nil)))) (.cons (.bin .add (.int 1) (.call 14 (.cons (.var 2) (.cons (.int 12) .nil)))) .nil))) (.tv 6) (.rng1 (.var 4)) (.bl true) [6]) .nil))) (.cons (.asg (.tv 7) (.prim .tuple (.cons (.comp false (.call 19 (.cons (.var 5) (.cons (.var 8) (.cons (.var 9) .nil)))) (.tt (.cons (.tv 8) (.cons (.tv 9) .nil))) (.one (.call 16 (.cons (.var 4) .nil))) (.bl true) [8, 9]) .nil))) (.cons (.ite (.or (.cmp .ne (.call 12 (.cons (.var 5) .nil)) (.var 7)) (.one (.not (.call 18 (.cons (.var 4) (.cons (.var 7) .nil)))))) (.cons (.ret (.bl false)) .nil) (.nil)) (.cons (.asg (.tv 10) (.call 14 (.cons (.var 2) (.cons (.prim .len (.cons (.var 7) .nil)) .nil)))) (.cons (.asg (.tv 11) (.call 15 (.cons (.bin .add (.ix (.ix (.var 7) (.var 10)) (.int 0)) (.call 14 (.cons (.var 2) (.cons (.int 2) .nil)))) (.cons (.ix (.ix (.var 7) (.var 10)) (.int 1)) .nil)))) (.cons (.asg (.tv 12) (.bin .add (.bin .add (.sl (.var 7) (.nil) (.var 10)) (.tup (.cons (.var 11) .nil))) (.sl (.var 7) (.bin .add (.var 10) (.int 1)) (.nil)))) (.cons (.ite (.not (.call 18 (.cons (.var 4) (.cons (.var 12) .nil)))) (.cons (.ret (.bl false)) .nil) (.nil)) (.cons (.asg (.tv 13) (.sl (.var 7) (.nil) (.neg (.int 1)))) (.cons (.asg (.tv 14) (.lst false (.cons (.non) (.cons (.sl (.var 7) (.int 1) (.nil)) (.cons (.bin .add (.var 7) (.sl (.var 7) (.nil) (.int 1))) (.cons (.prim .list (.cons (.var 7) .nil)) (.cons (.bin .add (.var 13) (.tup (.cons (.tup (.cons (.int 2) (.cons (.int 4) .nil))) .nil))) (.cons (.bin .add (.var 13) (.tup (.cons (.tup (.cons (.int 0) (.cons (.int 1) .nil))) .nil))) .nil)))))))) (.cons (.for_ (.tv 15) (.one (.bin .add (.var 14) (.lst false (.cons (.bin .mul (.tup (.cons (.int 1) .nil)) (.prim .len (.cons (.var 7) .nil))) .nil)))) (.cons (.ite (.not (.call 20 (.cons (.var 4) (.cons (.var 15) .nil)))) (.cons (.ret (.bl false)) .nil) (.nil)) .nil)) .nil))))))))))
def cellB : Ev.T := .cons (.asg (.tv 2) (.call 13 (.cons (.var 0) (.cons (.var 1) .nil)))) (.cons (.for_ (.tv 3) (.rng1 (.int 6)) (.cons (.asg (.tv 4) (.bin .add (.int 2) (.call 14 (.cons (.var 2) (.cons (.int 3) .nil))))) (.cons (.asg (.tv 5) (.prim .tuple (.cons (.comp false (.call 15 (.cons (.bin .add (.int 1) (.call 14 (.cons (.var 2) (.cons (.int 30) .nil)))) (.cons (.bin .add (.int 1) (.call 14 (.cons (.var 2) (.cons (.int 12) .nil)))) .nil))) (.tv 6) (.rng1 (.var 4)) (.bl true) [6]) .nil))) (.cons (.asg (.tv 7) (.prim .tuple (.cons (.comp false (.call 19 (.cons (.var 5) (.cons (.var 8) (.cons (.var 9) .nil)))) (.tt (.cons (.tv 8) (.cons (.tv 9) .nil))) (.one (.call 16 (.cons (.var 4) .nil))) (.bl true) [8, 9]) .nil))) (.cons (.ite (.or (.cmp .ne (.call 12 (.cons (.var 5) .nil)) (.var 7)) (.one (.not (.call 18 (.cons (.var 4) (.cons (.var 7) .nil)))))) (.cons (.ret (.bl false)) .nil) (.nil)) (.cons (.asg (.tv 10) (.call 14 (.cons (.var 2) (.cons (.prim .len (.cons (.var 7) .nil)) .nil)))) (.cons (.asg (.tv 11) (.call 15 (.cons (.bin .add (.ix (.ix (.var 7) (.var 10)) (.int 0)) (.call 14 (.cons (.var 2) (.cons (.int 2) .nil)))) (.cons (.ix (.ix (.var 7) (.var 10)) (.int 1)) .nil)))) (.cons (.asg (.tv 12) (.bin .add (.bin .add (.sl (.var 7) (.nil) (.var 10)) (.tup (.cons (.var 11) .nil))) (.sl (.var 7) (.bin .add (.var 10) (.int 1)) (.nil)))) (.cons (.ite (.not (.call 18 (.cons (.var 4) (.cons (.var 12) .nil)))) (.cons (.ret (.bl false)) .nil) (.nil)) (.cons (.asg (.tv 13) (.sl (.var 7) (.nil) (.neg (.int 1)))) (.cons (.asg (.tv 14) (.lst false (.cons (.non) (.cons (.sl (.var 7) (.int 1) (.nil)) (.cons (.bin .add (.var 7) (.sl (.var 7) (.nil) (.int 1))) (.cons (.prim .list (.cons (.var 7) .nil)) (.cons (.bin .add (.var 13) (.tup (.cons (.tup (.cons (.int 2) (.cons (.int 4) .nil))) .nil))) (.cons (.bin .add (.var 13) (.tup (.cons (.tup (.cons (.int 0) (.cons (.int 1) .nil))) .nil))) .nil)))))))) (.cons (.for_ (.tv 15) (.one (.bin .add (.var 14) (.lst false (.cons (.bin .mul (.tup (.cons (.int 1) .nil)) (.prim .len (.cons (.var 7) .nil))) .nil)))) (.cons (.ite (.not (.call 20 (.cons (.var 4) (.cons (.var 15) .nil)))) (.cons (.ret (.bl false)) .nil) (.nil)) .nil)) .nil)))))))))))) .nil)
def tailB : Ev.T := .cons (.ite (.not (.call 21 (.nil))) (.cons (.ret (.bl false)) .nil) (.nil)) (.cons (.ite (.cmp .ne (.lst false (.cons (.call 9 (.cons (.int 3) (.cons (.tup (.cons (.tup (.cons (.int 2) (.cons (.int 1) .nil))) (.cons (.tup (.cons (.int 6) (.cons (.int 1) .nil))) (.cons (.tup (.cons (.int 3) (.cons (.int 1) .nil))) .nil)))) .nil))) (.cons (.call 9 (.cons (.int 3) (.cons (.tup (.cons (.tup (.cons (.int 2) (.cons (.int 1) .nil))) (.cons (.tup (.cons (.int 6) (.cons (.int 1) .nil))) .nil))) .nil))) .nil))) (.lst false (.cons (.bl true) (.cons (.bl false) .nil)))) (.cons (.ret (.bl false)) .nil) (.nil)) (.cons (.ite (.or (.cmp .notN (.call 10 (.cons (.int 3) (.cons (.tup (.cons (.tup (.cons (.int 2) (.cons (.int 1) .nil))) (.cons (.tup (.cons (.int 6) (.cons (.int 1) .nil))) (.cons (.tup (.cons (.int 3) (.cons (.int 1) .nil))) .nil)))) .nil))) (.bl true)) (.one (.cmp .notN (.call 11 (.cons (.int 2) (.cons (.tup (.cons (.tup (.cons (.int 7) (.cons (.int 3) .nil))) .nil)) .nil))) (.non)))) (.cons (.ret (.bl false)) .nil) (.nil)) (.cons (.ite (.cmp .ne (.call 11 (.cons (.int 4) (.cons (.tup (.cons (.tup (.cons (.int 2) (.cons (.int 1) .nil))) (.cons (.tup (.cons (.int 6) (.cons (.int 1) .nil))) (.cons (.tup (.cons (.int 1) (.cons (.int 1) .nil))) (.cons (.tup (.cons (.int 3) (.cons (.int 1) .nil))) (.cons (.tup (.cons (.int 1) (.cons (.int 2) .nil))) (.cons (.tup (.cons (.int 1) (.cons (.int 5) .nil))) .nil))))))) .nil))) (.tup (.cons (.int 0) (.cons (.int 2) (.cons (.int 3) .nil))))) (.cons (.ret (.bl false)) .nil) (.nil)) (.cons (.ite (.or (.cmp .notN (.call 9 (.cons (.int 2) (.cons (.tup (.cons (.tup (.cons (.bin .pow (.int 10) (.int 6)) (.cons (.int 1) .nil))) .nil)) .nil))) (.bl true)) (.one (.cmp .notN (.call 9 (.cons (.int 2) (.cons (.tup (.cons (.tup (.cons (.bin .add (.bin .pow (.int 10) (.int 6)) (.int 1)) (.cons (.int 1) .nil))) .nil)) .nil))) (.bl false)))) (.cons (.ret (.bl false)) .nil) (.nil)) (.cons (.ite (.cmp .ne (.call 11 (.cons (.int 3) (.cons (.tup (.cons (.tup (.cons (.int 2) (.cons (.int 1) .nil))) (.cons (.tup (.cons (.int 5) (.cons (.int 1) .nil))) (.cons (.tup (.cons (.int 3) (.cons (.int 1) .nil))) .nil)))) .nil))) (.tup (.cons (.int 0) (.cons (.int 1) (.cons (.int 2) .nil))))) (.cons (.ret (.bl false)) .nil) (.nil)) (.cons (.ret (.cmp .eq (.call 12 (.cons (.tup (.cons (.tup (.cons (.int 6) (.cons (.int 1) .nil))) (.cons (.tup (.cons (.int 3) (.cons (.int 1) .nil))) (.cons (.tup (.cons (.int 1) (.cons (.int 2) .nil))) .nil)))) .nil)) (.tup (.cons (.tup (.cons (.int 2) (.cons (.int 1) .nil))) (.cons (.tup (.cons (.int 12) (.cons (.int 1) .nil))) (.cons (.tup (.cons (.int 6) (.cons (.int 1) .nil))) .nil)))))) .nil))))))
def oddB : Ev.T := .cons (.ite (.not (.call 20 (.cons (.var 4) (.cons (.var 15) .nil)))) (.cons (.ret (.bl false)) .nil) (.nil)) .nil
theorem law_eq : B_law = .cons (.for_ (.tv 1) (.rng1 (.prim .max (.cons (.int 5) (.cons (.prim .min (.cons (.int 16) (.cons (.bin .add (.prim .len (.cons (.var 0) .nil)) (.int 4)) .nil))) .nil)))) cellB) tailB := rfl
theorem cell_eq : cellB = .cons (.asg (.tv 2) (.call 13 (.cons (.var 0) (.cons (.var 1) .nil)))) (.cons (.for_ (.tv 3) (.rng1 (.int 6)) turnB) .nil) := rfl
theorem turn_eq : turnB = .cons (.asg (.tv 4) (.bin .add (.int 2) (.call 14 (.cons (.var 2) (.cons (.int 3) .nil))))) (.cons (.asg (.tv 5) (.prim .tuple (.cons (.comp false (.call 15 (.cons (.bin .add (.int 1) (.call 14 (.cons (.var 2) (.cons (.int 30) .nil)))) (.cons (.bin .add (.int 1) (.call 14 (.cons (.var 2) (.cons (.int 12) .nil)))) .nil))) (.tv 6) (.rng1 (.var 4)) (.bl true) [6]) .nil))) (.cons (.asg (.tv 7) (.prim .tuple (.cons (.comp false (.call 19 (.cons (.var 5) (.cons (.var 8) (.cons (.var 9) .nil)))) (.tt (.cons (.tv 8) (.cons (.tv 9) .nil))) (.one (.call 16 (.cons (.var 4) .nil))) (.bl true) [8, 9]) .nil))) (.cons (.ite (.or (.cmp .ne (.call 12 (.cons (.var 5) .nil)) (.var 7)) (.one (.not (.call 18 (.cons (.var 4) (.cons (.var 7) .nil)))))) (.cons (.ret (.bl false)) .nil) (.nil)) (.cons (.asg (.tv 10) (.call 14 (.cons (.var 2) (.cons (.prim .len (.cons (.var 7) .nil)) .nil)))) (.cons (.asg (.tv 11) (.call 15 (.cons (.bin .add (.ix (.ix (.var 7) (.var 10)) (.int 0)) (.call 14 (.cons (.var 2) (.cons (.int 2) .nil)))) (.cons (.ix (.ix (.var 7) (.var 10)) (.int 1)) .nil)))) (.cons (.asg (.tv 12) (.bin .add (.bin .add (.sl (.var 7) (.nil) (.var 10)) (.tup (.cons (.var 11) .nil))) (.sl (.var 7) (.bin .add (.var 10) (.int 1)) (.nil)))) (.cons (.ite (.not (.call 18 (.cons (.var 4) (.cons (.var 12) .nil)))) (.cons (.ret (.bl false)) .nil) (.nil)) (.cons (.asg (.tv 13) (.sl (.var 7) (.nil) (.neg (.int 1)))) (.cons (.asg (.tv 14) (.lst false (.cons (.non) (.cons (.sl (.var 7) (.int 1) (.nil)) (.cons (.bin .add (.var 7) (.sl (.var 7) (.nil) (.int 1))) (.cons (.prim .list (.cons (.var 7) .nil)) (.cons (.bin .add (.var 13) (.tup (.cons (.tup (.cons (.int 2) (.cons (.int 4) .nil))) .nil))) (.cons (.bin .add (.var 13) (.tup (.cons (.tup (.cons (.int 0) (.cons (.int 1) .nil))) .nil))) .nil)))))))) (.cons (.for_ (.tv 15) (.one (.bin .add (.var 14) (.lst false (.cons (.bin .mul (.tup (.cons (.int 1) .nil)) (.prim .len (.cons (.var 7) .nil))) .nil)))) oddB) .nil)))))))))) := rfl
theorem none_loop (k n : Nat) (S : Store) (m : Int) (hm : Pl m) (o0 o1 o2 o3 o5 o6 o7 o8 o9 o10 o11 o12 o13 o14 : Option Ev.D) : ∀ (vs : List Ev.D) (o15 : Option Ev.D), (∀ v ∈ vs, gd 3 v = true ∧ isTab m v = false) →
    ∃ o15', forL (evG (GL (k + 6)) (.tv 15)) (evS (GL (k + 6)) oddB) vs [o0, o1, o2, o3, some (.int m), o5, o6, o7, o8, o9, o10, o11, o12, o13, o14, o15] S = .ok (.nx [o0, o1, o2, o3, some (.int m), o5, o6, o7, o8, o9, o10, o11, o12, o13, o14, o15']) S
  | [], o15, _ => ⟨o15, rfl⟩
  | v :: vs, o15, h => by
    obtain ⟨o15', ih⟩ := none_loop k n S m hm o0 o1 o2 o3 o5 o6 o7 o8 o9 o10 o11 o12 o13 o14 vs (some v) fun x hx => h x (List.mem_cons_of_mem _ hx)
    refine ⟨o15', ?_⟩
    have hv := h v List.mem_cons_self
    have nr := none_run k 3 S m hm v hv.1 hv.2
    have e : evS (GL (k + 6)) oddB [o0, o1, o2, o3, some (.int m), o5, o6, o7, o8, o9, o10, o11, o12, o13, o14, some v] S = .ok (.nx [o0, o1, o2, o3, some (.int m), o5, o6, o7, o8, o9, o10, o11, o12, o13, o14, some v]) S := by
      simp only [oddB, s_cons, s_nil, s_ret', s_ite', s_asg', s_par', s_asgc', s_expr', s_raise', s_loop', s_for', s_app', g_tv', g_tt', gs_nil', gs_cons', g_ts', i_one', i_rng1', i_rng2', i_rng3', i_enum', enumI_lst, enumI_tup, i_zip', e_var, e_int, e_str, e_bl, e_non, e_bin, e_neg, e_not, e_cmp, e_chain, e_and, e_or, e_one, e_ife, e_tup, e_lst, e_ix, e_call, e_prim, e_isi, e_comp, e_sl, e_rev, e_upper, e_rep, e_dnew, e_dz, e_dix, e_din, e_lrng1, e_lrng2, e_word, w_ok, s_dset', GL_call, GL_glob, GL_fuel, GL_nf, optE_nil, optE_int, optE_neg, optE_var, optE_bin, a_nil', a_cons', end_nx, end_rt, fl_nx, fl_rt, trunc_same, tst_bl, getV0, getVs, R.bind_ok, R.bind_exc, R.bind_bad, R.ofO_some, R.ofO_none, view_int, view_bl, view_str, view_non, view_tup, view_lst, view_scr, isTy, b_add, b_addT, b_addL, b_sub, b_mul, b_mulT, b_fdiv, b_mod, b_addB, b_subB, b_mulB, pow12, pow18, pow31, pow6, c_eq3, c_lt, c_le, c_gt, c_ge, c_isN, c_notN, c_isB, c_notB, c_eqI, c_neI, t_bl, t_int, t_non, t_tup, t_lst, p_len_t, p_len_l, p_abs, p_int, p_all, p_any, p_tupL, p_tupT, p_lstT, p_lstL, p_max2, p_min2, x_tup, x_lst, n_int, it_tup, it_lst, sl_tup, sl_lst, at0, at1, at2, sl1, sl2, zipI, mkC_ok, mkL_f, w_nil, w_cons, bs_nil, bs_cons, List.all_cons, List.all_nil, id_eq, Bool.and_true, Bool.and_self, Bool.false_and, Bool.and_false, Bool.or_false, Bool.false_or, Bool.true_and, Bool.or_true, Bool.true_or, List.zipWith_cons_cons, List.zipWith_nil_right, List.zipWith_nil_left, decide_true, decide_false, l0, l1, l2, l3, if_true, List.reverse_cons, List.reverse_nil, nn_non, nn_int, nn_bl, nn_str, nn_tup, nn_lst, tlen, ite_and, ite_and', ite_or, Option.map_some, List.map_cons, List.map_nil, List.length_cons, List.length_nil, List.cons_append, List.nil_append, List.replicate, List.set_cons_zero, List.set_cons_succ, Nat.reduceSub, Nat.reduceAdd, Nat.reduceLeDiff, Nat.zero_le, Bool.not_true, Bool.not_false, ↓reduceIte, Bool.false_eq_true, nr]
    simp only [forL, g_tv', R.bind_ok, List.set_cons_succ, List.set_cons_zero, e]
    exact ih
theorem frac_pos {a b : Int} (ha : 0 < a) (hb : 0 < b) : (0 : Rat) < (a : Rat) / (b : Rat) := by
  have h1 : (0 : Rat) < (a : Rat) := by exact_mod_cast ha
  have h2 : (0 : Rat) < (b : Rat) := by exact_mod_cast hb
  rw [Rat.div_def]
  exact Rat.mul_pos h1 (Rat.inv_pos.2 h2)
theorem turn_run (k n : Nat) (S : Store) (hT : TK n S) (o0 o1 o3 o4 o5 o6 o7 o8 o9 o10 o11 o12 o13 o14 o15 : Option Ev.D) :
    Ok (evS (GL (k + 6)) turnB [o0, o1, some (.cel n), o3, o4, o5, o6, o7, o8, o9, o10, o11, o12, o13, o14, o15] S) fun f S' => TK n S' ∧ ∃ o4 o5 o6 o7 o8 o9 o10 o11 o12 o13 o14 o15, f = .nx [o0, o1, some (.cel n), o3, o4, o5, o6, o7, o8, o9, o10, o11, o12, o13, o14, o15] := by
  have fi : ∀ (S : Store) (y : Rat), view S (fr y) = .tup [.int y.num, .int (y.den : Int)] := fun S y => rfl
  try simp only [turn_eq, s_cons, s_nil, s_ret', s_ite', s_asg', s_par', s_asgc', s_expr', s_raise', s_loop', s_for', s_app', g_tv', g_tt', gs_nil', gs_cons', g_ts', i_one', i_rng1', i_rng2', i_rng3', i_enum', enumI_lst, enumI_tup, i_zip', e_var, e_int, e_str, e_bl, e_non, e_bin, e_neg, e_not, e_cmp, e_chain, e_and, e_or, e_one, e_ife, e_tup, e_lst, e_ix, e_call, e_prim, e_isi, e_comp, e_sl, e_rev, e_upper, e_rep, e_dnew, e_dz, e_dix, e_din, e_lrng1, e_lrng2, e_word, w_ok, s_dset', GL_call, GL_glob, GL_fuel, GL_nf, optE_nil, optE_int, optE_neg, optE_var, optE_bin, a_nil', a_cons', end_nx, end_rt, fl_nx, fl_rt, trunc_same, tst_bl, getV0, getVs, R.bind_ok, R.bind_exc, R.bind_bad, R.ofO_some, R.ofO_none, view_int, view_bl, view_str, view_non, view_tup, view_lst, view_scr, isTy, b_add, b_addT, b_addL, b_sub, b_mul, b_mulT, b_fdiv, b_mod, b_addB, b_subB, b_mulB, pow12, pow18, pow31, pow6, c_eq3, c_lt, c_le, c_gt, c_ge, c_isN, c_notN, c_isB, c_notB, c_eqI, c_neI, t_bl, t_int, t_non, t_tup, t_lst, p_len_t, p_len_l, p_abs, p_int, p_all, p_any, p_tupL, p_tupT, p_lstT, p_lstL, p_max2, p_min2, x_tup, x_lst, n_int, it_tup, it_lst, sl_tup, sl_lst, at0, at1, at2, sl1, sl2, zipI, mkC_ok, mkL_f, w_nil, w_cons, bs_nil, bs_cons, List.all_cons, List.all_nil, id_eq, Bool.and_true, Bool.and_self, Bool.false_and, Bool.and_false, Bool.or_false, Bool.false_or, Bool.true_and, Bool.or_true, Bool.true_or, List.zipWith_cons_cons, List.zipWith_nil_right, List.zipWith_nil_left, decide_true, decide_false, l0, l1, l2, l3, if_true, List.reverse_cons, List.reverse_nil, nn_non, nn_int, nn_bl, nn_str, nn_tup, nn_lst, tlen, ite_and, ite_and', ite_or, Option.map_some, List.map_cons, List.map_nil, List.length_cons, List.length_nil, List.cons_append, List.nil_append, List.replicate, List.set_cons_zero, List.set_cons_succ, Nat.reduceSub, Nat.reduceAdd, Nat.reduceLeDiff, Nat.zero_le, Bool.not_true, Bool.not_false, ↓reduceIte, Bool.false_eq_true, Ok_ok, Ok_bind, Ok_tst, Ok_mkC, Ok_mkLf, Ok_mkLt]
  refine (sip_run (k + 5) n S 3 hT (by decide) (by decide)).mono fun d S1 h => ?_
  obtain ⟨hT1, r1, rfl, r10, r11⟩ := h
  have hm : Pl (2 + r1) := by unfold Pl; omega
  try simp only [s_cons, s_nil, s_ret', s_ite', s_asg', s_par', s_asgc', s_expr', s_raise', s_loop', s_for', s_app', g_tv', g_tt', gs_nil', gs_cons', g_ts', i_one', i_rng1', i_rng2', i_rng3', i_enum', enumI_lst, enumI_tup, i_zip', e_var, e_int, e_str, e_bl, e_non, e_bin, e_neg, e_not, e_cmp, e_chain, e_and, e_or, e_one, e_ife, e_tup, e_lst, e_ix, e_call, e_prim, e_isi, e_comp, e_sl, e_rev, e_upper, e_rep, e_dnew, e_dz, e_dix, e_din, e_lrng1, e_lrng2, e_word, w_ok, s_dset', GL_call, GL_glob, GL_fuel, GL_nf, optE_nil, optE_int, optE_neg, optE_var, optE_bin, a_nil', a_cons', end_nx, end_rt, fl_nx, fl_rt, trunc_same, tst_bl, getV0, getVs, R.bind_ok, R.bind_exc, R.bind_bad, R.ofO_some, R.ofO_none, view_int, view_bl, view_str, view_non, view_tup, view_lst, view_scr, isTy, b_add, b_addT, b_addL, b_sub, b_mul, b_mulT, b_fdiv, b_mod, b_addB, b_subB, b_mulB, pow12, pow18, pow31, pow6, c_eq3, c_lt, c_le, c_gt, c_ge, c_isN, c_notN, c_isB, c_notB, c_eqI, c_neI, t_bl, t_int, t_non, t_tup, t_lst, p_len_t, p_len_l, p_abs, p_int, p_all, p_any, p_tupL, p_tupT, p_lstT, p_lstL, p_max2, p_min2, x_tup, x_lst, n_int, it_tup, it_lst, sl_tup, sl_lst, at0, at1, at2, sl1, sl2, zipI, mkC_ok, mkL_f, w_nil, w_cons, bs_nil, bs_cons, List.all_cons, List.all_nil, id_eq, Bool.and_true, Bool.and_self, Bool.false_and, Bool.and_false, Bool.or_false, Bool.false_or, Bool.true_and, Bool.or_true, Bool.true_or, List.zipWith_cons_cons, List.zipWith_nil_right, List.zipWith_nil_left, decide_true, decide_false, l0, l1, l2, l3, if_true, List.reverse_cons, List.reverse_nil, nn_non, nn_int, nn_bl, nn_str, nn_tup, nn_lst, tlen, ite_and, ite_and', ite_or, Option.map_some, List.map_cons, List.map_nil, List.length_cons, List.length_nil, List.cons_append, List.nil_append, List.replicate, List.set_cons_zero, List.set_cons_succ, Nat.reduceSub, Nat.reduceAdd, Nat.reduceLeDiff, Nat.zero_le, Bool.not_true, Bool.not_false, ↓reduceIte, Bool.false_eq_true, Ok_ok, Ok_bind, Ok_tst, Ok_mkC, Ok_mkLf, Ok_mkLt, rngI_ok (show (0 : Int) ≤ 2 + r1 by omega) (show 2 + r1 < 1000000 by omega)]
  refine compL_all (TK n) (fun d => ∃ x, d = fr x ∧ Tl x) _ _ _ (fun d hd S2 hT2 => ?_) hT1 (fun d hd => absurd hd List.not_mem_nil) (by rw [rng_len]; simp; omega) fun vs S2 hT2 hv hlen => ?_
  · try simp only [cnd_eq, s_cons, s_nil, s_ret', s_ite', s_asg', s_par', s_asgc', s_expr', s_raise', s_loop', s_for', s_app', g_tv', g_tt', gs_nil', gs_cons', g_ts', i_one', i_rng1', i_rng2', i_rng3', i_enum', enumI_lst, enumI_tup, i_zip', e_var, e_int, e_str, e_bl, e_non, e_bin, e_neg, e_not, e_cmp, e_chain, e_and, e_or, e_one, e_ife, e_tup, e_lst, e_ix, e_call, e_prim, e_isi, e_comp, e_sl, e_rev, e_upper, e_rep, e_dnew, e_dz, e_dix, e_din, e_lrng1, e_lrng2, e_word, w_ok, s_dset', GL_call, GL_glob, GL_fuel, GL_nf, optE_nil, optE_int, optE_neg, optE_var, optE_bin, a_nil', a_cons', end_nx, end_rt, fl_nx, fl_rt, trunc_same, tst_bl, getV0, getVs, R.bind_ok, R.bind_exc, R.bind_bad, R.ofO_some, R.ofO_none, view_int, view_bl, view_str, view_non, view_tup, view_lst, view_scr, isTy, b_add, b_addT, b_addL, b_sub, b_mul, b_mulT, b_fdiv, b_mod, b_addB, b_subB, b_mulB, pow12, pow18, pow31, pow6, c_eq3, c_lt, c_le, c_gt, c_ge, c_isN, c_notN, c_isB, c_notB, c_eqI, c_neI, t_bl, t_int, t_non, t_tup, t_lst, p_len_t, p_len_l, p_abs, p_int, p_all, p_any, p_tupL, p_tupT, p_lstT, p_lstL, p_max2, p_min2, x_tup, x_lst, n_int, it_tup, it_lst, sl_tup, sl_lst, at0, at1, at2, sl1, sl2, zipI, mkC_ok, mkL_f, w_nil, w_cons, bs_nil, bs_cons, List.all_cons, List.all_nil, id_eq, Bool.and_true, Bool.and_self, Bool.false_and, Bool.and_false, Bool.or_false, Bool.false_or, Bool.true_and, Bool.or_true, Bool.true_or, List.zipWith_cons_cons, List.zipWith_nil_right, List.zipWith_nil_left, decide_true, decide_false, l0, l1, l2, l3, if_true, List.reverse_cons, List.reverse_nil, nn_non, nn_int, nn_bl, nn_str, nn_tup, nn_lst, tlen, ite_and, ite_and', ite_or, Option.map_some, List.map_cons, List.map_nil, List.length_cons, List.length_nil, List.cons_append, List.nil_append, List.replicate, List.set_cons_zero, List.set_cons_succ, Nat.reduceSub, Nat.reduceAdd, Nat.reduceLeDiff, Nat.zero_le, Bool.not_true, Bool.not_false, ↓reduceIte, Bool.false_eq_true, Ok_ok, Ok_bind, Ok_tst, Ok_mkC, Ok_mkLf, Ok_mkLt]
    refine ⟨trivial, ?_⟩
    refine (sip_run (k + 5) n S2 30 hT2 (by decide) (by decide)).mono fun d S3 h => ?_
    obtain ⟨hT3, r3, rfl, r30, r31⟩ := h
    try simp only [s_cons, s_nil, s_ret', s_ite', s_asg', s_par', s_asgc', s_expr', s_raise', s_loop', s_for', s_app', g_tv', g_tt', gs_nil', gs_cons', g_ts', i_one', i_rng1', i_rng2', i_rng3', i_enum', enumI_lst, enumI_tup, i_zip', e_var, e_int, e_str, e_bl, e_non, e_bin, e_neg, e_not, e_cmp, e_chain, e_and, e_or, e_one, e_ife, e_tup, e_lst, e_ix, e_call, e_prim, e_isi, e_comp, e_sl, e_rev, e_upper, e_rep, e_dnew, e_dz, e_dix, e_din, e_lrng1, e_lrng2, e_word, w_ok, s_dset', GL_call, GL_glob, GL_fuel, GL_nf, optE_nil, optE_int, optE_neg, optE_var, optE_bin, a_nil', a_cons', end_nx, end_rt, fl_nx, fl_rt, trunc_same, tst_bl, getV0, getVs, R.bind_ok, R.bind_exc, R.bind_bad, R.ofO_some, R.ofO_none, view_int, view_bl, view_str, view_non, view_tup, view_lst, view_scr, isTy, b_add, b_addT, b_addL, b_sub, b_mul, b_mulT, b_fdiv, b_mod, b_addB, b_subB, b_mulB, pow12, pow18, pow31, pow6, c_eq3, c_lt, c_le, c_gt, c_ge, c_isN, c_notN, c_isB, c_notB, c_eqI, c_neI, t_bl, t_int, t_non, t_tup, t_lst, p_len_t, p_len_l, p_abs, p_int, p_all, p_any, p_tupL, p_tupT, p_lstT, p_lstL, p_max2, p_min2, x_tup, x_lst, n_int, it_tup, it_lst, sl_tup, sl_lst, at0, at1, at2, sl1, sl2, zipI, mkC_ok, mkL_f, w_nil, w_cons, bs_nil, bs_cons, List.all_cons, List.all_nil, id_eq, Bool.and_true, Bool.and_self, Bool.false_and, Bool.and_false, Bool.or_false, Bool.false_or, Bool.true_and, Bool.or_true, Bool.true_or, List.zipWith_cons_cons, List.zipWith_nil_right, List.zipWith_nil_left, decide_true, decide_false, l0, l1, l2, l3, if_true, List.reverse_cons, List.reverse_nil, nn_non, nn_int, nn_bl, nn_str, nn_tup, nn_lst, tlen, ite_and, ite_and', ite_or, Option.map_some, List.map_cons, List.map_nil, List.length_cons, List.length_nil, List.cons_append, List.nil_append, List.replicate, List.set_cons_zero, List.set_cons_succ, Nat.reduceSub, Nat.reduceAdd, Nat.reduceLeDiff, Nat.zero_le, Bool.not_true, Bool.not_false, ↓reduceIte, Bool.false_eq_true, Ok_ok, Ok_bind, Ok_tst, Ok_mkC, Ok_mkLf, Ok_mkLt]
    refine (sip_run (k + 5) n S3 12 hT3 (by decide) (by decide)).mono fun d S4 h => ?_
    obtain ⟨hT4, r4, rfl, r40, r41⟩ := h
    have lr := law_low_run (k + 5) 5 S4 (1 + r3) (1 + r4) (by omega) (by omega) (abs_lt_pow (by omega) (by omega)) (by decide)
    try simp only [s_cons, s_nil, s_ret', s_ite', s_asg', s_par', s_asgc', s_expr', s_raise', s_loop', s_for', s_app', g_tv', g_tt', gs_nil', gs_cons', g_ts', i_one', i_rng1', i_rng2', i_rng3', i_enum', enumI_lst, enumI_tup, i_zip', e_var, e_int, e_str, e_bl, e_non, e_bin, e_neg, e_not, e_cmp, e_chain, e_and, e_or, e_one, e_ife, e_tup, e_lst, e_ix, e_call, e_prim, e_isi, e_comp, e_sl, e_rev, e_upper, e_rep, e_dnew, e_dz, e_dix, e_din, e_lrng1, e_lrng2, e_word, w_ok, s_dset', GL_call, GL_glob, GL_fuel, GL_nf, optE_nil, optE_int, optE_neg, optE_var, optE_bin, a_nil', a_cons', end_nx, end_rt, fl_nx, fl_rt, trunc_same, tst_bl, getV0, getVs, R.bind_ok, R.bind_exc, R.bind_bad, R.ofO_some, R.ofO_none, view_int, view_bl, view_str, view_non, view_tup, view_lst, view_scr, isTy, b_add, b_addT, b_addL, b_sub, b_mul, b_mulT, b_fdiv, b_mod, b_addB, b_subB, b_mulB, pow12, pow18, pow31, pow6, c_eq3, c_lt, c_le, c_gt, c_ge, c_isN, c_notN, c_isB, c_notB, c_eqI, c_neI, t_bl, t_int, t_non, t_tup, t_lst, p_len_t, p_len_l, p_abs, p_int, p_all, p_any, p_tupL, p_tupT, p_lstT, p_lstL, p_max2, p_min2, x_tup, x_lst, n_int, it_tup, it_lst, sl_tup, sl_lst, at0, at1, at2, sl1, sl2, zipI, mkC_ok, mkL_f, w_nil, w_cons, bs_nil, bs_cons, List.all_cons, List.all_nil, id_eq, Bool.and_true, Bool.and_self, Bool.false_and, Bool.and_false, Bool.or_false, Bool.false_or, Bool.true_and, Bool.or_true, Bool.true_or, List.zipWith_cons_cons, List.zipWith_nil_right, List.zipWith_nil_left, decide_true, decide_false, l0, l1, l2, l3, if_true, List.reverse_cons, List.reverse_nil, nn_non, nn_int, nn_bl, nn_str, nn_tup, nn_lst, tlen, ite_and, ite_and', ite_or, Option.map_some, List.map_cons, List.map_nil, List.length_cons, List.length_nil, List.cons_append, List.nil_append, List.replicate, List.set_cons_zero, List.set_cons_succ, Nat.reduceSub, Nat.reduceAdd, Nat.reduceLeDiff, Nat.zero_le, Bool.not_true, Bool.not_false, ↓reduceIte, Bool.false_eq_true, Ok_ok, Ok_bind, Ok_tst, Ok_mkC, Ok_mkLf, Ok_mkLt, lr]
    exact ⟨hT4, _, rfl, frac_pos (by omega) (by omega), Sz.of (by omega) (abs_lt_pow (by omega) (by omega)) (abs_lt_pow (by omega) (by omega))⟩
  obtain ⟨ts, rfl, ht⟩ := frs_of vs hv
  rw [rng_len, List.length_map, List.length_nil, Nat.zero_add] at hlen
  have hl : (ts.length : Int) = 2 + r1 := by omega
  obtain ⟨hxl, hx⟩ := dueL_ok hm hl ht
  have hz := dueL_sz hm hl ht
  have lp := law_pairs_run (k + 5) S2 (2 + r1) hm
  have dc := fun a b c d e f g h i j l m p => due_comp (k + 4) S2 (2 + r1) hm ts hl ht a b c d e f g h i j l m p
  have tr := table_run (k + 3) S2 (2 + r1) hm ts hl ht
  have rr := right_run k S2 (hT2.bel _) (2 + r1) hm (dueL ts) hxl hx
  have ne := c_ne_same (S := S2) (ok_frs 14 (dueL ts))
  generalize dueL ts = xs at *
  have n1 : 1 ≤ xs.length := by rw [hxl]; rcases hm with e | e | e <;> (rw [e]; decide)
  have n6 : xs.length ≤ 6 := by rw [hxl]; rcases hm with e | e | e <;> (rw [e]; decide)
  try simp only [s_cons, s_nil, s_ret', s_ite', s_asg', s_par', s_asgc', s_expr', s_raise', s_loop', s_for', s_app', g_tv', g_tt', gs_nil', gs_cons', g_ts', i_one', i_rng1', i_rng2', i_rng3', i_enum', enumI_lst, enumI_tup, i_zip', e_var, e_int, e_str, e_bl, e_non, e_bin, e_neg, e_not, e_cmp, e_chain, e_and, e_or, e_one, e_ife, e_tup, e_lst, e_ix, e_call, e_prim, e_isi, e_comp, e_sl, e_rev, e_upper, e_rep, e_dnew, e_dz, e_dix, e_din, e_lrng1, e_lrng2, e_word, w_ok, s_dset', GL_call, GL_glob, GL_fuel, GL_nf, optE_nil, optE_int, optE_neg, optE_var, optE_bin, a_nil', a_cons', end_nx, end_rt, fl_nx, fl_rt, trunc_same, tst_bl, getV0, getVs, R.bind_ok, R.bind_exc, R.bind_bad, R.ofO_some, R.ofO_none, view_int, view_bl, view_str, view_non, view_tup, view_lst, view_scr, isTy, b_add, b_addT, b_addL, b_sub, b_mul, b_mulT, b_fdiv, b_mod, b_addB, b_subB, b_mulB, pow12, pow18, pow31, pow6, c_eq3, c_lt, c_le, c_gt, c_ge, c_isN, c_notN, c_isB, c_notB, c_eqI, c_neI, t_bl, t_int, t_non, t_tup, t_lst, p_len_t, p_len_l, p_abs, p_int, p_all, p_any, p_tupL, p_tupT, p_lstT, p_lstL, p_max2, p_min2, x_tup, x_lst, n_int, it_tup, it_lst, sl_tup, sl_lst, at0, at1, at2, sl1, sl2, zipI, mkC_ok, mkL_f, w_nil, w_cons, bs_nil, bs_cons, List.all_cons, List.all_nil, id_eq, Bool.and_true, Bool.and_self, Bool.false_and, Bool.and_false, Bool.or_false, Bool.false_or, Bool.true_and, Bool.or_true, Bool.true_or, List.zipWith_cons_cons, List.zipWith_nil_right, List.zipWith_nil_left, decide_true, decide_false, l0, l1, l2, l3, if_true, List.reverse_cons, List.reverse_nil, nn_non, nn_int, nn_bl, nn_str, nn_tup, nn_lst, tlen, ite_and, ite_and', ite_or, Option.map_some, List.map_cons, List.map_nil, List.length_cons, List.length_nil, List.cons_append, List.nil_append, List.replicate, List.set_cons_zero, List.set_cons_succ, Nat.reduceSub, Nat.reduceAdd, Nat.reduceLeDiff, Nat.zero_le, Bool.not_true, Bool.not_false, ↓reduceIte, Bool.false_eq_true, Ok_ok, Ok_bind, Ok_tst, Ok_mkC, Ok_mkLf, Ok_mkLt, lp, dc, tr, rr, ne, List.length_map]
  refine (sip_run (k + 5) n S2 xs.length hT2 (by omega) (by omega)).mono fun d S3 h => ?_
  obtain ⟨hT3, r3, rfl, r30, r31⟩ := h
  obtain ⟨i, rfl⟩ : ∃ i : Nat, r3 = (i : Int) := ⟨r3.toNat, by omega⟩
  have hi : i < xs.length := by omega
  have ei : L2.atI (xs.map fr) (i : Int) = some (fr xs[i]) := by rw [at_nat (by simpa using hi)]; simp [hi]
  try simp only [s_cons, s_nil, s_ret', s_ite', s_asg', s_par', s_asgc', s_expr', s_raise', s_loop', s_for', s_app', g_tv', g_tt', gs_nil', gs_cons', g_ts', i_one', i_rng1', i_rng2', i_rng3', i_enum', enumI_lst, enumI_tup, i_zip', e_var, e_int, e_str, e_bl, e_non, e_bin, e_neg, e_not, e_cmp, e_chain, e_and, e_or, e_one, e_ife, e_tup, e_lst, e_ix, e_call, e_prim, e_isi, e_comp, e_sl, e_rev, e_upper, e_rep, e_dnew, e_dz, e_dix, e_din, e_lrng1, e_lrng2, e_word, w_ok, s_dset', GL_call, GL_glob, GL_fuel, GL_nf, optE_nil, optE_int, optE_neg, optE_var, optE_bin, a_nil', a_cons', end_nx, end_rt, fl_nx, fl_rt, trunc_same, tst_bl, getV0, getVs, R.bind_ok, R.bind_exc, R.bind_bad, R.ofO_some, R.ofO_none, view_int, view_bl, view_str, view_non, view_tup, view_lst, view_scr, isTy, b_add, b_addT, b_addL, b_sub, b_mul, b_mulT, b_fdiv, b_mod, b_addB, b_subB, b_mulB, pow12, pow18, pow31, pow6, c_eq3, c_lt, c_le, c_gt, c_ge, c_isN, c_notN, c_isB, c_notB, c_eqI, c_neI, t_bl, t_int, t_non, t_tup, t_lst, p_len_t, p_len_l, p_abs, p_int, p_all, p_any, p_tupL, p_tupT, p_lstT, p_lstL, p_max2, p_min2, x_tup, x_lst, n_int, it_tup, it_lst, sl_tup, sl_lst, at0, at1, at2, sl1, sl2, zipI, mkC_ok, mkL_f, w_nil, w_cons, bs_nil, bs_cons, List.all_cons, List.all_nil, id_eq, Bool.and_true, Bool.and_self, Bool.false_and, Bool.and_false, Bool.or_false, Bool.false_or, Bool.true_and, Bool.or_true, Bool.true_or, List.zipWith_cons_cons, List.zipWith_nil_right, List.zipWith_nil_left, decide_true, decide_false, l0, l1, l2, l3, if_true, List.reverse_cons, List.reverse_nil, nn_non, nn_int, nn_bl, nn_str, nn_tup, nn_lst, tlen, ite_and, ite_and', ite_or, Option.map_some, List.map_cons, List.map_nil, List.length_cons, List.length_nil, List.cons_append, List.nil_append, List.replicate, List.set_cons_zero, List.set_cons_succ, Nat.reduceSub, Nat.reduceAdd, Nat.reduceLeDiff, Nat.zero_le, Bool.not_true, Bool.not_false, ↓reduceIte, Bool.false_eq_true, Ok_ok, Ok_bind, Ok_tst, Ok_mkC, Ok_mkLf, Ok_mkLt, ei, fi]
  refine (sip_run (k + 5) n S3 2 hT3 (by decide) (by decide)).mono fun d S4 h => ?_
  obtain ⟨hT4, r4, rfl, r40, r41⟩ := h
  have tb := hx xs[i] (List.getElem_mem hi)
  have nb := num_pos tb.1
  have db := den_pos xs[i]
  have g0 : 0 < xs[i].num + r4 := by omega
  have z10 := (hz xs[i] (List.getElem_mem hi)).1
  have zn := z10.1
  have zd := z10.den
  have lr := law_low_run (k + 5) 11 S4 (xs[i].num + r4) (xs[i].den : Int) (by omega) db (abs_mono zd (by decide)) (by decide)
  have ty : Tb (((xs[i].num + r4 : Int) : Rat) / ((xs[i].den : Int) : Rat)) := Tb_of (frac_pos g0 db) (Sz.of (B := 11) db (by omega) (abs_mono zd (by decide))) (by decide)
  generalize ((xs[i].num + r4 : Int) : Rat) / ((xs[i].den : Int) : Rat) = y at lr ty
  have c1 : cutD (xs.map fr) none (some (i : Int)) = (xs.take i).map fr := by rw [cut_hi (by simp; omega), List.map_take]
  have c2 : cutD (xs.map fr) (some ((i : Int) + 1)) none = (xs.drop (i + 1)).map fr := by
    have := cut_lo (ds := xs.map fr) (i := i + 1) (by simp; omega)
    rw [Int.natCast_add] at this
    exact this.trans (List.map_drop ..).symm
  have c3 : cutD (xs.map fr) none (some (-1)) = (xs.map fr).take (xs.length - 1) := by rw [cut_m1 (by simp; omega), List.length_map]
  have c4 : cutD (xs.map fr) (some 1) none = (xs.map fr).drop 1 := cut_lo (i := 1) (by simp; omega)
  have c5 : cutD (xs.map fr) none (some 1) = (xs.map fr).take 1 := cut_hi (i := 1) (by simp; omega)
  have q1 : ((xs.take i).map fr).length ≤ 999999 := by simp; omega
  have q2 : ((xs.take i).map fr ++ [fr y]).length + ((xs.drop (i + 1)).map fr).length ≤ 1000000 := by simp; omega
  have q3 : ((xs.map fr).take (xs.length - 1)).length ≤ 999999 := by simp; omega
  have q4 : (xs.map fr).length + ((xs.map fr).take 1).length ≤ 1000000 := by simp; omega
  have e1 : (xs.take i).map fr ++ [fr y] ++ (xs.drop (i + 1)).map fr = (xs.take i ++ [y] ++ xs.drop (i + 1)).map fr := by simp
  have yl : (xs.take i ++ [y] ++ xs.drop (i + 1)).length = (prD (2 + r1)).length := by
    rw [← hxl]; simp; omega
  have yt : ∀ x ∈ xs.take i ++ [y] ++ xs.drop (i + 1), Tb x := fun x hxm => by
    simp only [List.mem_append, List.mem_singleton] at hxm
    rcases hxm with (h | rfl) | h
    · exact hx x (List.mem_of_mem_take h)
    · exact ty
    · exact hx x (List.mem_of_mem_drop h)
  have rr2 := right_run k S4 (hT4.bel _) (2 + r1) hm _ yl yt
  have on := ones n1 n6
  have lm : ((xs.map fr).length : Int) = (xs.length : Int) := by rw [List.length_map]
  obtain ⟨o15', nl⟩ := none_loop k n S4 (2 + r1) hm o0 o1 (some (.cel n)) o3 (some (.tup (ts.map fr))) o6 (some (.tup (xs.map fr))) o8 o9 (some (.int (i : Int))) (some (fr y)) (some (.tup ((xs.take i ++ [y] ++ xs.drop (i + 1)).map fr))) (some (.tup ((xs.map fr).take (xs.length - 1)))) (some (.lst [.non, .tup ((xs.map fr).drop 1), .tup (xs.map fr ++ (xs.map fr).take 1), .lst (xs.map fr), .tup ((xs.map fr).take (xs.length - 1) ++ [.tup [.int 2, .int 4]]), .tup ((xs.map fr).take (xs.length - 1) ++ [.tup [.int 0, .int 1]])])) [.non, .tup ((xs.map fr).drop 1), .tup (xs.map fr ++ (xs.map fr).take 1), .lst (xs.map fr), .tup ((xs.map fr).take (xs.length - 1) ++ [.tup [.int 2, .int 4]]), .tup ((xs.map fr).take (xs.length - 1) ++ [.tup [.int 0, .int 1]]), .tup (List.replicate xs.length (.int 1))] o15 (odd_vals hxl n1 n6)
  try simp only [s_cons, s_nil, s_ret', s_ite', s_asg', s_par', s_asgc', s_expr', s_raise', s_loop', s_for', s_app', g_tv', g_tt', gs_nil', gs_cons', g_ts', i_one', i_rng1', i_rng2', i_rng3', i_enum', enumI_lst, enumI_tup, i_zip', e_var, e_int, e_str, e_bl, e_non, e_bin, e_neg, e_not, e_cmp, e_chain, e_and, e_or, e_one, e_ife, e_tup, e_lst, e_ix, e_call, e_prim, e_isi, e_comp, e_sl, e_rev, e_upper, e_rep, e_dnew, e_dz, e_dix, e_din, e_lrng1, e_lrng2, e_word, w_ok, s_dset', GL_call, GL_glob, GL_fuel, GL_nf, optE_nil, optE_int, optE_neg, optE_var, optE_bin, a_nil', a_cons', end_nx, end_rt, fl_nx, fl_rt, trunc_same, tst_bl, getV0, getVs, R.bind_ok, R.bind_exc, R.bind_bad, R.ofO_some, R.ofO_none, view_int, view_bl, view_str, view_non, view_tup, view_lst, view_scr, isTy, b_add, b_addT, b_addL, b_sub, b_mul, b_fdiv, b_mod, b_addB, b_subB, b_mulB, pow12, pow18, pow31, pow6, c_eq3, c_lt, c_le, c_gt, c_ge, c_isN, c_notN, c_isB, c_notB, c_eqI, c_neI, t_bl, t_int, t_non, t_tup, t_lst, p_len_t, p_len_l, p_abs, p_int, p_all, p_any, p_tupL, p_tupT, p_lstT, p_lstL, p_max2, p_min2, x_tup, x_lst, n_int, it_tup, it_lst, sl_tup, sl_lst, at0, at1, at2, sl1, sl2, zipI, mkC_ok, mkL_f, w_nil, w_cons, bs_nil, bs_cons, List.all_cons, List.all_nil, id_eq, Bool.and_true, Bool.and_self, Bool.false_and, Bool.and_false, Bool.or_false, Bool.false_or, Bool.true_and, Bool.or_true, Bool.true_or, List.zipWith_cons_cons, List.zipWith_nil_right, List.zipWith_nil_left, decide_true, decide_false, l0, l1, l2, l3, if_true, List.reverse_cons, List.reverse_nil, nn_non, nn_int, nn_bl, nn_str, nn_tup, nn_lst, tlen, ite_and, ite_and', ite_or, Option.map_some, List.map_cons, List.map_nil, List.length_cons, List.length_nil, List.cons_append, List.nil_append, List.replicate, List.set_cons_zero, List.set_cons_succ, Nat.reduceSub, Nat.reduceAdd, Nat.reduceLeDiff, Nat.zero_le, Bool.not_true, Bool.not_false, ↓reduceIte, Bool.false_eq_true, Ok_ok, Ok_bind, Ok_tst, Ok_mkC, Ok_mkLf, Ok_mkLt, lr, c1, c2, c3, c4, c5, q1, q2, q3, q4, e1, rr2, on, lm, nl]
  exact ⟨hT4, _, _, _, _, _, _, _, _, _, _, _, _, rfl⟩
end K10
end
section
set_option Elab.async false
set_option linter.all false
set_option maxRecDepth 100000
set_option maxHeartbeats 4000000
set_option exponentiation.threshold 100000
namespace K10
open Ev
open PySem (Str)
theorem turns (k n : Nat) (S : Store) (hT : TK n S) (o0 o1 o3 o4 o5 o6 o7 o8 o9 o10 o11 o12 o13 o14 o15 : Option Ev.D) (ds : List Ev.D) :
    Ok (forL (evG (GL (k + 6)) (.tv 3)) (evS (GL (k + 6)) turnB) ds [o0, o1, some (.cel n), o3, o4, o5, o6, o7, o8, o9, o10, o11, o12, o13, o14, o15] S) fun f S' => TK n S' ∧ ∃ o3 o4 o5 o6 o7 o8 o9 o10 o11 o12 o13 o14 o15, f = .nx [o0, o1, some (.cel n), o3, o4, o5, o6, o7, o8, o9, o10, o11, o12, o13, o14, o15] := by
  refine forL_ind (fun _ ρ S' => TK n S' ∧ ∃ o3 o4 o5 o6 o7 o8 o9 o10 o11 o12 o13 o14 o15, ρ = [o0, o1, some (.cel n), o3, o4, o5, o6, o7, o8, o9, o10, o11, o12, o13, o14, o15]) ?_ ?_ ds _ _ ⟨hT, _, _, _, _, _, _, _, _, _, _, _, _, _, rfl⟩
  · rintro d r ρ S1 ⟨hT1, o3, o4, o5, o6, o7, o8, o9, o10, o11, o12, o13, o14, o15, rfl⟩
    try simp only [s_cons, s_nil, s_ret', s_ite', s_asg', s_par', s_asgc', s_expr', s_raise', s_loop', s_for', s_app', g_tv', g_tt', gs_nil', gs_cons', g_ts', i_one', i_rng1', i_rng2', i_rng3', i_enum', enumI_lst, enumI_tup, i_zip', e_var, e_int, e_str, e_bl, e_non, e_bin, e_neg, e_not, e_cmp, e_chain, e_and, e_or, e_one, e_ife, e_tup, e_lst, e_ix, e_call, e_prim, e_isi, e_comp, e_sl, e_rev, e_upper, e_rep, e_dnew, e_dz, e_dix, e_din, e_lrng1, e_lrng2, e_word, w_ok, s_dset', GL_call, GL_glob, GL_fuel, GL_nf, optE_nil, optE_int, optE_neg, optE_var, optE_bin, a_nil', a_cons', end_nx, end_rt, fl_nx, fl_rt, trunc_same, tst_bl, getV0, getVs, R.bind_ok, R.bind_exc, R.bind_bad, R.ofO_some, R.ofO_none, view_int, view_bl, view_str, view_non, view_tup, view_lst, view_scr, isTy, b_add, b_addT, b_addL, b_sub, b_mul, b_mulT, b_fdiv, b_mod, b_addB, b_subB, b_mulB, pow12, pow18, pow31, pow6, c_eq3, c_lt, c_le, c_gt, c_ge, c_isN, c_notN, c_isB, c_notB, c_eqI, c_neI, t_bl, t_int, t_non, t_tup, t_lst, p_len_t, p_len_l, p_abs, p_int, p_all, p_any, p_tupL, p_tupT, p_lstT, p_lstL, p_max2, p_min2, x_tup, x_lst, n_int, it_tup, it_lst, sl_tup, sl_lst, at0, at1, at2, sl1, sl2, zipI, mkC_ok, mkL_f, w_nil, w_cons, bs_nil, bs_cons, List.all_cons, List.all_nil, id_eq, Bool.and_true, Bool.and_self, Bool.false_and, Bool.and_false, Bool.or_false, Bool.false_or, Bool.true_and, Bool.or_true, Bool.true_or, List.zipWith_cons_cons, List.zipWith_nil_right, List.zipWith_nil_left, decide_true, decide_false, l0, l1, l2, l3, if_true, List.reverse_cons, List.reverse_nil, nn_non, nn_int, nn_bl, nn_str, nn_tup, nn_lst, tlen, ite_and, ite_and', ite_or, Option.map_some, List.map_cons, List.map_nil, List.length_cons, List.length_nil, List.cons_append, List.nil_append, List.replicate, List.set_cons_zero, List.set_cons_succ, Nat.reduceSub, Nat.reduceAdd, Nat.reduceLeDiff, Nat.zero_le, Bool.not_true, Bool.not_false, ↓reduceIte, Bool.false_eq_true, Ok_ok, Ok_bind, Ok_tst, Ok_mkC, Ok_mkLf, Ok_mkLt]
    refine (turn_run k n S1 hT1 _ _ _ _ _ _ _ _ _ _ _ _ _ _ _).mono fun f S2 h => ?_
    obtain ⟨hT2, o4, o5, o6, o7, o8, o9, o10, o11, o12, o13, o14, o15, rfl⟩ := h
    exact ⟨hT2, _, _, _, _, _, _, _, _, _, _, _, _, _, rfl⟩
  · rintro ρ S1 ⟨hT1, o3, o4, o5, o6, o7, o8, o9, o10, o11, o12, o13, o14, o15, rfl⟩
    exact ⟨hT1, _, _, _, _, _, _, _, _, _, _, _, _, _, rfl⟩
theorem TK.ts {n : Nat} {S : Store} (h : TK n S) : TS S := h.mem
theorem TS.bel {S : Store} (h : TS S) (k : Nat) : S.all (belowO k) = true := by
  rw [List.all_eq_true]; exact fun o ho => (h o ho).below k
theorem cells (k : Nat) (S : Store) (hS : TS S) (ns : List Int) (o1 o2 o3 o4 o5 o6 o7 o8 o9 o10 o11 o12 o13 o14 o15 : Option Ev.D) (ds : List Ev.D) (hd : ∀ d ∈ ds, ∃ i : Nat, d = .int i ∧ i < 100) :
    Ok (forL (evG (GL (k + 6)) (.tv 1)) (evS (GL (k + 6)) cellB) ds [some (.scr ns), o1, o2, o3, o4, o5, o6, o7, o8, o9, o10, o11, o12, o13, o14, o15] S) fun f S' => TS S' ∧ ∃ o1 o2 o3 o4 o5 o6 o7 o8 o9 o10 o11 o12 o13 o14 o15, f = .nx [some (.scr ns), o1, o2, o3, o4, o5, o6, o7, o8, o9, o10, o11, o12, o13, o14, o15] := by
  refine forL_ind (fun r ρ S' => (∀ d ∈ r, ∃ i : Nat, d = .int i ∧ i < 100) ∧ TS S' ∧ ∃ o1 o2 o3 o4 o5 o6 o7 o8 o9 o10 o11 o12 o13 o14 o15, ρ = [some (.scr ns), o1, o2, o3, o4, o5, o6, o7, o8, o9, o10, o11, o12, o13, o14, o15]) ?_ ?_ ds _ _ ⟨hd, hS, _, _, _, _, _, _, _, _, _, _, _, _, _, _, _, rfl⟩
  · rintro d r ρ S1 ⟨hr, hS1, o1, o2, o3, o4, o5, o6, o7, o8, o9, o10, o11, o12, o13, o14, o15, rfl⟩
    obtain ⟨i, rfl, hi⟩ := hr d List.mem_cons_self
    try simp only [cell_eq, s_cons, s_nil, s_ret', s_ite', s_asg', s_par', s_asgc', s_expr', s_raise', s_loop', s_for', s_app', g_tv', g_tt', gs_nil', gs_cons', g_ts', i_one', i_rng1', i_rng2', i_rng3', i_enum', enumI_lst, enumI_tup, i_zip', e_var, e_int, e_str, e_bl, e_non, e_bin, e_neg, e_not, e_cmp, e_chain, e_and, e_or, e_one, e_ife, e_tup, e_lst, e_ix, e_call, e_prim, e_isi, e_comp, e_sl, e_rev, e_upper, e_rep, e_dnew, e_dz, e_dix, e_din, e_lrng1, e_lrng2, e_word, w_ok, s_dset', GL_call, GL_glob, GL_fuel, GL_nf, optE_nil, optE_int, optE_neg, optE_var, optE_bin, a_nil', a_cons', end_nx, end_rt, fl_nx, fl_rt, trunc_same, tst_bl, getV0, getVs, R.bind_ok, R.bind_exc, R.bind_bad, R.ofO_some, R.ofO_none, view_int, view_bl, view_str, view_non, view_tup, view_lst, view_scr, isTy, b_add, b_addT, b_addL, b_sub, b_mul, b_mulT, b_fdiv, b_mod, b_addB, b_subB, b_mulB, pow12, pow18, pow31, pow6, c_eq3, c_lt, c_le, c_gt, c_ge, c_isN, c_notN, c_isB, c_notB, c_eqI, c_neI, t_bl, t_int, t_non, t_tup, t_lst, p_len_t, p_len_l, p_abs, p_int, p_all, p_any, p_tupL, p_tupT, p_lstT, p_lstL, p_max2, p_min2, x_tup, x_lst, n_int, it_tup, it_lst, sl_tup, sl_lst, at0, at1, at2, sl1, sl2, zipI, mkC_ok, mkL_f, w_nil, w_cons, bs_nil, bs_cons, List.all_cons, List.all_nil, id_eq, Bool.and_true, Bool.and_self, Bool.false_and, Bool.and_false, Bool.or_false, Bool.false_or, Bool.true_and, Bool.or_true, Bool.true_or, List.zipWith_cons_cons, List.zipWith_nil_right, List.zipWith_nil_left, decide_true, decide_false, l0, l1, l2, l3, if_true, List.reverse_cons, List.reverse_nil, nn_non, nn_int, nn_bl, nn_str, nn_tup, nn_lst, tlen, ite_and, ite_and', ite_or, Option.map_some, List.map_cons, List.map_nil, List.length_cons, List.length_nil, List.cons_append, List.nil_append, List.replicate, List.set_cons_zero, List.set_cons_succ, Nat.reduceSub, Nat.reduceAdd, Nat.reduceLeDiff, Nat.zero_le, Bool.not_true, Bool.not_false, ↓reduceIte, Bool.false_eq_true, Ok_ok, Ok_bind, Ok_tst, Ok_mkC, Ok_mkLf, Ok_mkLt]
    refine (tank_run (k + 5) S1 ns i hi hS1).mono fun d S2 h => ?_
    obtain ⟨rfl, hT2⟩ := h
    try simp only [s_cons, s_nil, s_ret', s_ite', s_asg', s_par', s_asgc', s_expr', s_raise', s_loop', s_for', s_app', g_tv', g_tt', gs_nil', gs_cons', g_ts', i_one', i_rng1', i_rng2', i_rng3', i_enum', enumI_lst, enumI_tup, i_zip', e_var, e_int, e_str, e_bl, e_non, e_bin, e_neg, e_not, e_cmp, e_chain, e_and, e_or, e_one, e_ife, e_tup, e_lst, e_ix, e_call, e_prim, e_isi, e_comp, e_sl, e_rev, e_upper, e_rep, e_dnew, e_dz, e_dix, e_din, e_lrng1, e_lrng2, e_word, w_ok, s_dset', GL_call, GL_glob, GL_fuel, GL_nf, optE_nil, optE_int, optE_neg, optE_var, optE_bin, a_nil', a_cons', end_nx, end_rt, fl_nx, fl_rt, trunc_same, tst_bl, getV0, getVs, R.bind_ok, R.bind_exc, R.bind_bad, R.ofO_some, R.ofO_none, view_int, view_bl, view_str, view_non, view_tup, view_lst, view_scr, isTy, b_add, b_addT, b_addL, b_sub, b_mul, b_mulT, b_fdiv, b_mod, b_addB, b_subB, b_mulB, pow12, pow18, pow31, pow6, c_eq3, c_lt, c_le, c_gt, c_ge, c_isN, c_notN, c_isB, c_notB, c_eqI, c_neI, t_bl, t_int, t_non, t_tup, t_lst, p_len_t, p_len_l, p_abs, p_int, p_all, p_any, p_tupL, p_tupT, p_lstT, p_lstL, p_max2, p_min2, x_tup, x_lst, n_int, it_tup, it_lst, sl_tup, sl_lst, at0, at1, at2, sl1, sl2, zipI, mkC_ok, mkL_f, w_nil, w_cons, bs_nil, bs_cons, List.all_cons, List.all_nil, id_eq, Bool.and_true, Bool.and_self, Bool.false_and, Bool.and_false, Bool.or_false, Bool.false_or, Bool.true_and, Bool.or_true, Bool.true_or, List.zipWith_cons_cons, List.zipWith_nil_right, List.zipWith_nil_left, decide_true, decide_false, l0, l1, l2, l3, if_true, List.reverse_cons, List.reverse_nil, nn_non, nn_int, nn_bl, nn_str, nn_tup, nn_lst, tlen, ite_and, ite_and', ite_or, Option.map_some, List.map_cons, List.map_nil, List.length_cons, List.length_nil, List.cons_append, List.nil_append, List.replicate, List.set_cons_zero, List.set_cons_succ, Nat.reduceSub, Nat.reduceAdd, Nat.reduceLeDiff, Nat.zero_le, Bool.not_true, Bool.not_false, ↓reduceIte, Bool.false_eq_true, Ok_ok, Ok_bind, Ok_tst, Ok_mkC, Ok_mkLf, Ok_mkLt, rngI_ok (show (0 : Int) ≤ 6 by decide) (show (6 : Int) < 1000000 by decide)]
    refine (turns k _ S2 hT2 _ _ _ _ _ _ _ _ _ _ _ _ _ _ _ _).mono fun f S3 h => ?_
    obtain ⟨hT3, o3, o4, o5, o6, o7, o8, o9, o10, o11, o12, o13, o14, o15, rfl⟩ := h
    try simp only [s_cons, s_nil, s_ret', s_ite', s_asg', s_par', s_asgc', s_expr', s_raise', s_loop', s_for', s_app', g_tv', g_tt', gs_nil', gs_cons', g_ts', i_one', i_rng1', i_rng2', i_rng3', i_enum', enumI_lst, enumI_tup, i_zip', e_var, e_int, e_str, e_bl, e_non, e_bin, e_neg, e_not, e_cmp, e_chain, e_and, e_or, e_one, e_ife, e_tup, e_lst, e_ix, e_call, e_prim, e_isi, e_comp, e_sl, e_rev, e_upper, e_rep, e_dnew, e_dz, e_dix, e_din, e_lrng1, e_lrng2, e_word, w_ok, s_dset', GL_call, GL_glob, GL_fuel, GL_nf, optE_nil, optE_int, optE_neg, optE_var, optE_bin, a_nil', a_cons', end_nx, end_rt, fl_nx, fl_rt, trunc_same, tst_bl, getV0, getVs, R.bind_ok, R.bind_exc, R.bind_bad, R.ofO_some, R.ofO_none, view_int, view_bl, view_str, view_non, view_tup, view_lst, view_scr, isTy, b_add, b_addT, b_addL, b_sub, b_mul, b_mulT, b_fdiv, b_mod, b_addB, b_subB, b_mulB, pow12, pow18, pow31, pow6, c_eq3, c_lt, c_le, c_gt, c_ge, c_isN, c_notN, c_isB, c_notB, c_eqI, c_neI, t_bl, t_int, t_non, t_tup, t_lst, p_len_t, p_len_l, p_abs, p_int, p_all, p_any, p_tupL, p_tupT, p_lstT, p_lstL, p_max2, p_min2, x_tup, x_lst, n_int, it_tup, it_lst, sl_tup, sl_lst, at0, at1, at2, sl1, sl2, zipI, mkC_ok, mkL_f, w_nil, w_cons, bs_nil, bs_cons, List.all_cons, List.all_nil, id_eq, Bool.and_true, Bool.and_self, Bool.false_and, Bool.and_false, Bool.or_false, Bool.false_or, Bool.true_and, Bool.or_true, Bool.true_or, List.zipWith_cons_cons, List.zipWith_nil_right, List.zipWith_nil_left, decide_true, decide_false, l0, l1, l2, l3, if_true, List.reverse_cons, List.reverse_nil, nn_non, nn_int, nn_bl, nn_str, nn_tup, nn_lst, tlen, ite_and, ite_and', ite_or, Option.map_some, List.map_cons, List.map_nil, List.length_cons, List.length_nil, List.cons_append, List.nil_append, List.replicate, List.set_cons_zero, List.set_cons_succ, Nat.reduceSub, Nat.reduceAdd, Nat.reduceLeDiff, Nat.zero_le, Bool.not_true, Bool.not_false, ↓reduceIte, Bool.false_eq_true, Ok_ok, Ok_bind, Ok_tst, Ok_mkC, Ok_mkLf, Ok_mkLt]
    exact ⟨fun d hd => hr d (List.mem_cons_of_mem _ hd), TK.ts hT3, _, _, _, _, _, _, _, _, _, _, _, _, _, _, _, rfl⟩
  · rintro ρ S1 ⟨hr, hS1, o1, o2, o3, o4, o5, o6, o7, o8, o9, o10, o11, o12, o13, o14, o15, rfl⟩
    exact ⟨hS1, _, _, _, _, _, _, _, _, _, _, _, _, _, _, _, rfl⟩
theorem fr_lit {x : Rat} {a b : Int} (h1 : x.num = a) (h2 : (x.den : Int) = b) : fr x = .tup [.int a, .int b] := by rw [fr, h1, h2]
theorem tb_lit {x : Rat} (h : (decide (0 < x) && decide (x.num.natAbs < 2 ^ 19) && decide (x.den < 2 ^ 19)) = true) : Tb x := by
  simp only [Bool.and_eq_true, decide_eq_true_eq] at h
  exact Tb_of h.1.1 ⟨h.1.2, h.2⟩ (Nat.le_refl _)
theorem tl_lit {x : Rat} (h : (decide (0 < x) && decide (x.num.natAbs < 2 ^ 5) && decide (x.den < 2 ^ 5)) = true) : Tl x := by
  simp only [Bool.and_eq_true, decide_eq_true_eq] at h
  exact ⟨h.1.1, h.1.2, h.2⟩
theorem lits {xs : List Rat} (h : xs.all (fun x => decide (0 < x) && decide (x.num.natAbs < 2 ^ 19) && decide (x.den < 2 ^ 19)) = true) : ∀ x ∈ xs, Tb x := fun x hx => tb_lit (List.all_eq_true.1 h x hx)
section
variable (k : Nat) (S : Store) (hS : ∀ j, S.all (belowO j) = true)
include hS
theorem k1 : prg.run (k + 6) 10 [.int 3, .tup [.tup [.int 2, .int 1], .tup [.int 6, .int 1], .tup [.int 3, .int 1]]] S = .ok (.bl true) S := by
  have h := comes_run (k + 1) S (hS _) 3 (.inr (.inl rfl)) [2, 6, 3] rfl (lits (by decide +kernel))
  rw [show fwD 3 [2, 6, 3] = .non by show fw3 2 6 3 = _; unfold fw3; rw [if_pos (by decide +kernel)]] at h
  simp only [List.map_cons, List.map_nil, show fr 2 = .tup [.int 2, .int 1] from fr_lit (by decide +kernel) (by decide +kernel), show fr 6 = .tup [.int 6, .int 1] from fr_lit (by decide +kernel) (by decide +kernel), show fr 3 = .tup [.int 3, .int 1] from fr_lit (by decide +kernel) (by decide +kernel)] at h
  exact h
theorem k2 : prg.run (k + 6) 11 [.int 2, .tup [.tup [.int 7, .int 3]]] S = .ok .non S := by
  have h := ring_run (k + 1) S (hS _) 2 (.inl rfl) [7 / 3] rfl (lits (by decide +kernel))
  simp only [List.map_cons, List.map_nil, show fr (7 / 3) = .tup [.int 7, .int 3] from fr_lit (by decide +kernel) (by decide +kernel)] at h
  exact h
theorem k3 : prg.run (k + 6) 11 [.int 4, .tup [.tup [.int 2, .int 1], .tup [.int 6, .int 1], .tup [.int 1, .int 1], .tup [.int 3, .int 1], .tup [.int 1, .int 2], .tup [.int 1, .int 5]]] S = .ok (.tup [.int 0, .int 2, .int 3]) S := by
  have h := ring_run (k + 1) S (hS _) 4 (.inr (.inr rfl)) [2, 6, 1, 3, 1 / 2, 1 / 5] rfl (lits (by decide +kernel))
  rw [show fwD 4 [2, 6, 1, 3, 1 / 2, 1 / 5] = .tup [.int 0, .int 2, .int 3] by show fw4 2 6 1 3 (1 / 2) (1 / 5) = _; unfold fw4; rw [if_pos (by decide +kernel), if_pos (by decide +kernel), if_neg (by decide +kernel)]] at h
  simp only [List.map_cons, List.map_nil, show fr 2 = .tup [.int 2, .int 1] from fr_lit (by decide +kernel) (by decide +kernel), show fr 6 = .tup [.int 6, .int 1] from fr_lit (by decide +kernel) (by decide +kernel), show fr 3 = .tup [.int 3, .int 1] from fr_lit (by decide +kernel) (by decide +kernel), show fr 1 = .tup [.int 1, .int 1] from fr_lit (by decide +kernel) (by decide +kernel), show fr (1 / 2) = .tup [.int 1, .int 2] from fr_lit (by decide +kernel) (by decide +kernel), show fr (1 / 5) = .tup [.int 1, .int 5] from fr_lit (by decide +kernel) (by decide +kernel)] at h
  exact h
theorem k4 : prg.run (k + 6) 11 [.int 3, .tup [.tup [.int 2, .int 1], .tup [.int 5, .int 1], .tup [.int 3, .int 1]]] S = .ok (.tup [.int 0, .int 1, .int 2]) S := by
  have h := ring_run (k + 1) S (hS _) 3 (.inr (.inl rfl)) [2, 5, 3] rfl (lits (by decide +kernel))
  rw [show fwD 3 [2, 5, 3] = .tup [.int 0, .int 1, .int 2] by show fw3 2 5 3 = _; unfold fw3; rw [if_neg (by decide +kernel)]] at h
  simp only [List.map_cons, List.map_nil, show fr 2 = .tup [.int 2, .int 1] from fr_lit (by decide +kernel) (by decide +kernel), show fr 5 = .tup [.int 5, .int 1] from fr_lit (by decide +kernel) (by decide +kernel), show fr 3 = .tup [.int 3, .int 1] from fr_lit (by decide +kernel) (by decide +kernel)] at h
  exact h
end
theorem k5 (k : Nat) (S : Store) : prg.run (k + 6) 12 [.tup [.tup [.int 6, .int 1], .tup [.int 3, .int 1], .tup [.int 1, .int 2]]] S = .ok (.tup [.tup [.int 2, .int 1], .tup [.int 12, .int 1], .tup [.int 6, .int 1]]) S := by
  have h := table_run (k + 3) S 3 (.inr (.inl rfl)) [6, 3, 1 / 2] rfl (fun x hx => by
    simp only [List.mem_cons, List.not_mem_nil, or_false] at hx
    rcases hx with rfl | rfl | rfl <;> exact tl_lit (by decide +kernel))
  have e : dueL [6, 3, 1 / 2] = [2, 12, 6] := by show [_, _, _] = _; decide +kernel
  rw [e] at h
  simp only [List.map_cons, List.map_nil, show fr 2 = .tup [.int 2, .int 1] from fr_lit (by decide +kernel) (by decide +kernel), show fr 6 = .tup [.int 6, .int 1] from fr_lit (by decide +kernel) (by decide +kernel), show fr 3 = .tup [.int 3, .int 1] from fr_lit (by decide +kernel) (by decide +kernel), show fr 12 = .tup [.int 12, .int 1] from fr_lit (by decide +kernel) (by decide +kernel), show fr (1 / 2) = .tup [.int 1, .int 2] from fr_lit (by decide +kernel) (by decide +kernel)] at h
  exact h
theorem tail_run (k : Nat) (S : Store) (hS : TS S) (o0 o1 o2 o3 o4 o5 o6 o7 o8 o9 o10 o11 o12 o13 o14 o15 : Option Ev.D) :
    Ok (evS (GL (k + 6)) tailB [o0, o1, o2, o3, o4, o5, o6, o7, o8, o9, o10, o11, o12, o13, o14, o15] S) fun f S' => f = .rt (.bl true) := by
  have hB := TS.bel hS
  have r := refused_run k S
  have e1 := k1 k S hB
  have e2 := k2 k S hB
  have e3 := k3 k S hB
  have e4 := k4 k S hB
  have e5 := k5 k S
  have t1 := is_table_run (k + 1) 3 S 3 (.inr (.inl rfl)) (.tup [.tup [.int 2, .int 1], .tup [.int 6, .int 1], .tup [.int 3, .int 1]]) rfl
  rw [show isTab 3 (.tup [.tup [.int 2, .int 1], .tup [.int 6, .int 1], .tup [.int 3, .int 1]]) = true by decide +kernel] at t1
  have t2 := is_table_run (k + 1) 3 S 3 (.inr (.inl rfl)) (.tup [.tup [.int 2, .int 1], .tup [.int 6, .int 1]]) rfl
  rw [show isTab 3 (.tup [.tup [.int 2, .int 1], .tup [.int 6, .int 1]]) = false by decide +kernel] at t2
  have t3 := is_table_run (k + 1) 3 S 2 (.inl rfl) (.tup [.tup [.int 1000000, .int 1]]) rfl
  rw [show isTab 2 (.tup [.tup [.int 1000000, .int 1]]) = true by decide +kernel] at t3
  have t4 := is_table_run (k + 1) 3 S 2 (.inl rfl) (.tup [.tup [.int 1000001, .int 1]]) rfl
  rw [show isTab 2 (.tup [.tup [.int 1000001, .int 1]]) = false by decide +kernel] at t4
  have n1 := c_ne_same (S := S) (d := .lst [.bl true, .bl false]) rfl
  have n2 := c_ne_same (S := S) (d := .tup [.int 0, .int 2, .int 3]) rfl
  have n3 := c_ne_same (S := S) (d := .tup [.int 0, .int 1, .int 2]) rfl
  have n4 := c_eq_same (S := S) (d := .tup [.tup [.int 2, .int 1], .tup [.int 12, .int 1], .tup [.int 6, .int 1]]) rfl
  try simp (config := { maxSteps := 1000000 }) only [tailB, s_cons, s_nil, s_ret', s_ite', s_asg', s_par', s_asgc', s_expr', s_raise', s_loop', s_for', s_app', g_tv', g_tt', gs_nil', gs_cons', g_ts', i_one', i_rng1', i_rng2', i_rng3', i_enum', enumI_lst, enumI_tup, i_zip', e_var, e_int, e_str, e_bl, e_non, e_bin, e_neg, e_not, e_cmp, e_chain, e_and, e_or, e_one, e_ife, e_tup, e_lst, e_ix, e_call, e_prim, e_isi, e_comp, e_sl, e_rev, e_upper, e_rep, e_dnew, e_dz, e_dix, e_din, e_lrng1, e_lrng2, e_word, w_ok, s_dset', GL_call, GL_glob, GL_fuel, GL_nf, optE_nil, optE_int, optE_neg, optE_var, optE_bin, a_nil', a_cons', end_nx, end_rt, fl_nx, fl_rt, trunc_same, tst_bl, getV0, getVs, R.bind_ok, R.bind_exc, R.bind_bad, R.ofO_some, R.ofO_none, view_int, view_bl, view_str, view_non, view_tup, view_lst, view_scr, isTy, b_add, b_addT, b_addL, b_sub, b_mul, b_fdiv, b_mod, b_addB, b_subB, b_mulB, pow12, pow18, pow31, pow6, c_eq3, c_lt, c_le, c_gt, c_ge, c_isN, c_notN, c_isB, c_notB, c_eqI, c_neI, t_bl, t_int, t_non, t_tup, t_lst, p_len_t, p_len_l, p_abs, p_int, p_all, p_any, p_tupL, p_tupT, p_lstT, p_lstL, p_max2, p_min2, x_tup, x_lst, n_int, it_tup, it_lst, sl_tup, sl_lst, at0, at1, at2, sl1, sl2, zipI, mkC_ok, mkL_f, w_nil, w_cons, bs_nil, bs_cons, List.all_cons, List.all_nil, id_eq, Bool.and_true, Bool.and_self, Bool.false_and, Bool.and_false, Bool.or_false, Bool.false_or, Bool.true_and, Bool.or_true, Bool.true_or, List.zipWith_cons_cons, List.zipWith_nil_right, List.zipWith_nil_left, decide_true, decide_false, l0, l1, l2, l3, if_true, List.reverse_cons, List.reverse_nil, nn_non, nn_int, nn_bl, nn_str, nn_tup, nn_lst, tlen, ite_and, ite_and', ite_or, Option.map_some, List.map_cons, List.map_nil, List.length_cons, List.length_nil, List.cons_append, List.nil_append, List.replicate, List.set_cons_zero, List.set_cons_succ, Nat.reduceSub, Nat.reduceAdd, Nat.reduceLeDiff, Nat.zero_le, Bool.not_true, Bool.not_false, ↓reduceIte, Bool.false_eq_true, Ok_ok, Ok_bind, Ok_tst, Ok_mkC, Ok_mkLf, Ok_mkLt, r, e1, e2, e3, e4, e5, t1, t2, t3, t4, n1, n2, n3, n4, beq_self_eq_true, show (1000000 : Int) + 1 = 1000001 by decide]
theorem law_run (ns : List Int) (hl : ns.length ≤ 63) : Ok (prg.run 20 22 [.scr ns] []) fun d _ => d = .bl true := by
  rw [run_succ 19 22 _ rfl]
  refine Ok_fn rfl ?_
  have hj : ∃ J : Int, (if (if (ns.length : Int) + 4 < 16 then (ns.length : Int) + 4 else 16) > 5 then (if (ns.length : Int) + 4 < 16 then (ns.length : Int) + 4 else 16) else 5) = J ∧ 0 ≤ J ∧ J < 100 := by
    refine ⟨_, rfl, ?_, ?_⟩ <;> (split <;> (try split) <;> omega)
  obtain ⟨J, hJ, j0, j1⟩ := hj
  try simp only [law_eq, s_cons, s_nil, s_ret', s_ite', s_asg', s_par', s_asgc', s_expr', s_raise', s_loop', s_for', s_app', g_tv', g_tt', gs_nil', gs_cons', g_ts', i_one', i_rng1', i_rng2', i_rng3', i_enum', enumI_lst, enumI_tup, i_zip', e_var, e_int, e_str, e_bl, e_non, e_bin, e_neg, e_not, e_cmp, e_chain, e_and, e_or, e_one, e_ife, e_tup, e_lst, e_ix, e_call, e_prim, e_isi, e_comp, e_sl, e_rev, e_upper, e_rep, e_dnew, e_dz, e_dix, e_din, e_lrng1, e_lrng2, e_word, w_ok, s_dset', GL_call, GL_glob, GL_fuel, GL_nf, optE_nil, optE_int, optE_neg, optE_var, optE_bin, a_nil', a_cons', end_nx, end_rt, fl_nx, fl_rt, trunc_same, tst_bl, getV0, getVs, R.bind_ok, R.bind_exc, R.bind_bad, R.ofO_some, R.ofO_none, view_int, view_bl, view_str, view_non, view_tup, view_lst, view_scr, isTy, b_add, b_addT, b_addL, b_sub, b_mul, b_mulT, b_fdiv, b_mod, b_addB, b_subB, b_mulB, pow12, pow18, pow31, pow6, c_eq3, c_lt, c_le, c_gt, c_ge, c_isN, c_notN, c_isB, c_notB, c_eqI, c_neI, t_bl, t_int, t_non, t_tup, t_lst, p_len_t, p_len_l, p_abs, p_int, p_all, p_any, p_tupL, p_tupT, p_lstT, p_lstL, p_max2, p_min2, x_tup, x_lst, n_int, it_tup, it_lst, sl_tup, sl_lst, at0, at1, at2, sl1, sl2, zipI, mkC_ok, mkL_f, w_nil, w_cons, bs_nil, bs_cons, List.all_cons, List.all_nil, id_eq, Bool.and_true, Bool.and_self, Bool.false_and, Bool.and_false, Bool.or_false, Bool.false_or, Bool.true_and, Bool.or_true, Bool.true_or, List.zipWith_cons_cons, List.zipWith_nil_right, List.zipWith_nil_left, decide_true, decide_false, l0, l1, l2, l3, if_true, List.reverse_cons, List.reverse_nil, nn_non, nn_int, nn_bl, nn_str, nn_tup, nn_lst, tlen, ite_and, ite_and', ite_or, Option.map_some, List.map_cons, List.map_nil, List.length_cons, List.length_nil, List.cons_append, List.nil_append, List.replicate, List.set_cons_zero, List.set_cons_succ, Nat.reduceSub, Nat.reduceAdd, Nat.reduceLeDiff, Nat.zero_le, Bool.not_true, Bool.not_false, ↓reduceIte, Bool.false_eq_true, Ok_ok, Ok_bind, Ok_tst, Ok_mkC, Ok_mkLf, Ok_mkLt, p_len_s, hJ, rngI_ok j0 (show J < 1000000 by omega)]
  refine (cells 13 [] (fun o ho => absurd ho List.not_mem_nil) ns _ _ _ _ _ _ _ _ _ _ _ _ _ _ _ _ fun d hd => ?_).mono fun f S1 h => ?_
  · obtain ⟨i, rfl, hi⟩ := mem_rng hd
    exact ⟨i, rfl, by omega⟩
  obtain ⟨hS1, o1, o2, o3, o4, o5, o6, o7, o8, o9, o10, o11, o12, o13, o14, o15, rfl⟩ := h
  try simp only [s_cons, s_nil, s_ret', s_ite', s_asg', s_par', s_asgc', s_expr', s_raise', s_loop', s_for', s_app', g_tv', g_tt', gs_nil', gs_cons', g_ts', i_one', i_rng1', i_rng2', i_rng3', i_enum', enumI_lst, enumI_tup, i_zip', e_var, e_int, e_str, e_bl, e_non, e_bin, e_neg, e_not, e_cmp, e_chain, e_and, e_or, e_one, e_ife, e_tup, e_lst, e_ix, e_call, e_prim, e_isi, e_comp, e_sl, e_rev, e_upper, e_rep, e_dnew, e_dz, e_dix, e_din, e_lrng1, e_lrng2, e_word, w_ok, s_dset', GL_call, GL_glob, GL_fuel, GL_nf, optE_nil, optE_int, optE_neg, optE_var, optE_bin, a_nil', a_cons', end_nx, end_rt, fl_nx, fl_rt, trunc_same, tst_bl, getV0, getVs, R.bind_ok, R.bind_exc, R.bind_bad, R.ofO_some, R.ofO_none, view_int, view_bl, view_str, view_non, view_tup, view_lst, view_scr, isTy, b_add, b_addT, b_addL, b_sub, b_mul, b_mulT, b_fdiv, b_mod, b_addB, b_subB, b_mulB, pow12, pow18, pow31, pow6, c_eq3, c_lt, c_le, c_gt, c_ge, c_isN, c_notN, c_isB, c_notB, c_eqI, c_neI, t_bl, t_int, t_non, t_tup, t_lst, p_len_t, p_len_l, p_abs, p_int, p_all, p_any, p_tupL, p_tupT, p_lstT, p_lstL, p_max2, p_min2, x_tup, x_lst, n_int, it_tup, it_lst, sl_tup, sl_lst, at0, at1, at2, sl1, sl2, zipI, mkC_ok, mkL_f, w_nil, w_cons, bs_nil, bs_cons, List.all_cons, List.all_nil, id_eq, Bool.and_true, Bool.and_self, Bool.false_and, Bool.and_false, Bool.or_false, Bool.false_or, Bool.true_and, Bool.or_true, Bool.true_or, List.zipWith_cons_cons, List.zipWith_nil_right, List.zipWith_nil_left, decide_true, decide_false, l0, l1, l2, l3, if_true, List.reverse_cons, List.reverse_nil, nn_non, nn_int, nn_bl, nn_str, nn_tup, nn_lst, tlen, ite_and, ite_and', ite_or, Option.map_some, List.map_cons, List.map_nil, List.length_cons, List.length_nil, List.cons_append, List.nil_append, List.replicate, List.set_cons_zero, List.set_cons_succ, Nat.reduceSub, Nat.reduceAdd, Nat.reduceLeDiff, Nat.zero_le, Bool.not_true, Bool.not_false, ↓reduceIte, Bool.false_eq_true, Ok_ok, Ok_bind, Ok_tst, Ok_mkC, Ok_mkLf, Ok_mkLt]
  refine (tail_run 13 S1 hS1 _ _ _ _ _ _ _ _ _ _ _ _ _ _ _ _).mono fun f S2 h => ?_
  subst h
  try simp only [s_cons, s_nil, s_ret', s_ite', s_asg', s_par', s_asgc', s_expr', s_raise', s_loop', s_for', s_app', g_tv', g_tt', gs_nil', gs_cons', g_ts', i_one', i_rng1', i_rng2', i_rng3', i_enum', enumI_lst, enumI_tup, i_zip', e_var, e_int, e_str, e_bl, e_non, e_bin, e_neg, e_not, e_cmp, e_chain, e_and, e_or, e_one, e_ife, e_tup, e_lst, e_ix, e_call, e_prim, e_isi, e_comp, e_sl, e_rev, e_upper, e_rep, e_dnew, e_dz, e_dix, e_din, e_lrng1, e_lrng2, e_word, w_ok, s_dset', GL_call, GL_glob, GL_fuel, GL_nf, optE_nil, optE_int, optE_neg, optE_var, optE_bin, a_nil', a_cons', end_nx, end_rt, fl_nx, fl_rt, trunc_same, tst_bl, getV0, getVs, R.bind_ok, R.bind_exc, R.bind_bad, R.ofO_some, R.ofO_none, view_int, view_bl, view_str, view_non, view_tup, view_lst, view_scr, isTy, b_add, b_addT, b_addL, b_sub, b_mul, b_mulT, b_fdiv, b_mod, b_addB, b_subB, b_mulB, pow12, pow18, pow31, pow6, c_eq3, c_lt, c_le, c_gt, c_ge, c_isN, c_notN, c_isB, c_notB, c_eqI, c_neI, t_bl, t_int, t_non, t_tup, t_lst, p_len_t, p_len_l, p_abs, p_int, p_all, p_any, p_tupL, p_tupT, p_lstT, p_lstL, p_max2, p_min2, x_tup, x_lst, n_int, it_tup, it_lst, sl_tup, sl_lst, at0, at1, at2, sl1, sl2, zipI, mkC_ok, mkL_f, w_nil, w_cons, bs_nil, bs_cons, List.all_cons, List.all_nil, id_eq, Bool.and_true, Bool.and_self, Bool.false_and, Bool.and_false, Bool.or_false, Bool.false_or, Bool.true_and, Bool.or_true, Bool.true_or, List.zipWith_cons_cons, List.zipWith_nil_right, List.zipWith_nil_left, decide_true, decide_false, l0, l1, l2, l3, if_true, List.reverse_cons, List.reverse_nil, nn_non, nn_int, nn_bl, nn_str, nn_tup, nn_lst, tlen, ite_and, ite_and', ite_or, Option.map_some, List.map_cons, List.map_nil, List.length_cons, List.length_nil, List.cons_append, List.nil_append, List.replicate, List.set_cons_zero, List.set_cons_succ, Nat.reduceSub, Nat.reduceAdd, Nat.reduceLeDiff, Nat.zero_le, Bool.not_true, Bool.not_false, ↓reduceIte, Bool.false_eq_true, Ok_ok, Ok_bind, Ok_tst, Ok_mkC, Ok_mkLf, Ok_mkLt]
  exact .inr (.inl ⟨rfl, by simp, trivial⟩)
theorem all_run : ∀ ns : List Int, ns.length ≤ 63 → ∃ S, prg.run 20 22 [.scr ns] [] = .ok (.bl true) S := fun ns h => by
  obtain ⟨d, S, e, rfl⟩ := Ok_iff.1 (law_run ns h)
  exact ⟨S, e⟩
end K10
end
set_option maxRecDepth 100000 in
theorem PySem.Challenge.cw_oddsuntold_k10_tables_of_odds_holds : PySem.Challenge.rw_oddsuntold_k10_tables_of_odds.Holds := by
  exact K10.holds_of K10.all_run
