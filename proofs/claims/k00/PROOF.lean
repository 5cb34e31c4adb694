import PyProof.Rows.All
import Wide.All
import OpenK.AllK
import Wide.FinOn
import HandS.ForMost
import HandS.Walk
import HandS.Zip
import HandS.Exc
import HandS.TryOnly
import HandS.TryMany
import HandS.CallLocal
import HandS.CallSlots
import HandS.Wide
import HandS.WordsExc
import HandS.TupAny
import HandS.Style
import HandS.IsInst
import HandS.RaiseMore
import KE.DataMinMax
import KE.DataAny
import KE.KTupSum
import PyProof.WalksMore
import KE.DataFind
import HandS.SetFor
import HandS.Strs
import KE.SortData
import KE.GoesMore
import KE.GoesEnum
import HandS.Defaults
import HandS.HeadEnd
import HandS.HeadHook4
import HandS.Head0
import HandS.Head1
import HandS.Head2
import HandS.HeadHook1
import HandS.HeadHook2
import PySem.Challenge.RW_umbraroads_k00_whole_integers_of_rows
set_option Elab.async false
set_option linter.all false
set_option maxRecDepth 100000
/-! Ev0: a small language of values and its evaluator. -/
namespace Ev
open PySem

inductive Val where
  | non | bl (b : Bool) | int (i : Int) | str (x : Str) | fn (j : Nat) | tup (vs : List Val) | lst (vs : List Val) | rat (n d : Int) | scr (vs : List Int)

inductive Bop where | add | sub | mul | fdiv | mod
inductive Cop where | eq | ne | lt | le | gt | ge | isn | isnn
inductive Bif where | len | abs | min | max | sum | all | any | tuple | list | int | str | sorted | sortset
inductive Mth where | count | join
inductive Ty where | int | bool | str | list | tuple

/-- targets -/
inductive Tg where | one (i : Nat) | tup (is : List Nat)

mutual
inductive E where
  | var (i : Nat) | fn (j : Nat) | non | bl (b : Bool) | int (i : Int) | str (s : Str)
  | bin (o : Bop) (a b : E) | neg (a : E) | not_ (a : E) | bop (isAnd : Bool) (es : Es)
  | cmp (o : Cop) (a b : E) | chain (o1 o2 : Cop) (a b c : E) | ite (c a b : E)
  | call (j : Nat) (es : Es) | callv (i : Nat) (es : Es) | bfn (b : Bif) (es : Es) | meth (m : Mth) (o : E) (es : Es)
  | isi (a : E) (ts : List Ty) | idx (a i : E) | slc (a : E) (lo hi : Oe) | rev (a : E)
  | tup (es : Es) | lst (es : Es) | comp (elt : E) (t : Tg) (it : It) (c : Oe) | comp2 (elt : E) (t : Tg) (it : It) (c : Oe) (t2 : Tg) (it2 : It) (c2 : Oe)
inductive Es where
  | nil | cons (e : E) (es : Es)
inductive Oe where
  | no | yes (e : E)
inductive It where
  | seq (e : E) | rng (es : Es) | enum (e : E) | zip (es : Es)
end

mutual
inductive S where
  | set (i : Nat) (e : E) | par (is : List Nat) (es : Es) | unp (is : List Nat) (e : E) | put (x : Nat) (k e : E) | app (x : Nat) (e : E)
  | ife (c : E) (a b : Ss) | for_ (t : Tg) (it : It) (b : Ss) | whl (c : E) (b : Ss) | ret (e : E) | ex (e : E) | doc | try_ (b : Ss)
inductive Ss where
  | nil | cons (s : S) (ss : Ss)
end

/-- what a slot holds: nothing; a value; a list of its own; a list of its own that is walked -/
inductive Sl where
  | no | sh (lk : Bool) (v : Val) | ow (lk : Bool) (vs : List Val) | rd (lk : Bool) (vs : List Val)
abbrev Env := List Sl
def get : Env → Nat → Sl
  | [], _ => .no
  | s :: _, 0 => s
  | _ :: r, i + 1 => get r i
def put : Env → Nat → Sl → Env
  | [], _, _ => []
  | _ :: r, 0, s => s :: r
  | t :: r, i + 1, s => t :: put r i s

inductive R where
  | val (v : Val) | fresh (vs : List Val) | slot (i : Nat)
inductive Res (α : Type) where
  | ok (a : α) (ρ : Env) | exc (k : Nat) (p : Val) (ρ : Env) | stuck
inductive SRes where
  | next (ρ : Env) | ret (r : R) (ρ : Env) | exc (k : Nat) (p : Val) (ρ : Env) | stuck
inductive CRes where
  | ok (r : R) (outs : List Sl) | exc (k : Nat) (p : Val) | stuck
abbrev Call := Nat → List Sl → CRes

def peek : R → Env → Option Val
  | .val v, _ => some v
  | .fresh vs, _ => some (.lst vs)
  | .slot i, ρ => match get ρ i with
    | .no => none
    | .sh _ v => some v
    | .ow _ vs => some (.lst vs)
    | .rd _ vs => some (.lst vs)
def frz : R → Env → Option (Val × Env)
  | .val v, ρ => some (v, ρ)
  | .fresh vs, ρ => some (.lst vs, ρ)
  | .slot i, ρ => match get ρ i with
    | .no => none
    | .sh _ v => some (v, ρ)
    | .ow lk vs => some (.lst vs, put ρ i (.sh lk (.lst vs)))
    | .rd lk vs => some (.lst vs, put ρ i (.sh lk (.lst vs)))

/-! ### values -/
def isBl : Val → Option Bool
  | .bl b => some b
  | _ => none
def isInt : Val → Option Int
  | .int b => some b
  | _ => none
/-- intsOf of a list -/
def intsOf : List Val → Option (List Int)
  | [] => some []
  | .int i :: r => (intsOf r).map (i :: ·)
  | _ :: _ => none
def blsOf : List Val → Option (List Bool)
  | [] => some []
  | .bl i :: r => (blsOf r).map (i :: ·)
  | _ :: _ => none
def strsOf : List Val → Option (List Str)
  | [] => some []
  | .str i :: r => (strsOf r).map (i :: ·)
  | _ :: _ => none
mutual
/-- == of data (no rats, no defs) -/
def veq : Val → Val → Bool
  | .non, .non => true
  | .bl a, .bl b => a == b
  | .bl a, .int b => (if a then 1 else 0) == b
  | .int a, .bl b => a == (if b then 1 else 0)
  | .int a, .int b => a == b
  | .str a, .str b => a == b
  | .tup xs, .tup ys => veqs xs ys
  | .lst xs, .lst ys => veqs xs ys
  | _, _ => false
def veqs : List Val → List Val → Bool
  | [], [] => true
  | x :: xs, y :: ys => veq x y && veqs xs ys
  | _, _ => false
end
mutual
/-- plain data -/
def plain : Val → Bool
  | .non => true
  | .bl _ => true
  | .int _ => true
  | .str x => x.cps.all (· < 0x110000)
  | .tup xs => plains xs
  | .lst xs => plains xs
  | _ => false
def plains : List Val → Bool
  | [] => true
  | x :: xs => plain x && plains xs
end
mutual
def depth : Val → Nat
  | .tup xs => depths xs + 1
  | .lst xs => depths xs + 1
  | _ => 0
def depths : List Val → Nat
  | [] => 0
  | x :: xs => max (depth x) (depths xs)
end
def shaped (v : Val) : Bool := plain v && decide (depth v ≤ 40)

def line : Nat := 1000000
/-- a place of any sign -/
def nth {α : Type} : List α → Nat → Option α
  | [], _ => none
  | x :: _, 0 => some x
  | _ :: r, i + 1 => nth r i
def len {α : Type} : List α → Nat
  | [] => 0
  | _ :: r => len r + 1
def place (n : Nat) (i : Int) : Option Nat := if 0 ≤ i then (if i < n then some i.toNat else none) else if -(n : Int) ≤ i then some (i + n).toNat else none
def at_ {α : Type} (xs : List α) (i : Int) : Option α := (place (len xs) i).bind fun j => nth xs j
def upd_ {α : Type} : List α → Nat → α → List α
  | [], _, _ => []
  | _ :: r, 0, y => y :: r
  | x :: r, i + 1, y => x :: upd_ r i y
/-- a slice's bound -/
def sIx (n : Nat) (d : Nat) : Option Int → Nat
  | none => d
  | some i => if i < 0 then (i + n).toNat else min i.toNat n
def cut {α : Type} (xs : List α) (lo hi : Option Int) : List α := (xs.drop (sIx (len xs) 0 lo)).take (sIx (len xs) (len xs) hi - sIx (len xs) 0 lo)

def small (i : Int) : Bool := decide (i.natAbs < 2 ^ 64)
def mulOk (i j : Int) : Bool := small i || small j
def divOk (j : Int) : Bool := decide (0 < j) && decide (j < 1073741824)

def flat {α : Type} : List (List α) → List α
  | [] => []
  | x :: r => x ++ flat r
def rep {α : Type} : Nat → List α → List α
  | 0, _ => []
  | k + 1, xs => xs ++ rep k xs

def bin : Bop → Val → Val → Option R
  | .add, .int i, .int j => some (.val (.int (i + j)))
  | .add, .tup xs, .tup ys => if len xs + len ys ≤ line then some (.val (.tup (xs ++ ys))) else none
  | .add, .lst xs, .lst ys => if len xs + len ys ≤ line then some (.fresh (xs ++ ys)) else none
  | .add, .str x, .str y => if x.length + y.length ≤ line then some (.val (.str (x ++ y))) else none
  | .sub, .int i, .int j => some (.val (.int (i - j)))
  | .mul, .int i, .int j => if mulOk i j then some (.val (.int (i * j))) else none
  | .mul, .lst xs, .int k => if (len xs * k.toNat ≤ line ∧ k.natAbs ≤ line) then some (.fresh (rep k.toNat xs)) else none
  | .fdiv, .int i, .int j => if divOk j then some (.val (.int (i / j))) else none
  | .mod, .int i, .int j => if 0 < j then some (.val (.int (i % j))) else none
  | _, _, _ => none
def cmp : Cop → Val → Val → Option Bool
  | .eq, v, w => if shaped v && shaped w then some (veq v w) else none
  | .ne, v, w => if shaped v && shaped w then some (!veq v w) else none
  | .lt, .int i, .int j => some (decide (i < j))
  | .le, .int i, .int j => some (decide (i ≤ j))
  | .gt, .int i, .int j => some (decide (j < i))
  | .ge, .int i, .int j => some (decide (j ≤ i))
  | .isn, v, .non => some (match v with | .non => true | _ => false)
  | .isnn, v, .non => some (match v with | .non => false | _ => true)
  | _, _, _ => none

def seqOf : Val → Option (List Val)
  | .tup xs => some xs
  | .lst xs => some xs
  | .scr xs => some (xs.map .int)
  | _ => none
def minL : Int → List Int → Int
  | m, [] => m
  | m, x :: r => minL (if x < m then x else m) r
def maxL : Int → List Int → Int
  | m, [] => m
  | m, x :: r => maxL (if m < x then x else m) r
def sumL : Int → List Int → Int
  | m, [] => m
  | m, x :: r => sumL (m + x) r
def allL : List Bool → Bool
  | [] => true
  | x :: r => x && allL r
def anyL : List Bool → Bool
  | [] => false
  | x :: r => x || anyL r
def insInt (x : Int) : List Int → List Int
  | [] => [x]
  | y :: r => if x < y then x :: y :: r else y :: insInt x r
def sortInt : List Int → List Int
  | [] => []
  | x :: r => insInt x (sortInt r)
def insSet (x : Int) : List Int → List Int
  | [] => [x]
  | y :: r => if x < y then x :: y :: r else if x = y then y :: r else y :: insSet x r
def sortSet : List Int → List Int
  | [] => []
  | x :: r => insSet x (sortSet r)
def lexLt : List Int → List Int → Bool
  | [], [] => false
  | [], _ :: _ => true
  | _ :: _, [] => false
  | x :: xs, y :: ys => if x = y then lexLt xs ys else decide (x < y)
def insRow (x : List Int) : List (List Int) → List (List Int)
  | [] => [x]
  | y :: r => if lexLt x y then x :: y :: r else y :: insRow x r
def sortRow : List (List Int) → List (List Int)
  | [] => []
  | x :: r => insRow x (sortRow r)
def introws : List Val → Option (List (List Int))
  | [] => some []
  | .tup [] :: _ => none
  | .tup vs :: r => (intsOf vs).bind fun x => (introws r).map (x :: ·)
  | _ :: _ => none
def unitRow : List Val → Option R
  | [.tup []] => some (.fresh [.tup []])
  | _ => none
def cntInt (x : Int) : List Int → Nat
  | [] => 0
  | y :: r => if x = y then cntInt x r + 1 else cntInt x r
def lenS (a : Str) : List Str → Nat
  | [] => 0
  | x :: r => x.length + a.length + lenS a r

def bfn : Bif → List Val → Option R
  | .len, [.str x] => if x.length ≤ line then some (.val (.int x.length)) else none
  | .len, [v] => (seqOf v).map fun xs => .val (.int (len xs))
  | .abs, [.int i] => some (.val (.int (if i < 0 then -i else i)))
  | .min, [.int i, .int j] => some (.val (.int (if j < i then j else i)))
  | .max, [.int i, .int j] => some (.val (.int (if i < j then j else i)))
  | .min, [v] => (seqOf v).bind fun xs => (intsOf xs).bind fun | [] => none | x :: r => some (.val (.int (minL x r)))
  | .max, [v] => (seqOf v).bind fun xs => (intsOf xs).bind fun | [] => none | x :: r => some (.val (.int (maxL x r)))
  | .sum, [v] => (seqOf v).bind fun xs => (intsOf xs).map fun r => .val (.int (sumL 0 r))
  | .all, [.lst xs] => (blsOf xs).map fun r => .val (.bl (allL r))
  | .any, [.lst xs] => (blsOf xs).map fun r => .val (.bl (anyL r))
  | .tuple, [v] => (seqOf v).map fun xs => .val (.tup xs)
  | .list, [v] => (seqOf v).map fun xs => .fresh xs
  | .int, [.int i] => some (.val (.int i))
  | .int, [.bl b] => some (.val (.int (if b then 1 else 0)))
  | .str, [.int i] => if i.natAbs.log2 < 1920 then some (.val (.str (toString i))) else none
  | .sortset, [.tup xs] => (intsOf xs).bind fun r => if len r < 60 then some (.fresh ((sortSet r).map .int)) else none
  | .sorted, [.lst xs] => if len xs < 60 then (match intsOf xs with
      | some r => some (.fresh ((sortInt r).map .int))
      | none => (match introws xs with
        | some r => some (.fresh ((sortRow r).map fun x => .tup (x.map .int)))
        | none => unitRow xs)) else none
  | _, _ => none
def opCount (xs : List Val) : List Val → Option R
  | [.int i] => (intsOf xs).map fun r => .val (.int (cntInt i r))
  | _ => none
def opJoin (a : Str) : List Val → Option R
  | [v] => (seqOf v).bind fun xs => (strsOf xs).bind fun r => if lenS a r ≤ line then some (.val (.str (Str.join a r))) else none
  | _ => none
def isTy : Val → Ty → Option Bool
  | .fn _, _ => none
  | .rat _ _, _ => some false
  | .int _, .int => some true
  | .bl _, .int => some true
  | .bl _, .bool => some true
  | .str _, .str => some true
  | .lst _, .list => some true
  | .scr _, .list => some true
  | .tup _, .tuple => some true
  | _, _ => some false
def isTys (v : Val) : List Ty → Option Bool
  | [] => some false
  | t :: r => (isTy v t).bind fun b => if b then some true else isTys v r
def index : Val → Val → Option R
  | .str x, .int i => if x.length ≤ line then (at_ x.cps.toList i).map fun c => .val (.str ⟨#[c]⟩) else none
  | v, .int i => (seqOf v).bind fun xs => (at_ xs i).map .val
  | _, _ => none
def slice : Val → Option Int → Option Int → Option R
  | .tup xs, lo, hi => some (.val (.tup (cut xs lo hi)))
  | .lst xs, lo, hi => some (.fresh (cut xs lo hi))
  | .scr xs, lo, hi => some (.fresh (cut (xs.map .int) lo hi))
  | _, _, _ => none
def revs : Val → Option R
  | .lst xs => some (.fresh xs.reverse)
  | _ => none
def range1 : Nat → Int → List Val
  | 0, _ => []
  | n + 1, i => .int i :: range1 n (i + 1)
def rangeS : Nat → Int → Int → List Val
  | 0, _, _ => []
  | n + 1, i, d => .int i :: rangeS n (i + d) d
def smallR (i : Int) : Bool := decide (i.natAbs < 4611686018427387904)
def rangeOf : List Val → Option (List Val)
  | [.int j] => if smallR j then some (range1 j.toNat 0) else none
  | [.int i, .int j] => if smallR i && smallR j then some (range1 (j - i).toNat i) else none
  | [.int i, .int j, .int (-1)] => if smallR i && smallR j then some (rangeS (i - j).toNat i (-1)) else none
  | _ => none
def enumL : Int → List Val → List Val
  | _, [] => []
  | k, x :: r => .tup [.int k, x] :: enumL (k + 1) r
def zipL : List Val → List Val → List Val
  | x :: xs, y :: ys => .tup [x, y] :: zipL xs ys
  | _, _ => []

/-! ### the evaluator -/
def Res.bind {α β : Type} (x : Res α) (f : α → Env → Res β) : Res β := match x with
  | .ok a ρ => f a ρ
  | .exc k p ρ => .exc k p ρ
  | .stuck => .stuck
def ofO {α : Type} (x : Option α) (ρ : Env) : Res α := match x with
  | some a => .ok a ρ
  | none => .stuck
/-- into a slot, where it isn't locked -/
def sto (ρ : Env) (i : Nat) (s : Sl) : Option Env := match get ρ i with
  | .no => some (put ρ i s)
  | .sh false _ => some (put ρ i s)
  | .ow false _ => some (put ρ i s)
  | .rd false _ => some (put ρ i s)
  | _ => none
def stoAll : List Nat → List Val → Env → Option Env
  | [], [], ρ => some ρ
  | i :: is, v :: vs, ρ => (sto ρ i (.sh false v)).bind fun ρ => stoAll is vs ρ
  | _, _, _ => none
def tgt : Tg → Val → Env → Option Env
  | .one i, v, ρ => sto ρ i (.sh false v)
  | .tup is, .tup vs, ρ => stoAll is vs ρ
  | .tup is, .lst vs, ρ => stoAll is vs ρ
  | _, _, _ => none
/-- the arguments as slots of the callee -/
def binds : List R → Env → Option (List Sl)
  | [], _ => some []
  | .val v :: r, ρ => (binds r ρ).map (.sh false v :: ·)
  | .fresh _ :: _, _ => none
  | .slot i :: r, ρ => match get ρ i with
    | .sh _ v => (binds r ρ).map (.sh false v :: ·)
    | .ow _ vs => (binds r (put ρ i .no)).map (.ow true vs :: ·)
    | _ => none
def outs : List R → List Sl → Env → Env
  | .slot i :: r, .ow _ vs :: q, ρ => outs r q (match get ρ i with | .ow lk _ => put ρ i (.ow lk vs) | _ => ρ)
  | .slot i :: r, .sh true v :: q, ρ => outs r q (match get ρ i with | .ow lk _ => put ρ i (.sh lk v) | _ => ρ)
  | _ :: r, _ :: q, ρ => outs r q ρ
  | _, _, ρ => ρ
/-- no list of its own is handed on -/
def noLent : List Sl → Bool
  | [] => true
  | .sh false _ :: r => noLent r
  | _ :: _ => false
def callIt (call : Call) (j : Nat) (rs : List R) (ρ : Env) : Res R := match binds rs ρ with
  | none => .stuck
  | some sl => match call j sl with
    | .ok r os => .ok r (outs rs os ρ)
    | .exc k p => if noLent sl then .exc k p ρ else .stuck
    | .stuck => .stuck
def valOf (x : Option (Val × Env)) : Res Val := match x with
  | some (v, ρ) => .ok v ρ
  | none => .stuck
/-- what is walked stands still -/
def lockR : R → Env → Env
  | .slot i, ρ => match get ρ i with
    | .ow lk vs => put ρ i (.rd lk vs)
    | _ => ρ
  | _, ρ => ρ
/-- .. and may be written again, where it was written ahead -/
def unlockR (r : R) (ρ0 ρ : Env) : Env := match r with
  | .slot i => match get ρ0 i, get ρ i with
    | .ow _ _, .rd lk vs => put ρ i (.ow lk vs)
    | _, _ => ρ
  | _ => ρ
/-- nothing is let out of it -/
def Res.held {α : Type} (x : Res α) : Res α := match x with
  | .exc _ _ _ => .stuck
  | x => x
def compLoop (f : Val → Env → Res (Option Val)) : List Val → Env → Res (List Val)
  | [], ρ => .ok [] ρ
  | x :: r, ρ => (f x ρ).bind fun o ρ => (compLoop f r ρ).bind fun vs ρ => .ok (match o with | some v => v :: vs | none => vs) ρ
def compLoop2 (f : Val → Env → Res (List Val)) : List Val → Env → Res (List Val)
  | [], ρ => .ok [] ρ
  | x :: r, ρ => (f x ρ).bind fun o ρ => (compLoop2 f r ρ).bind fun vs ρ => .ok (o ++ vs) ρ
def tgs : Tg → List Nat
  | .one i => [i]
  | .tup is => is
/-- the slots forgotten; as they were -/
def wipes : List Nat → Env → Env
  | [], ρ => ρ
  | i :: r, ρ => put (wipes r ρ) i .no
def backs : List Nat → Env → Env → Env
  | [], _, ρ => ρ
  | i :: r, ρ0, ρ => put (backs r ρ0 ρ) i (get ρ0 i)

/-- an argument: lent, or as a value -/
def lend : List Bool → R → Env → Option (R × Env)
  | true :: _, .slot i, ρ => match get ρ i with
    | .rd lk vs => some (.val (.lst vs), put ρ i (.sh lk (.lst vs)))
    | .no => none
    | _ => some (.slot i, ρ)
  | _, r, ρ => (frz r ρ).map fun (v, ρ) => (.val v, ρ)
def peeks : List R → Env → Option (List Val)
  | [], _ => some []
  | r :: rs, ρ => (peek r ρ).bind fun v => (peeks rs ρ).map (v :: ·)

/-! ### pieces -/
abbrev Ec := Env → Res R
abbrev Lc := Env → Res (List R)
abbrev Vc := Env → Res (List Val)
abbrev Cc := Env → Res Bool
abbrev Oc := Env → Res (Option Int)
abbrev Ic := Env → Res (R × List Val)
abbrev Sc := Env → SRes
def cVal (v : Val) : Ec := fun ρ => .ok (.val v) ρ
def cVar (i : Nat) : Ec := fun ρ => match get ρ i with
  | .no => .stuck
  | .sh _ v => .ok (.val v) ρ
  | .ow _ _ => .ok (.slot i) ρ
  | .rd _ _ => .ok (.slot i) ρ
/-- two operands, what they hold -/
def c2 (op : Val → Val → Option R) (f g : Ec) : Ec := fun ρ => (f ρ).bind fun ra ρ => (g ρ).bind fun rb ρ => ofO ((peek ra ρ).bind fun x => (peek rb ρ).bind fun y => op x y) ρ
def c1 (op : Val → Option R) (f : Ec) : Ec := fun ρ => (f ρ).bind fun ra ρ => ofO ((peek ra ρ).bind fun x => op x) ρ
def cL (op : List Val → Option R) (f : Lc) : Ec := fun ρ => (f ρ).bind fun rs ρ => ofO ((peeks rs ρ).bind fun vs => op vs) ρ
/-- a.join(..), a.count(..) -/
def cJoin (f : Ec) (g : Lc) : Ec := fun ρ => (f ρ).bind fun r ρ => match r with
  | .val (.str a) => cL (opJoin a) g ρ
  | _ => .stuck
def cCount (f : Ec) (g : Lc) : Ec := fun ρ => (f ρ).bind fun r ρ => match r with
  | .val (.tup xs) => cL (opCount xs) g ρ
  | _ => .stuck
def neg : Val → Option R
  | .int i => some (.val (.int (-i)))
  | _ => none
def cmpR (o : Cop) (x y : Val) : Option R := (cmp o x y).map fun k => .val (.bl k)
def cChain (o1 o2 : Cop) (f g h : Ec) : Ec := fun ρ => (f ρ).bind fun ra ρ => (g ρ).bind fun rb ρ => match (peek ra ρ).bind fun x => (peek rb ρ).bind fun y => cmp o1 x y with
  | some true => (h ρ).bind fun rc ρ => ofO ((peek rb ρ).bind fun x => (peek rc ρ).bind fun y => cmpR o2 x y) ρ
  | some false => .ok (.val (.bl false)) ρ
  | none => .stuck
def cCall (call : Call) (j : Nat) (f : Lc) : Ec := fun ρ => (f ρ).bind fun rs ρ => callIt call j rs ρ
def cCallj (call : Call) (bors : Nat → Option (List Bool)) (j : Nat) (f : List Bool → Lc) : Ec := fun ρ => match bors j with
  | none => .stuck
  | some bs => cCall call j (f bs) ρ
def cCallv (call : Call) (bors : Nat → Option (List Bool)) (i : Nat) (f : List Bool → Lc) : Ec := fun ρ => match get ρ i with
  | .sh _ (.fn j) => cCallj call bors j f ρ
  | _ => .stuck
def cSlc (f : Ec) (lo hi : Oc) : Ec := fun ρ => (f ρ).bind fun ra ρ => (lo ρ).bind fun l ρ => (hi ρ).bind fun h ρ => ofO ((peek ra ρ).bind fun x => slice x l h) ρ
def cTup (f : Vc) : Ec := fun ρ => (f ρ).bind fun vs ρ => if len vs ≤ line then .ok (.val (.tup vs)) ρ else .stuck
def cLst (f : Vc) : Ec := fun ρ => (f ρ).bind fun vs ρ => if len vs ≤ line then .ok (.fresh vs) ρ else .stuck
def compBody (t : Tg) (fc : Cc) (fe : Ec) (x : Val) (ρ : Env) : Res (Option Val) := match tgt t x ρ with
  | none => .stuck
  | some ρ => (fc ρ).bind fun k ρ => if k then (fe ρ).bind fun r ρ => (match frz r ρ with
    | none => .stuck
    | some (v, ρ) => .ok (some v) (wipes (tgs t) ρ)) else .ok none (wipes (tgs t) ρ)
def inB : List Nat → Env → Bool
  | [], _ => true
  | i :: r, ρ => Nat.blt i ρ.length && inB r ρ
def cComp (t : Tg) (fi : Ic) (fc : Cc) (fe : Ec) : Ec := fun ρ0 => (fi ρ0).bind fun p ρ => if inB (tgs t) ρ then
  (compLoop (compBody t fc fe) p.2 (wipes (tgs t) (lockR p.1 ρ))).held.bind fun vs ρ' => if len vs ≤ line then .ok (.fresh vs) (unlockR p.1 ρ (backs (tgs t) ρ ρ')) else .stuck
  else .stuck
def compBody2 (t : Tg) (fc : Cc) (t2 : Tg) (fi2 : Ic) (fc2 : Cc) (fe : Ec) (x : Val) (ρ : Env) : Res (List Val) := match tgt t x ρ with
  | none => .stuck
  | some ρ => (fc ρ).bind fun k ρ => if k then (fi2 ρ).bind fun p ρ => (compLoop (compBody t2 fc2 fe) p.2 (lockR p.1 ρ)).bind fun vs ρ' => .ok vs (wipes (tgs t) ρ') else .ok [] (wipes (tgs t) ρ)
def cComp2 (t : Tg) (fi : Ic) (fc : Cc) (t2 : Tg) (fi2 : Ic) (fc2 : Cc) (fe : Ec) : Ec := fun ρ0 => (fi ρ0).bind fun p ρ => if inB (tgs t ++ tgs t2) ρ then
  (compLoop2 (compBody2 t fc t2 fi2 fc2 fe) p.2 (wipes (tgs t ++ tgs t2) (lockR p.1 ρ))).held.bind fun vs ρ' => if len vs ≤ line then .ok (.fresh vs) (unlockR p.1 ρ (backs (tgs t ++ tgs t2) ρ ρ')) else .stuck
  else .stuck
def lNil : Lc := fun ρ => .ok [] ρ
def lCons (f : Ec) (g : Lc) : Lc := fun ρ => (f ρ).bind fun r ρ => (g ρ).bind fun rs ρ => .ok (r :: rs) ρ
def vNil : Vc := fun ρ => .ok [] ρ
def vCons (f : Ec) (g : Vc) : Vc := fun ρ => (f ρ).bind fun r ρ => match frz r ρ with
  | none => .stuck
  | some (v, ρ) => (g ρ).bind fun vs ρ => .ok (v :: vs) ρ
def aCons (bs : List Bool) (f : Ec) (g : Lc) : Lc := fun ρ => (f ρ).bind fun r ρ => match lend bs r ρ with
  | none => .stuck
  | some (r, ρ) => (g ρ).bind fun rs ρ => .ok (r :: rs) ρ
def oNo : Oc := fun ρ => .ok none ρ
def oYes (f : Ec) : Oc := fun ρ => (f ρ).bind fun r ρ => match r with
  | .val (.int i) => .ok (some i) ρ
  | _ => .stuck
def tNo : Cc := fun ρ => .ok true ρ
def tYes (f : Ec) : Cc := fun ρ => (f ρ).bind fun r ρ => match r with
  | .val (.bl b) => .ok b ρ
  | _ => .stuck
def cNot (f : Ec) : Ec := fun ρ => (tYes f ρ).bind fun b ρ => .ok (.val (.bl (!b))) ρ
def cIte (c f g : Ec) : Ec := fun ρ => (tYes c ρ).bind fun b ρ => if b then f ρ else g ρ
def cBop (k : Bool) (f g : Ec) : Ec := fun ρ => (tYes f ρ).bind fun b ρ => if b = k then g ρ else .ok (.val (.bl b)) ρ
def cBl (f : Ec) : Ec := fun ρ => (tYes f ρ).bind fun b ρ => .ok (.val (.bl b)) ρ
def iSeq (f : Ec) : Ic := fun ρ => (f ρ).bind fun r ρ => ofO ((peek r ρ).bind fun v => (seqOf v).map fun xs => (r, xs)) ρ
def iEnum (f : Ec) : Ic := fun ρ => (f ρ).bind fun r ρ => ofO ((peek r ρ).bind fun v => (seqOf v).map fun xs => (r, enumL 0 xs)) ρ
def iRng (f : Vc) : Ic := fun ρ => (f ρ).bind fun vs ρ => ofO ((rangeOf vs).map fun xs => (.val .non, xs)) ρ
def zipOf : List Val → Option (List Val)
  | [v, w] => (seqOf v).bind fun xs => (seqOf w).map fun ys => zipL xs ys
  | _ => none
def iZip (f : Vc) : Ic := fun ρ => (f ρ).bind fun vs ρ => ofO ((zipOf vs).map fun xs => (.val .non, xs)) ρ

section
variable (bors : Nat → Option (List Bool)) (call : Call)
mutual
def evR : E → Ec
  | .var i => cVar i
  | .fn j => cVal (.fn j)
  | .non => cVal .non
  | .bl b => cVal (.bl b)
  | .int i => cVal (.int i)
  | .str s => cVal (.str s)
  | .bin o a b => c2 (bin o) (evR a) (evR b)
  | .neg a => c1 neg (evR a)
  | .not_ a => cNot (evR a)
  | .bop k es => evBop k es
  | .cmp o a b => c2 (cmpR o) (evR a) (evR b)
  | .chain o1 o2 a b c => cChain o1 o2 (evR a) (evR b) (evR c)
  | .ite c a b => cIte (evR c) (evR a) (evR b)
  | .call j es => cCallj call bors j fun bs => evA es bs
  | .callv i es => cCallv call bors i fun bs => evA es bs
  | .bfn b es => cL (bfn b) (evL es)
  | .meth .join o es => cJoin (evR o) (evL es)
  | .meth .count o es => cCount (evR o) (evL es)
  | .isi a ts => c1 (fun x => (isTys x ts).map fun k => .val (.bl k)) (evR a)
  | .idx a i => c2 index (evR a) (evR i)
  | .slc a lo hi => cSlc (evR a) (evO lo) (evO hi)
  | .rev a => c1 revs (evR a)
  | .tup es => cTup (evVs es)
  | .lst es => cLst (evVs es)
  | .comp elt t it c => cComp t (evI it) (evC c) (evR elt)
  | .comp2 elt t it c t2 it2 c2 => cComp2 t (evI it) (evC c) t2 (evI it2) (evC c2) (evR elt)
def evBop : Bool → Es → Ec
  | _, .nil => fun _ => .stuck
  | k, .cons e es => match es with
    | .nil => cBl (evR e)
    | _ => cBop k (evR e) (evBop k es)
def evL : Es → Lc
  | .nil => lNil
  | .cons e es => lCons (evR e) (evL es)
def evVs : Es → Vc
  | .nil => vNil
  | .cons e es => vCons (evR e) (evVs es)
def evA : Es → List Bool → Lc
  | .nil, _ => lNil
  | .cons e es, bs => aCons bs (evR e) (evA es (bs.drop 1))
def evO : Oe → Oc
  | .no => oNo
  | .yes e => oYes (evR e)
def evC : Oe → Cc
  | .no => tNo
  | .yes e => tYes (evR e)
/-- what is walked: whose it is, the items -/
def evI : It → Ic
  | .seq e => iSeq (evR e)
  | .rng es => iRng (evVs es)
  | .enum e => iEnum (evR e)
  | .zip es => iZip (evVs es)
end
end
def SRes.bind (x : SRes) (f : Env → SRes) : SRes := match x with
  | .next ρ => f ρ
  | x => x
/-- an expression ahead of a statement -/
def Res.then {α : Type} (x : Res α) (f : α → Env → SRes) : SRes := match x with
  | .ok a ρ => f a ρ
  | .exc k p ρ => .exc k p ρ
  | .stuck => .stuck
def forLoop (f : Val → Env → SRes) : List Val → Env → SRes
  | [], ρ => .next ρ
  | x :: r, ρ => (f x ρ).bind fun ρ => forLoop f r ρ
def whileLoop (c : Cc) (f : Env → SRes) : Nat → Env → SRes
  | 0, _ => .stuck
  | n + 1, ρ => (c ρ).then fun b ρ => if b then (f ρ).bind fun ρ => whileLoop c f n ρ else .next ρ
def wfuel : Nat := 1000000
def toSl : R → Env → Option (Sl × Env)
  | .val v, ρ => some (.sh false v, ρ)
  | .fresh vs, ρ => some (.ow false vs, ρ)
  | .slot i, ρ => (frz (.slot i) ρ).map fun (v, ρ) => (.sh false v, ρ)
def toSls : List R → Env → Option (List Sl × Env)
  | [], ρ => some ([], ρ)
  | r :: rs, ρ => (toSl r ρ).bind fun (s, ρ) => (toSls rs ρ).map fun (ss, ρ) => (s :: ss, ρ)
def stoSls : List Nat → List Sl → Env → Option Env
  | [], [], ρ => some ρ
  | i :: is, s :: ss, ρ => (sto ρ i s).bind fun ρ => stoSls is ss ρ
  | _, _, _ => none
/-- a def's end: a list of its own goes with it -/
def retR : R → Env → Option (R × Env)
  | .slot i, ρ => match get ρ i with
    | .no => none
    | .sh _ v => some (.val v, ρ)
    | .ow false vs => some (.fresh vs, put ρ i .no)
    | .rd false vs => some (.fresh vs, put ρ i .no)
    | .ow true vs => some (.val (.lst vs), put ρ i (.sh true (.lst vs)))
    | .rd true vs => some (.val (.lst vs), put ρ i (.sh true (.lst vs)))
  | r, ρ => some (r, ρ)
def ofE (x : Option Env) : SRes := match x with
  | some ρ => .next ρ
  | none => .stuck
/-- x[i] = v -/
def putAt (x : Nat) (v : Val) (i : R) (ρ : Env) : SRes := match i, get ρ x with
  | .val (.int i), .ow lk vs => (match place (len vs) i with
    | some j => .next (put ρ x (.ow lk (upd_ vs j v)))
    | none => .stuck)
  | _, _ => .stuck
/-- x.append(v) -/
def appTo (x : Nat) (v : Val) (ρ : Env) : SRes := match get ρ x with
  | .ow lk vs => if len vs < line then .next (put ρ x (.ow lk (vs ++ [v]))) else .stuck
  | _ => .stuck
def SRes.unlock (x : SRes) (r : R) (ρ0 : Env) : SRes := match x with
  | .next ρ => .next (unlockR r ρ0 ρ)
  | x => x
def SRes.held (x : SRes) : SRes := match x with
  | .exc _ _ _ => .stuck
  | x => x
def sSet (i : Nat) (f : Ec) : Sc := fun ρ => (f ρ).then fun r ρ => ofE ((toSl r ρ).bind fun p => sto p.2 i p.1)
def sPar (is : List Nat) (f : Lc) : Sc := fun ρ => (f ρ).then fun rs ρ => ofE ((toSls rs ρ).bind fun p => stoSls is p.1 p.2)
def sUnp (is : List Nat) (f : Ec) : Sc := fun ρ => (f ρ).then fun r ρ => ofE ((frz r ρ).bind fun p => tgt (.tup is) p.1 p.2)
/-- x's own list -/
def ownS (x : Nat) (ρ : Env) (k : SRes) : SRes := match get ρ x with
  | .ow _ _ => k
  | _ => .stuck
def sPut (x : Nat) (fk f : Ec) : Sc := fun ρ => (f ρ).then fun r ρ => match frz r ρ with
  | none => .stuck
  | some p => ownS x p.2 ((fk p.2).then fun i ρ => putAt x p.1 i ρ)
def sApp (x : Nat) (f : Ec) : Sc := fun ρ => ownS x ρ ((f ρ).then fun r ρ => match frz r ρ with
  | none => .stuck
  | some p => appTo x p.1 p.2)
def sIf (c : Ec) (a b : Sc) : Sc := fun ρ => (tYes c ρ).then fun k ρ => if k then a ρ else b ρ
def forBody (t : Tg) (b : Sc) (x : Val) (ρ : Env) : SRes := match tgt t x ρ with
  | none => .stuck
  | some ρ => b ρ
def sFor (t : Tg) (fi : Ic) (b : Sc) : Sc := fun ρ => (fi ρ).then fun p ρ => (forLoop (forBody t b) p.2 (lockR p.1 ρ)).unlock p.1 ρ
def sWhile (c : Ec) (b : Sc) : Sc := fun ρ => whileLoop (tYes c) b wfuel ρ
def sRet (f : Ec) : Sc := fun ρ => (f ρ).then fun r ρ => match retR r ρ with
  | some p => .ret p.1 p.2
  | none => .stuck
def sEx (f : Ec) : Sc := fun ρ => (f ρ).then fun _ ρ => .next ρ
def sNil : Sc := fun ρ => .next ρ
def sCons (a b : Sc) : Sc := fun ρ => (a ρ).bind b
section
variable (bors : Nat → Option (List Bool)) (call : Call)
mutual
def exS : S → Sc
  | .set i e => sSet i (evR bors call e)
  | .par is es => sPar is (evL bors call es)
  | .unp is e => sUnp is (evR bors call e)
  | .put x k e => sPut x (evR bors call k) (evR bors call e)
  | .app x e => sApp x (evR bors call e)
  | .ife c a b => sIf (evR bors call c) (exSs a) (exSs b)
  | .for_ t it b => sFor t (evI bors call it) (exSs b)
  | .whl c b => sWhile (evR bors call c) (exSs b)
  | .ret e => sRet (evR bors call e)
  | .ex e => sEx (evR bors call e)
  | .doc => sNil
  | .try_ b => fun ρ => (exSs b ρ).held
def exSs : Ss → Sc
  | .nil => sNil
  | .cons s ss => sCons (exS s) (exSs ss)
end
end

structure Def where
  np : Nat
  ns : Nat
  bor : List Bool
  body : Ss
abbrev Tab := List Def
def tab (T : Tab) (j : Nat) : Option Def := nth T j
def borsOf (T : Tab) (j : Nat) : Option (List Bool) := match tab T j with
  | some d => some d.bor
  | none => none
def nos : Nat → Env
  | 0 => []
  | n + 1 => .no :: nos n
/-- what is lent comes back -/
def takeSl : Nat → Env → List Sl
  | 0, _ => []
  | n + 1, [] => .no :: takeSl n []
  | n + 1, .sh true v :: r => .sh true v :: takeSl n r
  | n + 1, .ow true v :: r => .ow true v :: takeSl n r
  | n + 1, .rd true v :: r => .ow true v :: takeSl n r
  | n + 1, _ :: r => .no :: takeSl n r
def endC (np : Nat) : SRes → CRes
  | .next ρ => .ok (.val .non) (takeSl np ρ)
  | .ret r ρ => .ok r (takeSl np ρ)
  | .exc k p _ => .exc k p
  | .stuck => .stuck
def run (T : Tab) : Nat → Call
  | 0 => fun _ _ => .stuck
  | k + 1 => fun j args => match tab T j with
    | none => .stuck
    | some d => if len args = d.np then endC d.np (exSs (borsOf T) (run T k) d.body (args ++ nos (d.ns - d.np))) else .stuck
end Ev

/-! Ev1: what the evaluator's states mean in the heap. -/
namespace Ev
open PySem PySem.Spec PyProof.Rows L2

abbrev St := L2.St
/-- the written part; where the defs stand; the classes of exceptions -/
structure Dom where
  K : PySem.W.Frag
  adr : Nat → Addr
  xc : Nat → Value
  xf : Nat → Str

/-- a tuple that bears no dict -/
def TupAt (K : PySem.W.Frag) (H : Hp) (a : Addr) (xs : List V) : Prop :=
  (∃ o, H a = some (.frz o (.tup xs)) ∧ o.dict = none) ∨
    ∃ (o : Obj) (its : Array Value) (n : Nat), K.lookup a = some o ∧ o.cls = .type "tuple" ∧ o.dict = none ∧ o.data = .seq its n ∧ its.size ≤ sizeLine ∧ Vals xs its.toList
theorem TupAt.sq {K : PySem.W.Frag} {H : Hp} {a : Addr} {xs : List V} (h : TupAt K H a xs) : SqT K H a xs := by
  rcases h with ⟨o, h, _⟩ | ⟨o, its, n, h1, h2, _, h3, h4, h5⟩
  · exact .inl (.inr ⟨o, h⟩)
  · exact .inr ⟨o, its, n, h1, h2, h3, h4, h5⟩
section
variable (D : Dom) (Z : Addr → Prop) (H : Hp)
mutual
inductive Rep : Val → V → Prop where
  | non : Rep .non .non
  | bl (b : Bool) : Rep (.bl b) (.bl b)
  | int (i : Int) : Rep (.int i) (.int i)
  | str (x : Str) : Rep (.str x) (.str x)
  | fn (j : Nat) : Rep (.fn j) (.ref (D.adr j))
  | tup {vs : List Val} {xs : List V} {a : Addr} (h : TupAt D.K H a xs) (r : Reps vs xs) : Rep (.tup vs) (.ref a)
  | lst {vs : List Val} {xs : List V} {a : Addr} (z : Z a) (h : H a = some (.lst xs)) (r : Reps vs xs) : Rep (.lst vs) (.ref a)
  | scr {is : List Int} {a : Addr} (z : Z a) (h : SqL D.K H a (is.map V.int)) : Rep (.scr is) (.ref a)
  | scrK {is : List Int} {a : Addr} (h : ∀ H, SqL D.K H a (is.map V.int)) : Rep (.scr is) (.ref a)
inductive Reps : List Val → List V → Prop where
  | nil : Reps [] []
  | cons {v : Val} {x : V} {vs : List Val} {xs : List V} (h : Rep v x) (r : Reps vs xs) : Reps (v :: vs) (x :: xs)
end
end

section
variable {D : Dom} {Z Z' : Addr → Prop} {H H' : Hp}
theorem sqL_at {K : PySem.W.Frag} {a : Addr} {xs : List V} (h : SqL K H a xs) (k : ∀ o, H a = some o → H' a = some o) : SqL K H' a xs := by
  rcases h with (h | ⟨o, h⟩) | h
  · exact .inl (.inl (k _ h))
  · exact .inl (.inr ⟨o, k _ h⟩)
  · exact .inr h
theorem tupAt_at {K : PySem.W.Frag} {a : Addr} {xs : List V} (h : TupAt K H a xs) (k : ∀ o, H a = some o → (∀ ys, o ≠ .lst ys) → H' a = some o) : TupAt K H' a xs := by
  rcases h with ⟨o, h, d⟩ | h
  · exact .inl ⟨o, k _ h (by intro ys e; cases e), d⟩
  · exact .inr h
/-- what is kept: all but the lists that stand outside -/
def Kp (Z : Addr → Prop) (H H' : Hp) : Prop := ∀ a o, H a = some o → (Z a ∨ ∀ ys, o ≠ .lst ys) → H' a = some o
mutual
theorem Rep.mono (hz : ∀ a, Z a → Z' a) (hk : Kp Z H H') : ∀ {v : Val} {x : V}, Rep D Z H v x → Rep D Z' H' v x
  | _, _, .non => .non
  | _, _, .bl b => .bl b
  | _, _, .int i => .int i
  | _, _, .str x => .str x
  | _, _, .fn j => .fn j
  | _, _, .tup h r => .tup (tupAt_at h fun o e n => hk _ o e (.inr n)) (Reps.mono hz hk r)
  | _, _, .lst z h r => .lst (hz _ z) (hk _ _ h (.inl z)) (Reps.mono hz hk r)
  | _, _, .scr z h => .scr (hz _ z) (sqL_at h fun o e => hk _ o e (.inl z))
  | _, _, .scrK h => .scrK h
theorem Reps.mono (hz : ∀ a, Z a → Z' a) (hk : Kp Z H H') : ∀ {vs : List Val} {xs : List V}, Reps D Z H vs xs → Reps D Z' H' vs xs
  | _, _, .nil => .nil
  | _, _, .cons h r => .cons (Rep.mono hz hk h) (Reps.mono hz hk r)
end
theorem Reps.len : ∀ {vs : List Val} {xs : List V}, Reps D Z H vs xs → len vs = xs.length
  | _, _, .nil => rfl
  | _, _, .cons _ r => by show Ev.len _ + 1 = _; rw [r.len]; rfl
theorem Reps.app : ∀ {vs ws : List Val} {xs ys : List V}, Reps D Z H vs xs → Reps D Z H ws ys → Reps D Z H (vs ++ ws) (xs ++ ys)
  | _, _, _, _, .nil, s => s
  | _, _, _, _, .cons h r, s => .cons h (r.app s)
theorem Reps.nth : ∀ {vs : List Val} {xs : List V} {i : Nat} {v : Val}, Reps D Z H vs xs → nth vs i = some v → ∃ x, xs[i]? = some x ∧ Rep D Z H v x
  | _, _, _, _, .nil, e => by cases e
  | _, _, 0, _, .cons h r, e => by
    cases e
    exact ⟨_, rfl, h⟩
  | _, _, i + 1, v, .cons h r, e => by
    obtain ⟨x, e, h⟩ := r.nth (i := i) (v := v) e
    exact ⟨x, by simpa using e, h⟩
theorem Reps.get : ∀ {vs : List Val} {xs : List V} {i : Nat} {x : V}, Reps D Z H vs xs → xs[i]? = some x → ∃ v, Ev.nth vs i = some v ∧ Rep D Z H v x
  | _, _, _, _, .nil, e => by simp at e
  | _, _, 0, _, .cons h r, e => by
    simp at e
    subst e
    exact ⟨_, rfl, h⟩
  | _, _, i + 1, x, .cons h r, e => by
    obtain ⟨v, e, h⟩ := r.get (i := i) (x := x) (by simpa using e)
    exact ⟨v, e, h⟩
theorem Reps.upd : ∀ {vs : List Val} {xs : List V} {i : Nat} {v : Val} {x : V}, Reps D Z H vs xs → Rep D Z H v x → Reps D Z H (upd_ vs i v) (xs.set i x)
  | _, _, _, _, _, .nil, _ => .nil
  | _, _, 0, _, _, .cons h r, q => .cons q r
  | _, _, i + 1, _, _, .cons h r, q => .cons h (r.upd q)
theorem Reps.ints {is : List Int} : Reps D Z H (is.map Val.int) (is.map V.int) := by
  induction is with
  | nil => exact .nil
  | cons i r ih => exact .cons (.int i) ih
theorem Reps.rev {vs : List Val} {xs : List V} (h : Reps D Z H vs xs) : Reps D Z H vs.reverse xs.reverse := by
  have gen : ∀ {vs : List Val} {xs : List V}, Reps D Z H vs xs → Reps D Z H vs.reverse xs.reverse := by
    intro vs
    induction vs with
    | nil =>
      intro xs h
      cases h
      exact .nil
    | cons v vs ih =>
      intro xs h
      cases h with
      | cons h r =>
        rw [List.reverse_cons, List.reverse_cons]
        exact (ih r).app (.cons h .nil)
  exact gen h
theorem Reps.take : ∀ {vs : List Val} {xs : List V} (n : Nat), Reps D Z H vs xs → Reps D Z H (vs.take n) (xs.take n)
  | _, _, 0, _ => by simp only [List.take_zero]; exact .nil
  | _, _, _ + 1, .nil => .nil
  | _, _, n + 1, .cons h r => .cons h (r.take n)
theorem Reps.drop : ∀ {vs : List Val} {xs : List V} (n : Nat), Reps D Z H vs xs → Reps D Z H (vs.drop n) (xs.drop n)
  | _, _, 0, h => h
  | _, _, _ + 1, .nil => .nil
  | _, _, n + 1, .cons h r => r.drop n
theorem Reps.rep {vs : List Val} {xs : List V} (h : Reps D Z H vs xs) : ∀ k : Nat, Reps D Z H (rep k vs) (List.replicate k xs).flatten
  | 0 => .nil
  | k + 1 => by
    rw [List.replicate_succ, List.flatten_cons]
    exact h.app (h.rep k)
end

/-! ### slots -/
section
variable (D : Dom) (Z : Addr → Prop) (H : Hp)
def SlotOk (s : Sl) (o : Option (Option V)) : Prop := match s with
  | .no => True
  | .sh _ v => ∃ x, o = some (some x) ∧ Rep D Z H v x
  | .ow _ vs => ∃ a xs, o = some (some (.ref a)) ∧ ¬ Z a ∧ H a = some (.lst xs) ∧ Reps D Z H vs xs
  | .rd _ vs => ∃ a xs, o = some (some (.ref a)) ∧ ¬ Z a ∧ H a = some (.lst xs) ∧ Reps D Z H vs xs
end
def owns : Sl → Bool
  | .ow _ _ => true
  | .rd _ _ => true
  | _ => false
def writes : Sl → Bool
  | .ow _ _ => true
  | _ => false
def locked : Sl → Bool
  | .sh l _ => l
  | .ow l _ => l
  | .rd l _ => l
  | .no => false
def live : Sl → Bool
  | .no => false
  | _ => true
theorem writes_owns {s : Sl} (h : writes s = true) : owns s = true := by cases s <;> first | rfl | cases h
/-- whose list stands at a -/
def OwnAt (ρ : Env) (σ : St) (i : Nat) (a : Addr) : Prop := owns (get ρ i) = true ∧ σ[i]? = some (some (.ref a))
def Ow (ρ : Env) (σ : St) (a : Addr) : Prop := ∃ i, OwnAt ρ σ i a
def Wr (ρ : Env) (σ : St) (a : Addr) : Prop := ∃ i, writes (get ρ i) = true ∧ σ[i]? = some (some (.ref a))
theorem Wr.ow {ρ : Env} {σ : St} {a : Addr} (h : Wr ρ σ a) : Ow ρ σ a := let ⟨i, h1, h2⟩ := h; ⟨i, writes_owns h1, h2⟩
structure Rl (D : Dom) (Z : Addr → Prop) (ρ : Env) (σ : St) (H : Hp) : Prop where
  slot : ∀ i, SlotOk D Z H (get ρ i) σ[i]?
  apart : ∀ i j a, OwnAt ρ σ i a → OwnAt ρ σ j a → i = j
  len : ρ.length = σ.length
  zt : ∀ a, Z a → H a ≠ none
structure Stp (Z : Addr → Prop) (ρ : Env) (σ : St) (H : Hp) (Z' : Addr → Prop) (ρ' : Env) (σ' : St) (H' : Hp) : Prop where
  z : ∀ a, Z a → Z' a
  zz : ∀ a, Z' a → Z a ∨ Ow ρ σ a ∨ H a = none
  fr : ∀ a o, H a = some o → ¬ Wr ρ σ a → H' a = some o
  tr : ∀ a, H' a = none → H a = none
  ow1 : ∀ i a, OwnAt ρ' σ' i a → OwnAt ρ σ i a ∨ H a = none
  wr : ∀ a, Wr ρ' σ' a → Wr ρ σ a ∨ H a = none
  lk : ∀ i, locked (get ρ i) = true → locked (get ρ' i) = true ∧ σ'[i]? = σ[i]?
  lk2 : ∀ i, locked (get ρ' i) = true → locked (get ρ i) = true
theorem Stp.ow {Z Z' : Addr → Prop} {ρ ρ' : Env} {σ σ' : St} {H H' : Hp} (s : Stp Z ρ σ H Z' ρ' σ' H') (a : Addr) (h : Ow ρ' σ' a) : Ow ρ σ a ∨ H a = none := let ⟨i, h⟩ := h; (s.ow1 i a h).elim (fun h => .inl ⟨i, h⟩) .inr
def Lv (ρ ρ' : Env) : Prop := ∀ i, live (get ρ i) = true → live (get ρ' i) = true

section
variable {D : Dom} {Z Z' Z2 : Addr → Prop} {ρ ρ' ρ2 : Env} {σ σ' σ2 : St} {H H' H2 : Hp}
theorem Rl.own (r : Rl D Z ρ σ H) {a : Addr} (h : Ow ρ σ a) : ¬ Z a ∧ ∃ xs, H a = some (.lst xs) := by
  obtain ⟨i, h1, h2⟩ := h
  have s := r.slot i
  cases e : get ρ i with
  | no => rw [e] at h1; cases h1
  | sh l v => rw [e] at h1; cases h1
  | ow l vs =>
    rw [e] at s
    obtain ⟨b, xs, e1, nz, hb, _⟩ := s
    rw [h2] at e1
    cases e1
    exact ⟨nz, xs, hb⟩
  | rd l vs =>
    rw [e] at s
    obtain ⟨b, xs, e1, nz, hb, _⟩ := s
    rw [h2] at e1
    cases e1
    exact ⟨nz, xs, hb⟩
theorem Stp.kp (s : Stp Z ρ σ H Z' ρ' σ' H') (r : Rl D Z ρ σ H) : Kp Z H H' := fun a o e h => s.fr a o e fun w => by
  obtain ⟨nz, xs, hx⟩ := r.own w.ow
  rcases h with h | h
  · exact nz h
  · rw [e] at hx
    exact h xs (Option.some.inj hx)
theorem Stp.refl : Stp Z ρ σ H Z ρ σ H := ⟨fun _ h => h, fun _ h => .inl h, fun _ _ h _ => h, fun _ h => h, fun _ _ h => .inl h, fun _ h => .inl h, fun _ h => ⟨h, rfl⟩, fun _ h => h⟩
theorem Stp.trans (s : Stp Z ρ σ H Z' ρ' σ' H') (t : Stp Z' ρ' σ' H' Z2 ρ2 σ2 H2) : Stp Z ρ σ H Z2 ρ2 σ2 H2 where
  z := fun a h => t.z a (s.z a h)
  zz := fun a h => by
    rcases t.zz a h with h | h | h
    · exact s.zz a h
    · exact .inr (s.ow a h)
    · exact .inr (.inr (s.tr a h))
  fr := fun a o e n => t.fr a o (s.fr a o e n) fun w => by
    rcases s.wr a w with w | w
    · exact n w
    · rw [e] at w; cases w
  tr := fun a h => s.tr a (t.tr a h)
  ow1 := fun i a h => by
    rcases t.ow1 i a h with h | h
    · exact s.ow1 i a h
    · exact .inr (s.tr a h)
  wr := fun a h => by
    rcases t.wr a h with h | h
    · exact s.wr a h
    · exact .inr (s.tr a h)
  lk := fun i h => by
    obtain ⟨h1, e1⟩ := s.lk i h
    obtain ⟨h2, e2⟩ := t.lk i h1
    exact ⟨h2, e2.trans e1⟩
  lk2 := fun i h => s.lk2 i (t.lk2 i h)
theorem Lv.refl : Lv ρ ρ := fun _ h => h
theorem Lv.trans (s : Lv ρ ρ') (t : Lv ρ' ρ2) : Lv ρ ρ2 := fun i h => t i (s i h)
theorem Rep.stp {v : Val} {x : V} (h : Rep D Z H v x) (r : Rl D Z ρ σ H) (s : Stp Z ρ σ H Z' ρ' σ' H') : Rep D Z' H' v x := h.mono s.z (s.kp r)
theorem Reps.stp {v : List Val} {x : List V} (h : Reps D Z H v x) (r : Rl D Z ρ σ H) (s : Stp Z ρ σ H Z' ρ' σ' H') : Reps D Z' H' v x := h.mono s.z (s.kp r)
end

/-! ### results -/
def RRel (D : Dom) (Z : Addr → Prop) (H : Hp) (ρ : Env) (σ : St) : R → V → Prop
  | .val v, x => Rep D Z H v x
  | .fresh vs, x => ∃ a xs, x = .ref a ∧ ¬ Z a ∧ ¬ Ow ρ σ a ∧ H a = some (.lst xs) ∧ Reps D Z H vs xs
  | .slot i, x => live (get ρ i) = true ∧ σ[i]? = some (some x)
/-- what a value holds now -/
def PRep (D : Dom) (Z : Addr → Prop) (H : Hp) (v : Val) (x : V) : Prop :=
  Rep D Z H v x ∨ ∃ a xs vs, v = .lst vs ∧ x = .ref a ∧ H a = some (.lst xs) ∧ Reps D Z H vs xs
section
variable {D : Dom} {Z Z' Z2 : Addr → Prop} {ρ ρ' ρ2 : Env} {σ σ' σ2 : St} {H H' H2 : Hp}
theorem RRel.stp {r : R} {x : V} (h : RRel D Z H ρ σ r x) (rl : Rl D Z ρ σ H) (s : Stp Z ρ σ H Z' ρ' σ H') (l : Lv ρ ρ') : RRel D Z' H' ρ' σ r x := by
  cases r with
  | val v => exact Rep.stp h rl s
  | fresh vs =>
    obtain ⟨a, xs, e, nz, no, ha, q⟩ := h
    refine ⟨a, xs, e, fun z => ?_, fun o => ?_, s.fr a _ ha fun w => no w.ow, q.stp rl s⟩
    · rcases s.zz a z with z | z | z
      · exact nz z
      · exact no z
      · rw [ha] at z; cases z
    · rcases s.ow a o with z | z
      · exact no z
      · rw [ha] at z; cases z
  | slot i => exact ⟨l i h.1, h.2⟩
theorem RRel.peek {r : R} {x : V} {v : Val} (h : RRel D Z H ρ σ r x) (rl : Rl D Z ρ σ H) (e : peek r ρ = some v) : PRep D Z H v x := by
  cases r with
  | val w => cases e; exact .inl h
  | fresh vs =>
    cases e
    obtain ⟨a, xs, e, nz, no, ha, q⟩ := h
    exact .inr ⟨a, xs, vs, rfl, e, ha, q⟩
  | slot i =>
    have s := rl.slot i
    obtain ⟨_, h⟩ := h
    simp only [Ev.peek] at e
    cases g : get ρ i with
    | no => rw [g] at e; cases e
    | sh l w =>
      rw [g] at e s
      cases e
      obtain ⟨y, e1, q⟩ := s
      rw [h] at e1
      cases e1
      exact .inl q
    | ow l vs =>
      rw [g] at e s
      cases e
      obtain ⟨a, xs, e1, nz, ha, q⟩ := s
      rw [h] at e1
      cases e1
      exact .inr ⟨a, xs, vs, rfl, rfl, ha, q⟩
    | rd l vs =>
      rw [g] at e s
      cases e
      obtain ⟨a, xs, e1, nz, ha, q⟩ := s
      rw [h] at e1
      cases e1
      exact .inr ⟨a, xs, vs, rfl, rfl, ha, q⟩
end

/-! ### slots put -/
theorem get_put_ne : ∀ {ρ : Env} {i j : Nat} {s : Sl}, i ≠ j → get (put ρ i s) j = get ρ j
  | [], _, _, _, _ => rfl
  | _ :: _, 0, 0, _, h => absurd rfl h
  | _ :: _, 0, _ + 1, _, _ => rfl
  | _ :: _, _ + 1, 0, _, _ => rfl
  | _ :: r, i + 1, j + 1, s, h => get_put_ne (ρ := r) (i := i) (j := j) (s := s) fun e => h (by rw [e])
theorem get_put_self : ∀ {ρ : Env} {i : Nat} {s : Sl}, i < ρ.length → get (put ρ i s) i = s
  | [], _, _, h => absurd h (Nat.not_lt_zero _)
  | _ :: _, 0, _, _ => rfl
  | _ :: r, i + 1, s, h => get_put_self (ρ := r) (i := i) (s := s) (Nat.lt_of_succ_lt_succ h)
theorem get_big : ∀ {ρ : Env} {i : Nat}, ρ.length ≤ i → get ρ i = .no
  | [], _, _ => rfl
  | _ :: _, 0, h => absurd h (Nat.not_succ_le_zero _)
  | _ :: r, i + 1, h => get_big (ρ := r) (i := i) (Nat.le_of_succ_le_succ h)
theorem get_lt {ρ : Env} {i : Nat} (h : get ρ i ≠ .no) : i < ρ.length := Nat.lt_of_not_le fun z => h (get_big z)
theorem put_length : ∀ {ρ : Env} {i : Nat} {s : Sl}, (put ρ i s).length = ρ.length
  | [], _, _ => rfl
  | _ :: _, 0, _ => rfl
  | _ :: r, i + 1, s => congrArg (· + 1) (put_length (ρ := r) (i := i) (s := s))
/-- what stands at a slot behind a put: the new one, or nothing, at i; as before elsewhere -/
theorem get_put (ρ : Env) (i j : Nat) (s : Sl) : (j = i ∧ (get (put ρ i s) j = s ∧ i < ρ.length ∨ get (put ρ i s) j = .no ∧ ρ.length ≤ i)) ∨ (j ≠ i ∧ get (put ρ i s) j = get ρ j) := by
  by_cases h : j = i
  · subst h
    by_cases hl : j < ρ.length
    · exact .inl ⟨rfl, .inl ⟨get_put_self hl, hl⟩⟩
    · exact .inl ⟨rfl, .inr ⟨get_big (by rw [put_length]; exact Nat.le_of_not_lt hl), Nat.le_of_not_lt hl⟩⟩
  · exact .inr ⟨h, get_put_ne (Ne.symm h)⟩

/-- a new list's place was free at H -/
def Fresh (H : Hp) : R → V → Prop
  | .fresh _, x => ∀ a, x = .ref a → H a = none
  | _, _ => True
def Zadd (Z : Addr → Prop) (b : Addr) : Addr → Prop := fun a => Z a ∨ a = b
section
variable {D : Dom} {Z Z' Z2 : Addr → Prop} {ρ ρ' ρ2 : Env} {σ σ' σ2 : St} {H H' H2 : Hp}
theorem Kp.refl : Kp Z H H := fun _ _ h _ => h
theorem Rep.more {v : Val} {x : V} (h : Rep D Z H v x) (hz : ∀ a, Z a → Z' a) : Rep D Z' H v x := h.mono hz Kp.refl
theorem Reps.more {v : List Val} {x : List V} (h : Reps D Z H v x) (hz : ∀ a, Z a → Z' a) : Reps D Z' H v x := h.mono hz Kp.refl
theorem SlotOk.more {s : Sl} {o : Option (Option V)} (h : SlotOk D Z H s o) (hz : ∀ a, Z a → Z' a) (hn : owns s = true → ∀ a, o = some (some (.ref a)) → ¬ Z' a) : SlotOk D Z' H s o := by
  cases s with
  | no => trivial
  | sh l v =>
    obtain ⟨x, e, q⟩ := h
    exact ⟨x, e, q.more hz⟩
  | ow l vs =>
    obtain ⟨a, xs, e, _, ha, q⟩ := h
    exact ⟨a, xs, e, hn rfl a e, ha, q.more hz⟩
  | rd l vs =>
    obtain ⟨a, xs, e, _, ha, q⟩ := h
    exact ⟨a, xs, e, hn rfl a e, ha, q.more hz⟩
/-- an address that none owns is frozen -/
theorem Rl.freeze (r : Rl D Z ρ σ H) {b : Addr} (n : ¬ Ow ρ σ b) (t : H b ≠ none) : Rl D (Zadd Z b) ρ σ H :=
  ⟨fun i => (r.slot i).more (fun _ h => .inl h) fun o a e z => by
    rcases z with z | z
    · exact (r.own ⟨i, o, e⟩).1 z
    · subst z
      exact n ⟨i, o, e⟩, r.apart, r.len, fun a h => h.elim (r.zt a) fun e => by rw [e]; exact t⟩
/-- a slot is marked anew -/
theorem Rl.put {i : Nat} {s : Sl} (r : Rl D Z ρ σ H) (hs : SlotOk D Z H s σ[i]?) (ho : owns s = true → owns (get ρ i) = true) : Rl D Z (Ev.put ρ i s) σ H := by
  have own : ∀ j a, OwnAt (Ev.put ρ i s) σ j a → OwnAt ρ σ j a := fun j a ⟨h1, h2⟩ => by
    rcases get_put ρ i j s with ⟨e, ⟨g, _⟩ | ⟨g, _⟩⟩ | ⟨_, g⟩
    · rw [g] at h1
      subst e
      exact ⟨ho h1, h2⟩
    · rw [g] at h1; cases h1
    · rw [g] at h1
      exact ⟨h1, h2⟩
  refine ⟨fun j => ?_, fun j k a h1 h2 => r.apart j k a (own j a h1) (own k a h2), by rw [put_length]; exact r.len, r.zt⟩
  rcases get_put ρ i j s with ⟨e, ⟨g, _⟩ | ⟨g, _⟩⟩ | ⟨_, g⟩
  · rw [g, e]; exact hs
  · rw [g]; trivial
  · rw [g]; exact r.slot j
/-- a slot is stored anew -/
theorem Rl.set {i : Nat} {s : Sl} {x : V} (r : Rl D Z ρ σ H) (hs : SlotOk D Z H s (some (some x))) (ho : owns s = true → ∀ a, x = .ref a → ∀ j, j ≠ i → ¬ OwnAt ρ σ j a) : Rl D Z (Ev.put ρ i s) (σ.set i (some x)) H := by
  have own : ∀ j a, OwnAt (Ev.put ρ i s) (σ.set i (some x)) j a → (j = i ∧ owns s = true ∧ x = .ref a) ∨ (j ≠ i ∧ OwnAt ρ σ j a) := fun j a ⟨h1, h2⟩ => by
    rcases get_put ρ i j s with ⟨e, ⟨g, hl⟩ | ⟨g, _⟩⟩ | ⟨e, g⟩
    · rw [g] at h1
      rw [e, List.getElem?_set_self (by rw [← r.len]; exact hl)] at h2
      exact .inl ⟨e, h1, Option.some.inj (Option.some.inj h2)⟩
    · rw [g] at h1; cases h1
    · rw [g] at h1
      rw [List.getElem?_set_ne (Ne.symm e)] at h2
      exact .inr ⟨e, h1, h2⟩
  refine ⟨fun j => ?_, fun j k a h1 h2 => ?_, by rw [put_length, List.length_set]; exact r.len, r.zt⟩
  · rcases get_put ρ i j s with ⟨e, ⟨g, hl⟩ | ⟨g, _⟩⟩ | ⟨e, g⟩
    · rw [g, e, List.getElem?_set_self (by rw [← r.len]; exact hl)]
      exact hs
    · rw [g]; trivial
    · rw [g, List.getElem?_set_ne (Ne.symm e)]
      exact r.slot j
  · rcases own j a h1 with ⟨e1, o1, x1⟩ | ⟨e1, o1⟩ <;> rcases own k a h2 with ⟨e2, o2, x2⟩ | ⟨e2, o2⟩
    · rw [e1, e2]
    · exact absurd o2 (ho o1 a x1 k e2)
    · exact absurd o1 (ho o2 a x2 j e1)
    · exact r.apart j k a o1 o2
theorem lock_put {i j : Nat} {s : Sl} (h : locked s = locked (get ρ i)) : locked (get (put ρ i s) j) = locked (get ρ j) := by
  rcases get_put ρ i j s with ⟨e, ⟨g, _⟩ | ⟨g, hl⟩⟩ | ⟨_, g⟩
  · rw [g, e]; exact h
  · rw [g, e, get_big hl]
  · rw [g]
/-- a mark alone: what is owned may be less, what is written less -/
theorem Stp.mark {i : Nat} {s : Sl} (hz : ∀ a, Z a → Z' a) (hzz : ∀ a, Z' a → Z a ∨ Ow ρ σ a) (ho : owns s = true → owns (get ρ i) = true) (hw : writes s = true → writes (get ρ i) = true) (hl : locked s = locked (get ρ i)) : Stp Z ρ σ H Z' (put ρ i s) σ H where
  z := hz
  zz := fun a h => (hzz a h).elim .inl fun h => .inr (.inl h)
  fr := fun _ _ h _ => h
  tr := fun _ h => h
  ow1 := fun j a ⟨h1, h2⟩ => by
    rcases get_put ρ i j s with ⟨e, ⟨g, _⟩ | ⟨g, _⟩⟩ | ⟨_, g⟩
    · rw [g] at h1
      rw [e] at h2 ⊢
      exact .inl ⟨ho h1, h2⟩
    · rw [g] at h1; cases h1
    · rw [g] at h1
      exact .inl ⟨h1, h2⟩
  wr := fun a ⟨j, h1, h2⟩ => by
    rcases get_put ρ i j s with ⟨e, ⟨g, _⟩ | ⟨g, _⟩⟩ | ⟨_, g⟩
    · rw [g] at h1
      rw [e] at h2
      exact .inl ⟨i, hw h1, h2⟩
    · rw [g] at h1; cases h1
    · rw [g] at h1
      exact .inl ⟨j, h1, h2⟩
  lk := fun j h => ⟨by rw [lock_put hl]; exact h, rfl⟩
  lk2 := fun j h => by rw [lock_put hl] at h; exact h
theorem Lv.put {i : Nat} {s : Sl} (h : live (get ρ i) = true → live s = true) : Lv ρ (Ev.put ρ i s) := fun j q => by
  rcases get_put ρ i j s with ⟨e, ⟨g, _⟩ | ⟨g, hl⟩⟩ | ⟨_, g⟩
  · rw [g]
    exact h (by rw [← e]; exact q)
  · rw [e, get_big hl] at q; cases q
  · rw [g]; exact q
/-- frozen -/
theorem frz_ok {Z0 : Addr → Prop} {ρ0 : Env} {σ0 : St} {H0 : Hp} {r : R} {x : V} {v : Val} (st : Stp Z0 ρ0 σ0 H0 Z ρ σ H) (fr : Fresh H0 r x) (h : RRel D Z H ρ σ r x) (rl : Rl D Z ρ σ H) (e : frz r ρ = some (v, ρ')) :
    ∃ Z', (∀ a, Z a → Z' a) ∧ Rl D Z' ρ' σ H ∧ Stp Z0 ρ0 σ0 H0 Z' ρ' σ H ∧ Lv ρ ρ' ∧ Rep D Z' H v x := by
  cases r with
  | val w =>
    simp only [frz, Option.some.injEq, Prod.mk.injEq] at e
    obtain ⟨rfl, rfl⟩ := e
    exact ⟨Z, fun _ h => h, rl, st, .refl, h⟩
  | fresh vs =>
    simp only [frz, Option.some.injEq, Prod.mk.injEq] at e
    obtain ⟨rfl, rfl⟩ := e
    obtain ⟨a, xs, rfl, nz, no, ha, q⟩ := h
    refine ⟨Zadd Z a, fun _ h => .inl h, rl.freeze no (by rw [ha]; exact fun z => nomatch z), ⟨fun b h => .inl (st.z b h), fun b hb => ?_, st.fr, st.tr, st.ow1, st.wr, st.lk, st.lk2⟩, .refl, .lst (.inr rfl) ha (q.more fun _ h => .inl h)⟩
    rcases hb with hb | rfl
    · exact st.zz b hb
    · exact .inr (.inr (fr _ rfl))
  | slot i =>
    obtain ⟨lv, hx⟩ := h
    have s := rl.slot i
    have own : ∀ {lk : Bool} {vs : List Val}, owns (get ρ i) = true → locked (get ρ i) = lk → (∃ a xs, σ[i]? = some (some (.ref a)) ∧ ¬ Z a ∧ H a = some (.lst xs) ∧ Reps D Z H vs xs) →
        ∃ Z', (∀ a, Z a → Z' a) ∧ Rl D Z' (put ρ i (.sh lk (.lst vs))) σ H ∧ Stp Z0 ρ0 σ0 H0 Z' (put ρ i (.sh lk (.lst vs))) σ H ∧ Lv ρ (put ρ i (.sh lk (.lst vs))) ∧ Rep D Z' H (.lst vs) x := fun {lk vs} ho hl ⟨a, xs, e1, nz, ha, q⟩ => by
      rw [hx] at e1
      cases e1
      have rp : Rep D (Zadd Z a) H (.lst vs) (.ref a) := .lst (.inr rfl) ha (q.more fun _ h => .inl h)
      have r1 : Rl D Z (put ρ i .no) σ H := rl.put trivial (by intro z; cases z)
      have no1 : ¬ Ow (put ρ i .no) σ a := fun ⟨j, h1, h2⟩ => by
        rcases get_put ρ i j .no with ⟨e, ⟨g, _⟩ | ⟨g, _⟩⟩ | ⟨ne, g⟩
        · rw [g] at h1; cases h1
        · rw [g] at h1; cases h1
        · rw [g] at h1
          exact ne (rl.apart j i a ⟨h1, h2⟩ ⟨ho, hx⟩)
      have r2 := r1.freeze no1 (by rw [ha]; exact fun z => nomatch z)
      have pp : put (put ρ i .no) i (.sh lk (.lst vs)) = put ρ i (.sh lk (.lst vs)) := by
        have gen : ∀ (ρ : Env) (i : Nat) (s t : Sl), put (put ρ i s) i t = put ρ i t := by
          intro ρ
          induction ρ with
          | nil => intro i s t; rfl
          | cons u r ih =>
            intro i s t
            cases i with
            | zero => rfl
            | succ i => exact congrArg (u :: ·) (ih i s t)
        exact gen _ _ _ _
      have r3 := r2.put (i := i) (s := .sh lk (.lst vs)) ⟨_, hx, rp⟩ (by intro z; cases z)
      rw [pp] at r3
      refine ⟨Zadd Z a, fun _ h => .inl h, r3, st.trans (.mark (fun _ h => .inl h) (fun b hb => ?_) (by intro z; cases z) (by intro z; cases z) hl.symm), .put fun _ => rfl, rp⟩
      rcases hb with hb | rfl
      · exact .inl hb
      · exact .inr ⟨i, ho, hx⟩
    simp only [frz] at e
    cases g : get ρ i with
    | no => rw [g] at e; cases e
    | sh l w =>
      rw [g] at e s
      simp only [Option.some.injEq, Prod.mk.injEq] at e
      obtain ⟨rfl, rfl⟩ := e
      obtain ⟨y, e1, q⟩ := s
      rw [hx] at e1
      cases e1
      exact ⟨Z, fun _ h => h, rl, st, .refl, q⟩
    | ow l vs =>
      rw [g] at e s
      simp only [Option.some.injEq, Prod.mk.injEq] at e
      obtain ⟨rfl, rfl⟩ := e
      exact own (by rw [g]; rfl) (by rw [g]; rfl) s
    | rd l vs =>
      rw [g] at e s
      simp only [Option.some.injEq, Prod.mk.injEq] at e
      obtain ⟨rfl, rfl⟩ := e
      exact own (by rw [g]; rfl) (by rw [g]; rfl) s
end
end Ev

/-! Ev2: the readings of the evaluator's pieces, expressions. -/
namespace Ev
open PySem PySem.Spec PyProof.Rows L2
/-- an exception of the k-th kind with what it bears -/
def XR (D : Dom) (Z : Addr → Prop) (H : Hp) (k : Nat) (p : Val) (cls : Value) (d : Option Addr) : Prop :=
  cls = D.xc k ∧ match d with
    | none => True
    | some a => ∃ v, H a = some (.xd [(D.xf k, v)]) ∧ Rep D Z H p v
/-- what is to be shown of an end -/
def Post (D : Dom) (W : WX) (Z : Addr → Prop) (ρ : Env) (σ : St) (H : Hp) {α β : Type} (rel : Hp → (Addr → Prop) → Hp → Env → α → β → Prop) (r : Res α) (Q : β → Hp → Prop) : Prop :=
  match r with
  | .ok a ρ' => ∀ b Z' H', Rl D Z' ρ' σ H' → Stp Z ρ σ H Z' ρ' σ H' → Lv ρ ρ' → rel H Z' H' ρ' a b → Q b H'
  | .exc k p ρ' => ∀ cls d Z' H', Rl D Z' ρ' σ H' → Stp Z ρ σ H Z' ρ' σ H' → Lv ρ ρ' → XR D Z' H' k p cls d → W cls d σ H'
  | .stuck => False
def Rd (D : Dom) (W : WX) {α β : Type} (rel : St → Hp → (Addr → Prop) → Hp → Env → α → β → Prop) (f : Env → Res α) : St → Hp → (β → Hp → Prop) → Prop :=
  fun σ H Q => ∃ Z ρ, Rl D Z ρ σ H ∧ Post D W Z ρ σ H (rel σ) (f ρ) Q
def relE (D : Dom) (σ : St) (H0 : Hp) (Z : Addr → Prop) (H : Hp) (ρ : Env) (r : R) (x : V) : Prop := RRel D Z H ρ σ r x ∧ Fresh H0 r x
def relQ {α : Type} (_ : St) (_ : Hp) (_ : Addr → Prop) (_ : Hp) (_ : Env) (a b : α) : Prop := a = b
abbrev RdE (D : Dom) (W : WX) (f : Ec) : TE := Rd D W (relE D) f
abbrev RdT (D : Dom) (W : WX) (f : Ec) : TT := Rd D W relQ (tYes f)
/-- an expression of a kind that the pieces are of -/
def plainX : Expr → Bool
  | .Starred _ _ => false
  | .ListComp _ _ _ _ => false
  | .SetComp _ _ _ _ => false
  | .DictComp _ _ _ _ _ => false
  | .Set _ _ _ => false
  | .Slice _ _ _ _ => false
  | _ => true
def noStar : Expr → Bool
  | .Starred _ _ => false
  | .Set _ _ _ => false
  | .Slice _ _ _ _ => false
  | _ => true
structure EOk (D : Dom) (X : Cx) (e : Expr) (f : Ec) : Prop where
  pe : ∀ W, Takes X W → PE X e (RdE D W f)
  pt : ∀ W, Takes X W → PT X e (RdT D W f)
  ns : noStar e = true

section
variable {D : Dom} {W : WX} {Z Z' Z2 : Addr → Prop} {ρ ρ' ρ1 ρ2 : Env} {σ σ' σ2 : St} {H H' H1 H2 : Hp}
/-- on from an end, when the first part of the way is gone -/
theorem Post.on {α β : Type} {rel : Hp → (Addr → Prop) → Hp → Env → α → β → Prop} {r : Res α} {Q : β → Hp → Prop} (h : Post D W Z ρ σ H rel r Q) (st : Stp Z ρ σ H Z' ρ1 σ H1) (lv : Lv ρ ρ1)
    (mono : ∀ Z2 H2 ρ2 a b, rel H1 Z2 H2 ρ2 a b → rel H Z2 H2 ρ2 a b) : Post D W Z' ρ1 σ H1 rel r Q := by
  cases r with
  | ok a ρ' => exact fun b Z2 H2 rl s l q => h b Z2 H2 rl (st.trans s) (lv.trans l) (mono _ _ _ _ _ q)
  | exc k p ρ' => exact fun cls d Z2 H2 rl s l q => h cls d Z2 H2 rl (st.trans s) (lv.trans l) q
  | stuck => exact h
/-- the end of a bind: of the first part -/
theorem Post.bind {α α' β β' : Type} {rel : Hp → (Addr → Prop) → Hp → Env → α → β → Prop} {rel' : Hp → (Addr → Prop) → Hp → Env → α' → β' → Prop} {x : Res α'} {f : α' → Env → Res α} {Q : β → Hp → Prop} {Q' : β' → Hp → Prop}
    (h : Post D W Z ρ σ H rel (x.bind f) Q)
    (k : ∀ a ρ1 b Z1 H1, x = .ok a ρ1 → Rl D Z1 ρ1 σ H1 → Stp Z ρ σ H Z1 ρ1 σ H1 → Lv ρ ρ1 → rel' H Z1 H1 ρ1 a b → Post D W Z ρ σ H rel (f a ρ1) Q → Q' b H1) : Post D W Z ρ σ H rel' x Q' := by
  cases x with
  | ok a ρ1 => exact fun b Z1 H1 rl st lv r => k a ρ1 b Z1 H1 rfl rl st lv r h
  | exc k p ρ1 => exact h
  | stuck => exact h
/-- .. further on the way -/
theorem Post.bind2 {α α' β β' : Type} {rel : Hp → (Addr → Prop) → Hp → Env → α → β → Prop} {rel' : Hp → (Addr → Prop) → Hp → Env → α' → β' → Prop} {x : Res α'} {f : α' → Env → Res α} {Q : β → Hp → Prop} {Q' : β' → Hp → Prop}
    (h : Post D W Z ρ σ H rel (x.bind f) Q) (st : Stp Z ρ σ H Z' ρ1 σ H1) (lv : Lv ρ ρ1)
    (k : ∀ a ρ2 b Z2 H2, x = .ok a ρ2 → Rl D Z2 ρ2 σ H2 → Stp Z' ρ1 σ H1 Z2 ρ2 σ H2 → Lv ρ1 ρ2 → rel' H1 Z2 H2 ρ2 a b → Post D W Z ρ σ H rel (f a ρ2) Q → Q' b H2) : Post D W Z' ρ1 σ H1 rel' x Q' := by
  cases x with
  | ok a ρ2 => exact fun b Z2 H2 rl st2 lv2 r => k a ρ2 b Z2 H2 rfl rl st2 lv2 r h
  | exc k p ρ2 => exact fun cls d Z2 H2 rl s l q => h cls d Z2 H2 rl (st.trans s) (lv.trans l) q
  | stuck => exact h
theorem Post.imp {α β : Type} {rel : Hp → (Addr → Prop) → Hp → Env → α → β → Prop} {r : Res α} {Q Q' : β → Hp → Prop} (h : Post D W Z ρ σ H rel r Q) (k : ∀ b H', Q b H' → Q' b H') : Post D W Z ρ σ H rel r Q' := by
  cases r with
  | ok a ρ' => exact fun b Z' H' rl s l q => k _ _ (h b Z' H' rl s l q)
  | exc kk p ρ' => exact h
  | stuck => exact h
theorem Fresh.back {r : R} {x : V} (h : Fresh H1 r x) (st : Stp Z ρ σ H Z' ρ1 σ' H1) : Fresh H r x := by
  cases r with
  | val v => trivial
  | fresh vs => exact fun a e => st.tr a (h a e)
  | slot i => trivial
theorem relE.back {Z2 : Addr → Prop} {r : R} {x : V} (h : relE D σ H1 Z2 H2 ρ2 r x) (st : Stp Z ρ σ H Z' ρ1 σ' H1) : relE D σ H Z2 H2 ρ2 r x := ⟨h.1, h.2.back st⟩

/-! ### operations by values -/
/-- the heap grows -/
def Grow (H H' : Hp) : Prop := ∀ a o, H a = some o → H' a = some o
theorem Grow.refl : Grow H H := fun _ _ h => h
theorem Grow.upd {p : Addr} {o : HO} (h : H p = none) : Grow H (L2.upd H p o) := fun a u e => by rw [upd_ne (ne_of_none e h)]; exact e
theorem Grow.kp (g : Grow H H') : Kp Z H H' := fun a o e _ => g a o e
theorem Grow.free (g : Grow H H') {a : Addr} (h : H' a = none) : H a = none := by
  cases e : H a with
  | none => rfl
  | some o => rw [g a o e] at h; cases h
/-- an operation's result -/
def Out (D : Dom) (Z : Addr → Prop) (H : Hp) (r : R) (z : V) (H' : Hp) : Prop :=
  Grow H H' ∧ match r with
    | .val v => Rep D Z H' v z
    | .fresh vs => ∃ a xs, z = .ref a ∧ H a = none ∧ H' a = some (.lst xs) ∧ Reps D Z H' vs xs
    | .slot _ => False
theorem Rl.grow (r : Rl D Z ρ σ H) (g : Grow H H') : Rl D Z ρ σ H' := by
  refine ⟨fun i => ?_, r.apart, r.len, fun a z e => r.zt a z (g.free e)⟩
  have s := r.slot i
  cases e : get ρ i with
  | no => trivial
  | sh l v =>
    rw [e] at s
    obtain ⟨x, e1, q⟩ := s
    exact ⟨x, e1, q.mono (fun _ h => h) g.kp⟩
  | ow l vs =>
    rw [e] at s
    obtain ⟨a, xs, e1, nz, ha, q⟩ := s
    exact ⟨a, xs, e1, nz, g _ _ ha, q.mono (fun _ h => h) g.kp⟩
  | rd l vs =>
    rw [e] at s
    obtain ⟨a, xs, e1, nz, ha, q⟩ := s
    exact ⟨a, xs, e1, nz, g _ _ ha, q.mono (fun _ h => h) g.kp⟩
theorem Stp.grow (g : Grow H H') : Stp Z ρ σ H Z ρ σ H' := ⟨fun _ h => h, fun _ h => .inl h, fun a o e _ => g a o e, fun a h => g.free h, fun _ _ h => .inl h, fun _ h => .inl h, fun _ h => ⟨h, rfl⟩, fun _ h => h⟩
theorem Out.use {r : R} {z : V} (o : Out D Z H r z H') (rl : Rl D Z ρ σ H) : Rl D Z ρ σ H' ∧ Stp Z ρ σ H Z ρ σ H' ∧ relE D σ H Z H' ρ r z := by
  obtain ⟨g, o⟩ := o
  refine ⟨rl.grow g, .grow g, ?_⟩
  cases r with
  | val v => exact ⟨o, trivial⟩
  | fresh vs =>
    obtain ⟨a, xs, rfl, n, ha, q⟩ := o
    refine ⟨⟨a, xs, rfl, fun z => rl.zt a z n, fun ow => ?_, ha, q⟩, fun b e => by cases e; exact n⟩
    obtain ⟨_, ys, h⟩ := rl.own ow
    rw [n] at h
    cases h
  | slot i => exact o.elim
abbrev r2 (D : Dom) (op : Val → Val → Option R) : R2 := fun x y H Q => ∃ Z v w r, PRep D Z H v x ∧ PRep D Z H w y ∧ op v w = some r ∧ ∀ z H', Out D Z H r z H' → Q z H'
abbrev r1 (D : Dom) (op : Val → Option R) : V → Hp → VK → Prop := fun x H Q => ∃ Z v r, PRep D Z H v x ∧ op v = some r ∧ ∀ z H', Out D Z H r z H' → Q z H'
/-- from an operation's end -/
theorem Post.ofO {op : Option R} {Q : VK} {Z0 : Addr → Prop} {ρ0 : Env} {H0 : Hp} (h : Post D W Z0 ρ0 σ H0 (relE D σ) (ofO op ρ) Q) (rl : Rl D Z ρ σ H) (st : Stp Z0 ρ0 σ H0 Z ρ σ H) (lv : Lv ρ0 ρ) :
    ∃ r, op = some r ∧ ∀ z H', Out D Z H r z H' → Q z H' := by
  cases op with
  | none => exact h.elim
  | some r => exact ⟨r, rfl, fun z H' o => let ⟨a, b, c⟩ := o.use rl; h z Z H' a (st.trans b) lv (c.back st)⟩
end

section
variable {D : Dom} {X : Cx} {a b c : Expr} {f g h : Ec} {pos : Pos}
/-- an expression that is tested by its value -/
theorem EOk.mk' (hp : ∀ W, Takes X W → PE X a (RdE D W f)) (ns : noStar a = true) (he : ∀ whole, isTrue a X.env whole = (do let v ← whole; standAt a.pos; holding [v] (truthy v))) : EOk D X a f := by
  refine ⟨hp, fun W tk => ⟨fun pins s σ H Q I hw => ?_⟩, ns⟩
  refine (pt_val (hp W tk) he).run pins s σ H Q I ?_
  obtain ⟨Z, ρ, rl, h⟩ := hw
  refine ⟨Z, ρ, rl, ?_⟩
  refine Post.bind h fun r ρ1 x Z1 H1 e rl1 st1 lv1 q h => ?_
  cases r with
  | val v =>
    cases v with
    | bl b =>
      obtain ⟨q, _⟩ := q
      cases q
      exact ⟨b, rfl, h b Z1 H1 rl1 st1 lv1 rfl⟩
    | _ => exact h.elim
  | _ => exact h.elim
theorem ok_var {i : Nat} {x : Str} (hN : X.N[i]? = some x) (hv : Vis X.env.scope x) (hd : (x == ("__debug__" : Str)) = false) (hcd : (x == ("__classdict__" : Str)) = false) : EOk D X (.Name x pos) (cVar i) := by
  refine .mk' (fun W tk => ⟨fun pins s σ H Q I h => (pe_var hN hv hd hcd).run pins s σ H Q I ?_⟩) rfl (fun _ => rfl)
  obtain ⟨Z, ρ, rl, h⟩ := h
  have sl := rl.slot i
  simp only [cVar] at h
  have lv : live (get ρ i) = true → ∃ v, σ[i]? = some (some v) := fun l => by
    cases e : get ρ i with
    | no => rw [e] at l; cases l
    | sh l v =>
      rw [e] at sl
      obtain ⟨x, e1, _⟩ := sl
      exact ⟨x, e1⟩
    | ow l vs =>
      rw [e] at sl
      obtain ⟨a, xs, e1, _⟩ := sl
      exact ⟨_, e1⟩
    | rd l vs =>
      rw [e] at sl
      obtain ⟨a, xs, e1, _⟩ := sl
      exact ⟨_, e1⟩
  cases e : get ρ i with
  | no => rw [e] at h; exact h.elim
  | sh l v =>
    rw [e] at h sl
    obtain ⟨x, e1, q⟩ := sl
    exact ⟨x, e1, h x Z H rl .refl .refl ⟨q, trivial⟩⟩
  | ow l vs =>
    rw [e] at h
    obtain ⟨v, e1⟩ := lv (by rw [e]; rfl)
    exact ⟨v, e1, h v Z H rl .refl .refl ⟨⟨by rw [e]; rfl, e1⟩, trivial⟩⟩
  | rd l vs =>
    rw [e] at h
    obtain ⟨v, e1⟩ := lv (by rw [e]; rfl)
    exact ⟨v, e1, h v Z H rl .refl .refl ⟨⟨by rw [e]; rfl, e1⟩, trivial⟩⟩
/-- a constant -/
theorem ok_val {v : Val} {x : V} (hp : PE X a (tC x)) (hr : ∀ Z H, Rep D Z H v x) (ns : noStar a = true) (he : ∀ whole, isTrue a X.env whole = (do let v ← whole; standAt a.pos; holding [v] (truthy v))) : EOk D X a (cVal v) := by
  refine .mk' (fun W tk => ⟨fun pins s σ H Q I h => hp.run pins s σ H Q I ?_⟩) ns he
  obtain ⟨Z, ρ, rl, h⟩ := h
  exact h x Z H rl .refl .refl ⟨hr Z H, trivial⟩
theorem ok_int {i : Int} {k : Nat} : EOk D X (.Constant (.int i) k pos) (cVal (.int i)) := ok_val pe_int (fun _ _ => .int i) rfl (fun _ => rfl)
theorem ok_bl {i : Bool} {k : Nat} : EOk D X (.Constant (.bool i) k pos) (cVal (.bl i)) := ok_val pe_bl (fun _ _ => .bl i) rfl (fun _ => rfl)
theorem ok_str {i : Str} {k : Nat} : EOk D X (.Constant (.str i) k pos) (cVal (.str i)) := ok_val pe_str (fun _ _ => .str i) rfl (fun _ => rfl)
theorem ok_non {k : Nat} : EOk D X (.Constant .none k pos) (cVal .non) := ok_val pe_non (fun _ _ => .non) rfl (fun _ => rfl)
theorem ok_fn {x : Str} {j : Nat} (hg : Gl X x) (hm : X.mg x = some (.ref (D.adr j))) (hd : (x == ("__debug__" : Str)) = false) : EOk D X (.Name x pos) (cVal (.fn j)) := ok_val (pe_glob (v := .ref (D.adr j)) hg hm rfl hd) (fun _ _ => .fn j) rfl (fun _ => rfl)

/-- two operands -/
theorem rd_two {W : WX} {op : Val → Val → Option R} {ta tb : TE} {σ : St} {H : Hp} {Q : VK} (hf : ta = RdE D W f) (hg : tb = RdE D W g) (h : RdE D W (c2 op f g) σ H Q) : tOp (r2 D op) ta tb σ H Q := by
  subst hf; subst hg
  obtain ⟨Z, ρ, rl, h⟩ := h
  refine ⟨Z, ρ, rl, Post.bind h fun ra ρ1 x Z1 H1 _ rl1 st1 lv1 q1 h => ⟨Z1, ρ1, rl1, ?_⟩⟩
  refine Post.bind (h.on st1 lv1 fun _ _ _ _ _ z => z.back st1) fun rb ρ2 y Z2 H2 _ rl2 st2 lv2 q2 h => ?_
  obtain ⟨r, e, k⟩ := h.ofO rl2 st2 lv2
  obtain ⟨v, e1, e⟩ := Option.bind_eq_some_iff.mp e
  obtain ⟨w, e2, e⟩ := Option.bind_eq_some_iff.mp e
  exact ⟨Z2, v, w, r, (q1.1.stp rl1 st2 lv2).peek rl2 e1, q2.1.peek rl2 e2, e, k⟩
theorem rd_one {W : WX} {op : Val → Option R} {σ : St} {H : Hp} {Q : VK} (h : RdE D W (c1 op f) σ H Q) : tUn (r1 D op) (RdE D W f) σ H Q := by
  obtain ⟨Z, ρ, rl, h⟩ := h
  refine ⟨Z, ρ, rl, Post.bind h fun ra ρ1 x Z1 H1 _ rl1 st1 lv1 q1 h => ?_⟩
  obtain ⟨r, e, k⟩ := h.ofO rl1 st1 lv1
  obtain ⟨v, e1, e⟩ := Option.bind_eq_some_iff.mp e
  exact ⟨Z1, v, r, q1.1.peek rl1 e1, e, k⟩
theorem ok_bin {op : Operator} {o : Val → Val → Option R} (ho : ∀ W, Takes X W → OpR X (binaryOp op) (r2 D o)) (ha : EOk D X a f) (hb : EOk D X b g) : EOk D X (.BinOp a op b pos) (c2 o f g) :=
  .mk' (fun W tk => ⟨fun pins s σ H Q I h => (pe_op (ho W tk) (ha.pe W tk) (hb.pe W tk)).run pins s σ H Q I (rd_two rfl rfl h)⟩) rfl (fun _ => rfl)
theorem ok_un {op : UnaryOp} {o : Val → Option R} (ho : UnR X (unaryOp op) (r1 D o)) (hop : op ≠ .Not) (ha : EOk D X a f) : EOk D X (.UnaryOp op a pos) (c1 o f) :=
  .mk' (fun W tk => ⟨fun pins s σ H Q I h => (pe_un ho (ha.pe W tk)).run pins s σ H Q I (rd_one h)⟩) rfl (fun _ => by cases op <;> first | rfl | exact absurd rfl hop)

theorem rdT_toE {W : WX} {σ : St} {H : Hp} {Q : Bool → Hp → Prop} (h : RdT D W f σ H Q) : RdE D W f σ H (fun x H' => ∃ k, x = .bl k ∧ Q k H') := by
  obtain ⟨Z, ρ, rl, h⟩ := h
  refine ⟨Z, ρ, rl, ?_⟩
  refine Post.bind h fun r ρ1 x Z1 H1 e rl1 st1 lv1 q h => ?_
  cases r with
  | val v =>
    cases v with
    | bl b =>
      obtain ⟨q, _⟩ := q
      cases q
      exact ⟨b, rfl, h b Z1 H1 rl1 st1 lv1 rfl⟩
    | _ => exact h.elim
  | _ => exact h.elim
theorem ok_cmp {op : CmpOp} {o : Val → Val → Option R} (ho : ∀ W, Takes X W → OpR X (compareOp op) (r2 D o)) (hm : behindInMarks op b = false) (ha : EOk D X a f) (hb : EOk D X b g) : EOk D X (.Compare a [op] [b] pos) (c2 o f g) :=
  ⟨fun W tk => ⟨fun pins s σ H Q I h => (pe_cmpR (ho W tk) (ha.pe W tk) (hb.pe W tk) hm).run pins s σ H Q I (rd_two rfl rfl h)⟩,
   fun W tk => ⟨fun pins s σ H Q I h => (pt_cmpR (ho W tk) (ha.pe W tk) (hb.pe W tk) hm).run pins s σ H Q I (rd_two rfl rfl (rdT_toE h))⟩, rfl⟩
theorem ok_chain {op op' : CmpOp} {o o' : Cop} (ho : ∀ W, Takes X W → OpR X (compareOp op) (r2 D (cmpR o))) (ho' : ∀ W, Takes X W → OpR X (compareOp op') (r2 D (cmpR o'))) (hm : lastMarks [op, op'] [b, c] = false)
    (ha : EOk D X a f) (hb : EOk D X b g) (hc : EOk D X c h) : EOk D X (.Compare a [op, op'] [b, c] pos) (cChain o o' f g h) := by
  have key : ∀ {W : WX} {σ : St} {H : Hp} {Q : VK}, RdE D W (cChain o o' f g h) σ H Q → tChain (r2 D (cmpR o)) (r2 D (cmpR o')) (RdE D W f) (RdE D W g) (RdE D W h) σ H Q := fun {W σ H Q} q => by
    obtain ⟨Z, ρ, rl, q⟩ := q
    refine ⟨Z, ρ, rl, Post.bind q fun ra ρ1 x Z1 H1 _ rl1 st1 lv1 q1 q => ⟨Z1, ρ1, rl1, ?_⟩⟩
    refine Post.bind (q.on st1 lv1 fun _ _ _ _ _ z => z.back st1) fun rb ρ2 y Z2 H2 _ rl2 st2 lv2 q2 q => ?_
    cases e1 : peek ra ρ2 with
    | none => rw [e1] at q; exact q.elim
    | some v =>
      cases e2 : peek rb ρ2 with
      | none => rw [e1, e2] at q; exact q.elim
      | some w =>
        rw [e1, e2] at q
        have q : Post D W Z1 ρ1 σ H1 (relE D σ) (match cmp o v w with
          | some true => (h ρ2).bind fun rc ρ => ofO ((peek rb ρ).bind fun x => (peek rc ρ).bind fun y => cmpR o' x y) ρ
          | some false => .ok (.val (.bl false)) ρ2
          | none => .stuck) Q := q
        cases e3 : cmp o v w with
        | none => rw [e3] at q; exact q.elim
        | some k =>
          rw [e3] at q
          refine ⟨Z2, v, w, .val (.bl k), (q1.1.stp rl1 st2 lv2).peek rl2 e1, q2.1.peek rl2 e2, by simp only [cmpR, e3]; rfl, fun z H3 ot => ?_⟩
          obtain ⟨rl3, st3, q3⟩ := ot.use rl2
          obtain ⟨q3, _⟩ := q3
          cases q3
          refine ⟨k, rfl, ?_⟩
          cases k with
          | false =>
            rw [if_neg Bool.false_ne_true]
            exact q (.bl false) Z2 H3 rl3 (st2.trans st3) lv2 ⟨.bl false, trivial⟩
          | true =>
            rw [if_pos rfl]
            refine ⟨Z2, ρ2, rl3, Post.bind (q.on (st2.trans st3) lv2 fun _ _ _ _ _ z => z.back (st2.trans st3)) fun rc ρ4 z4 Z4 H4 _ rl4 st4 lv4 q4 q => ?_⟩
            obtain ⟨r, e, kk⟩ := q.ofO rl4 st4 lv4
            obtain ⟨v', e5, e⟩ := Option.bind_eq_some_iff.mp e
            obtain ⟨w', e6, e⟩ := Option.bind_eq_some_iff.mp e
            exact ⟨Z4, v', w', r, ((q2.1.stp rl2 st3 .refl).stp rl3 st4 lv4).peek rl4 e5, q4.1.peek rl4 e6, e, kk⟩
  exact ⟨fun W tk => ⟨fun pins s σ H Q I q => (pe_chain (ho W tk) (ho' W tk) (ha.pe W tk) (hb.pe W tk) (hc.pe W tk) hm).run pins s σ H Q I (key q)⟩,
    fun W tk => ⟨fun pins s σ H Q I q => (pt_chain (ho W tk) (ho' W tk) (ha.pe W tk) (hb.pe W tk) (hc.pe W tk) hm).run pins s σ H Q I (key (rdT_toE q))⟩, rfl⟩
/-- the test that a piece is -/
theorem tYes_post {W : WX} {Z : Addr → Prop} {ρ : Env} {σ : St} {H : Hp} {Q : VK} {rel : St → Hp → (Addr → Prop) → Hp → Env → R → V → Prop} (hrel : ∀ Z' H' ρ' b x, rel σ H Z' H' ρ' (.val (.bl b)) x → x = .bl b) (h : Post D W Z ρ σ H (relQ σ) (tYes f ρ) (fun b H' => Q (.bl b) H')) :
    Post D W Z ρ σ H (rel σ) (f ρ) Q := by
  refine Post.bind h fun r ρ1 x Z1 H1 e rl1 st1 lv1 q h => ?_
  cases r with
  | val v =>
    cases v with
    | bl b =>
      rw [hrel _ _ _ _ _ q]
      exact h b Z1 H1 rl1 st1 lv1 rfl
    | _ => exact h.elim
  | _ => exact h.elim
theorem relE_bl {σ : St} {H : Hp} {Z' : Addr → Prop} {H' : Hp} {ρ' : Env} {b : Bool} {x : V} (h : relE D σ H Z' H' ρ' (.val (.bl b)) x) : x = .bl b := by
  obtain ⟨h, _⟩ := h
  cases h
  rfl
theorem bind_assoc {α β γ : Type} (x : Res α) (f : α → Env → Res β) (g : β → Env → Res γ) : (x.bind f).bind g = x.bind fun a ρ => (f a ρ).bind g := by cases x <;> rfl
theorem ok_not (ha : EOk D X a f) : EOk D X (.UnaryOp .Not a pos) (cNot f) := by
  refine ⟨fun W tk => ⟨fun pins s σ H Q I h => (pe_not (ha.pe W tk)).run pins s σ H Q I ?_⟩, fun W tk => ⟨fun pins s σ H Q I h => (pt_not (ha.pt W tk)).run pins s σ H Q I ?_⟩, rfl⟩
  · obtain ⟨Z, ρ, rl, h⟩ := h
    have h : Post D W Z ρ σ H (relQ σ) (tYes f ρ) (fun b H' => Q (.bl (!b)) H') := Post.bind h fun b ρ1 b' Z1 H1 _ rl1 st1 lv1 e h => by
      cases e
      exact h _ Z1 H1 rl1 st1 lv1 ⟨.bl _, trivial⟩
    refine ⟨Z, ρ, rl, tYes_post (Q := fun x H' => ∃ c, x = .bl c ∧ Q (.bl (!c)) H') (fun _ _ _ _ _ => relE_bl) ?_⟩
    refine Post.bind (f := fun b ρ => .ok b ρ) (rel := relQ σ) (Q := fun b H' => Q (.bl (!b)) H') (by cases e : tYes f ρ <;> (rw [e] at h; exact h)) fun b ρ1 b' Z1 H1 _ rl1 st1 lv1 e h => ?_
    exact ⟨b', rfl, by cases e; exact h b Z1 H1 rl1 st1 lv1 rfl⟩
  · obtain ⟨Z, ρ, rl, h⟩ := h
    refine ⟨Z, ρ, rl, ?_⟩
    have e0 : tYes (cNot f) ρ = (tYes f ρ).bind fun b ρ => .ok (!b) ρ := by
      show ((tYes f ρ).bind _).bind _ = _
      rw [bind_assoc]
      rfl
    rw [e0] at h
    exact Post.bind h fun b ρ1 b' Z1 H1 _ rl1 st1 lv1 e h => by
      cases e
      exact h _ Z1 H1 rl1 st1 lv1 rfl
theorem ok_ite {c : Expr} (hc : EOk D X c h) (ha : EOk D X a f) (hb : EOk D X b g) : EOk D X (.IfExp c a b pos) (cIte h f g) := by
  refine ⟨fun W tk => ⟨fun pins s σ H Q I q => (pe_ifExp (hc.pt W tk) (ha.pe W tk) (hb.pe W tk)).run pins s σ H Q I ?_⟩, fun W tk => ⟨fun pins s σ H Q I q => ?_⟩, rfl⟩
  · obtain ⟨Z, ρ, rl, q⟩ := q
    refine ⟨Z, ρ, rl, Post.bind q fun k ρ1 k' Z1 H1 _ rl1 st1 lv1 e q => ?_⟩
    cases e
    cases k with
    | true => exact ⟨Z1, ρ1, rl1, q.on st1 lv1 fun _ _ _ _ _ z => z.back st1⟩
    | false => exact ⟨Z1, ρ1, rl1, q.on st1 lv1 fun _ _ _ _ _ z => z.back st1⟩
  · obtain ⟨Z, ρ, rl, q⟩ := q
    have e0 : tYes (cIte h f g) ρ = (tYes h ρ).bind fun b ρ => if b then tYes f ρ else tYes g ρ := by
      show ((tYes h ρ).bind _).bind _ = _
      rw [bind_assoc]
      congr 1
      funext b ρ
      cases b <;> rfl
    rw [e0] at q
    rw [arm_isTrue_IfExp]
    refine wpAny_bind (thn ((hc.pt W tk).run pins s σ H (fun k H1 => ∃ Z1 ρ1, Rl D Z1 ρ1 σ H1 ∧ Post D W Z1 ρ1 σ H1 (relQ σ) (if k then tYes f ρ1 else tYes g ρ1) Q) I ⟨Z, ρ, rl, Post.bind q fun k ρ1 k' Z1 H1 _ rl1 st1 lv1 e q => by
      cases e
      exact ⟨Z1, ρ1, rl1, q.on st1 lv1 fun _ _ _ _ _ z => z⟩⟩) fun k s1 ⟨H1, I1, Z1, ρ1, rl1, q⟩ => ?_)
    cases k with
    | true => exact (ha.pt W tk).run pins s1 σ H1 Q I1 ⟨Z1, ρ1, rl1, q⟩
    | false => exact (hb.pt W tk).run pins s1 σ H1 Q I1 ⟨Z1, ρ1, rl1, q⟩
/-- and, or -/
structure BOk (D : Dom) (X : Cx) (k : Bool) (es : List Expr) (f : Ec) : Prop where
  pe : ∀ W, Takes X W → ∀ pos, PE X (.BoolOp (if k then .And else .Or) es pos) (RdE D W f)
  pw : ∀ W, Takes X W → ∀ pos, PW X (.BoolOp (if k then .And else .Or) es pos) (RdT D W f)
theorem BOk.ok {k : Bool} {es : List Expr} (h : BOk D X k es f) : EOk D X (.BoolOp (if k then .And else .Or) es pos) f := ⟨fun W tk => h.pe W tk pos, fun W tk => (h.pw W tk pos).pt, rfl⟩
theorem tYes_bl (f : Ec) (ρ : Env) : tYes (cBl f) ρ = tYes f ρ := by
  show ((tYes f ρ).bind _).bind _ = _
  rw [bind_assoc]
  cases tYes f ρ <;> rfl
theorem rd_bl {W : WX} {σ : St} {H : Hp} {Q : VK} (h : RdE D W (cBl f) σ H Q) : RdE D W f σ H Q := by
  obtain ⟨Z, ρ, rl, h⟩ := h
  refine ⟨Z, ρ, rl, tYes_post (fun _ _ _ _ _ => relE_bl) ?_⟩
  exact Post.bind (x := tYes f ρ) (f := fun b ρ => (Res.ok (R.val (Val.bl b)) ρ : Res R)) (rel := relE D σ) (rel' := relQ σ) (show Post D W Z ρ σ H (relE D σ) ((tYes f ρ).bind fun b ρ => (Res.ok (R.val (Val.bl b)) ρ : Res R)) Q from h) fun b ρ1 b' Z1 H1 _ rl1 st1 lv1 e h => by
    cases e
    exact h _ Z1 H1 rl1 st1 lv1 ⟨.bl _, trivial⟩
theorem bok_one {k : Bool} (ha : EOk D X a f) : BOk D X k [a] (cBl f) := by
  refine ⟨fun W tk pos => ⟨fun pins s σ H Q I h => (pe_one (ha.pe W tk)).run pins s σ H Q I (rd_bl h)⟩, fun W tk pos => ⟨fun wh pins s σ H Q I h => ?_⟩⟩
  have h : RdT D W f σ H Q := by
    obtain ⟨Z, ρ, rl, h⟩ := h
    rw [tYes_bl] at h
    exact ⟨Z, ρ, rl, h⟩
  cases k with
  | true => exact (pw_and1 (ha.pt W tk)).run wh pins s σ H Q I h
  | false => exact (pw_or1 (ha.pt W tk)).run wh pins s σ H Q I h
theorem rd_test {W : WX} {σ : St} {H : Hp} {Q : VK} (h : Rd D W relQ (tYes f) σ H (fun b H' => Q (.bl b) H')) : RdE D W f σ H Q := by
  obtain ⟨Z, ρ, rl, h⟩ := h
  exact ⟨Z, ρ, rl, tYes_post (fun _ _ _ _ _ => relE_bl) h⟩
theorem bok_cons {k : Bool} {es : List Expr} (ha : EOk D X a f) (hb : BOk D X k (b :: es) g) : BOk D X k (a :: b :: es) (cBop k f g) := by
  refine ⟨fun W tk pos => ⟨fun pins s σ H Q I h => ?_⟩, fun W tk pos => ⟨fun wh pins s σ H Q I h => ?_⟩⟩
  · obtain ⟨Z, ρ, rl, h⟩ := h
    cases k with
    | true =>
      refine (pe_and (ha.pe W tk) (hb.pe W tk pos)).run pins s σ H Q I (rd_test ⟨Z, ρ, rl, Post.bind h fun c ρ1 c' Z1 H1 _ rl1 st1 lv1 e h => ?_⟩)
      cases e
      refine ⟨c, rfl, ?_⟩
      cases c with
      | true =>
        rw [if_pos rfl]
        exact ⟨Z1, ρ1, rl1, h.on st1 lv1 fun _ _ _ _ _ z => z.back st1⟩
      | false =>
        rw [if_neg Bool.false_ne_true]
        exact h _ Z1 H1 rl1 st1 lv1 ⟨.bl _, trivial⟩
    | false =>
      refine (pe_or (ha.pe W tk) (hb.pe W tk pos)).run pins s σ H Q I (rd_test ⟨Z, ρ, rl, Post.bind h fun c ρ1 c' Z1 H1 _ rl1 st1 lv1 e h => ?_⟩)
      cases e
      refine ⟨c, rfl, ?_⟩
      cases c with
      | true =>
        rw [if_pos rfl]
        exact h _ Z1 H1 rl1 st1 lv1 ⟨.bl _, trivial⟩
      | false =>
        rw [if_neg Bool.false_ne_true]
        exact ⟨Z1, ρ1, rl1, h.on st1 lv1 fun _ _ _ _ _ z => z.back st1⟩
  · obtain ⟨Z, ρ, rl, h⟩ := h
    have e0 : tYes (cBop k f g) ρ = (tYes f ρ).bind fun b ρ => if b = k then tYes g ρ else .ok b ρ := by
      show ((tYes f ρ).bind _).bind _ = _
      rw [bind_assoc]
      congr 1
      funext b ρ
      by_cases q : b = k
      · rw [if_pos q, if_pos q]; rfl
      · rw [if_neg q, if_neg q]; rfl
    rw [e0] at h
    cases k with
    | true =>
      refine (pw_and (ha.pt W tk) (hb.pw W tk pos)).run wh pins s σ H Q I ⟨Z, ρ, rl, Post.bind h fun c ρ1 c' Z1 H1 _ rl1 st1 lv1 e h => ?_⟩
      cases e
      cases c with
      | true =>
        rw [if_pos rfl]
        exact ⟨Z1, ρ1, rl1, h.on st1 lv1 fun _ _ _ _ _ z => z⟩
      | false =>
        rw [if_neg Bool.false_ne_true]
        exact h _ Z1 H1 rl1 st1 lv1 rfl
    | false =>
      refine (pw_or (ha.pt W tk) (hb.pw W tk pos)).run wh pins s σ H Q I ⟨Z, ρ, rl, Post.bind h fun c ρ1 c' Z1 H1 _ rl1 st1 lv1 e h => ?_⟩
      cases e
      cases c with
      | true =>
        rw [if_pos rfl]
        exact h _ Z1 H1 rl1 st1 lv1 rfl
      | false =>
        rw [if_neg Bool.false_ne_true]
        exact ⟨Z1, ρ1, rl1, h.on st1 lv1 fun _ _ _ _ _ z => z⟩
end
end Ev

/-! Ev3: several operands, displays, slices, calls of built-ins and defs. -/
namespace Ev
open PySem PySem.Spec PyProof.Rows L2
def isFr : R → Bool
  | .fresh _ => true
  | _ => false
/-- operands, one behind another; new lists stand apart -/
inductive RRels (D : Dom) (σ : St) (H0 : Hp) (Z : Addr → Prop) (H : Hp) (ρ : Env) : List R → List V → Prop where
  | nil : RRels D σ H0 Z H ρ [] []
  | cons {r : R} {x : V} {rs : List R} {xs : List V} (h : relE D σ H0 Z H ρ r x) (ap : isFr r = true → ∀ (i : Nat) r', rs[i]? = some r' → isFr r' = true → xs[i]? ≠ some x) (t : RRels D σ H0 Z H ρ rs xs) : RRels D σ H0 Z H ρ (r :: rs) (x :: xs)
/-- arguments: values, names -/
inductive AArgs (D : Dom) (σ : St) (Z : Addr → Prop) (H : Hp) (ρ : Env) : List R → List V → Prop where
  | nil : AArgs D σ Z H ρ [] []
  | val {v : Val} {x : V} {rs : List R} {xs : List V} (h : Rep D Z H v x) (t : AArgs D σ Z H ρ rs xs) : AArgs D σ Z H ρ (.val v :: rs) (x :: xs)
  | slot {i : Nat} {x : V} {rs : List R} {xs : List V} (l : live (get ρ i) = true) (h : σ[i]? = some (some x)) (t : AArgs D σ Z H ρ rs xs) : AArgs D σ Z H ρ (.slot i :: rs) (x :: xs)
inductive PReps (D : Dom) (Z : Addr → Prop) (H : Hp) : List Val → List V → Prop where
  | nil : PReps D Z H [] []
  | cons {v : Val} {x : V} {vs : List Val} {xs : List V} (h : PRep D Z H v x) (t : PReps D Z H vs xs) : PReps D Z H (v :: vs) (x :: xs)
def relL (D : Dom) (σ : St) (H0 : Hp) (Z : Addr → Prop) (H : Hp) (ρ : Env) (rs : List R) (xs : List V) : Prop := RRels D σ H0 Z H ρ rs xs
def relV (D : Dom) (_ : St) (_ : Hp) (Z : Addr → Prop) (H : Hp) (_ : Env) (vs : List Val) (xs : List V) : Prop := Reps D Z H vs xs
def relA (D : Dom) (σ : St) (_ : Hp) (Z : Addr → Prop) (H : Hp) (ρ : Env) (rs : List R) (xs : List V) : Prop := AArgs D σ Z H ρ rs xs
abbrev RdL (D : Dom) (W : WX) (f : Lc) : TA := Rd D W (relL D) f
abbrev RdV (D : Dom) (W : WX) (f : Vc) : TA := Rd D W (relV D) f
abbrev RdA (D : Dom) (W : WX) (f : Lc) : TA := Rd D W (relA D) f
/-- no star in it -/
def noStars : List Expr → Bool
  | [] => true
  | e :: es => noStar e && noStars es
structure LOk (D : Dom) (X : Cx) (es : List Expr) (f : Lc) : Prop where
  pa : ∀ W, Takes X W → PA X es (RdL D W f)
  ns : noStars es = true
structure VOk (D : Dom) (X : Cx) (es : List Expr) (f : Vc) : Prop where
  pa : ∀ W, Takes X W → PA X es (RdV D W f)
  ns : noStars es = true
structure AOk (D : Dom) (X : Cx) (es : List Expr) (f : Lc) : Prop where
  pa : ∀ W, Takes X W → PA X es (RdA D W f)
  ns : noStars es = true
theorem star_cons {e : Expr} {es : List Expr} {env : PySem.Env} (h : noStar e = true) : starEach (e :: es) env = (false, eval e env) :: starEach es env := by
  cases e <;> first | rfl | cases h
theorem star_any {pos : Pos} {env : PySem.Env} : ∀ {es : List Expr}, noStars es = true → (backTo pos (starEach es env)).any (·.1) = false
  | [], _ => rfl
  | e :: es, h => by
    have h' : noStar e = true ∧ noStars es = true := by simpa [noStars, Bool.and_eq_true] using h
    rw [star_cons h'.1]
    show (false || (backTo pos (starEach es env)).any (·.1)) = false
    rw [star_any h'.2]
    rfl
theorem star_all {pos : Pos} {env : PySem.Env} : ∀ {es : List Expr}, noStars es = true → (backTo pos (starEach es env)).all (fun x => !x.1) = true
  | [], _ => rfl
  | e :: es, h => by
    have h' : noStar e = true ∧ noStars es = true := by simpa [noStars, Bool.and_eq_true] using h
    rw [star_cons h'.1]
    show (!false && (backTo pos (starEach es env)).all (fun x => !x.1)) = true
    rw [star_all h'.2]
    rfl

section
variable {D : Dom} {W : WX} {Z Z' Z2 : Addr → Prop} {ρ ρ' ρ1 ρ2 : Env} {σ σ' σ2 : St} {H H' H0 H1 H2 : Hp}
theorem RRels.back {rs : List R} {xs : List V} (h : RRels D σ H1 Z2 H2 ρ2 rs xs) (st : Stp Z ρ σ H Z' ρ1 σ' H1) : RRels D σ H Z2 H2 ρ2 rs xs := by
  induction h with
  | nil => exact .nil
  | cons h ap t ih => exact .cons (h.back st) ap ih
/-- new lists of later operands weren't there ahead of them -/
theorem RRels.free {rs : List R} {xs : List V} (h : RRels D σ H1 Z2 H2 ρ2 rs xs) : ∀ (i : Nat) r, rs[i]? = some r → isFr r = true → ∀ a, xs[i]? = some (.ref a) → H1 a = none := by
  induction h with
  | nil => intro i r e; simp at e
  | cons h ap t ih =>
    intro i r e fr a ea
    cases i with
    | zero =>
      simp at e ea
      subst e
      subst ea
      have h := h.2
      unfold isFr at fr
      split at fr
      · exact h a rfl
      · cases fr
    | succ i => exact ih i r (by simpa using e) fr a (by simpa using ea)
theorem RRels.peeks {rs : List R} {xs : List V} (h : RRels D σ H0 Z H ρ rs xs) (rl : Rl D Z ρ σ H) : ∀ {vs : List Val}, peeks rs ρ = some vs → PReps D Z H vs xs := by
  induction h with
  | nil =>
    intro vs e
    cases e
    exact .nil
  | cons h ap t ih =>
    intro vs e
    obtain ⟨v, e1, e⟩ := Option.bind_eq_some_iff.mp e
    obtain ⟨ws, e2, e⟩ := Option.map_eq_some_iff.mp e
    subst e
    exact .cons (h.1.peek rl e1) (ih e2)
theorem AArgs.stp {rs : List R} {xs : List V} (h : AArgs D σ Z H ρ rs xs) (hz : ∀ a, Z a → Z' a) (hk : Kp Z H H') (lv : Lv ρ ρ') : AArgs D σ Z' H' ρ' rs xs := by
  induction h with
  | nil => exact .nil
  | val h t ih => exact .val (h.mono hz hk) ih
  | slot l h t ih => exact .slot (lv _ l) h ih
end

section
variable {D : Dom} {X : Cx} {e : Expr} {es : List Expr} {f : Ec} {pos : Pos}
theorem lok_nil : LOk D X [] lNil := ⟨fun W tk => ⟨fun ps pins s σ H Q I h => pa_nil.run ps pins s σ H Q I (by
  obtain ⟨Z, ρ, rl, h⟩ := h
  exact h [] Z H rl .refl .refl .nil)⟩, rfl⟩
theorem vok_nil : VOk D X [] vNil := ⟨fun W tk => ⟨fun ps pins s σ H Q I h => pa_nil.run ps pins s σ H Q I (by
  obtain ⟨Z, ρ, rl, h⟩ := h
  exact h [] Z H rl .refl .refl .nil)⟩, rfl⟩
theorem aok_nil : AOk D X [] lNil := ⟨fun W tk => ⟨fun ps pins s σ H Q I h => pa_nil.run ps pins s σ H Q I (by
  obtain ⟨Z, ρ, rl, h⟩ := h
  exact h [] Z H rl .refl .refl .nil)⟩, rfl⟩
theorem ns_cons (h : noStar e = true) (t : noStars es = true) : noStars (e :: es) = true := by simp [noStars, h, t]
theorem lok_cons {g : Lc} (h : EOk D X e f) (t : LOk D X es g) : LOk D X (e :: es) (lCons f g) := by
  refine ⟨fun W tk => ⟨fun ps pins s σ H Q I q => (pa_cons (h.pe W tk) (t.pa W tk) (star_cons h.ns)).run ps pins s σ H Q I ?_⟩, ns_cons h.ns t.ns⟩
  obtain ⟨Z, ρ, rl, q⟩ := q
  refine ⟨Z, ρ, rl, Post.bind q fun r ρ1 x Z1 H1 _ rl1 st1 lv1 q1 q => ⟨Z1, ρ1, rl1, ?_⟩⟩
  refine Post.bind2 q st1 lv1 fun rs ρ2 xs Z2 H2 _ rl2 st2 lv2 q2 q => ?_
  refine q (x :: xs) Z2 H2 rl2 (st1.trans st2) (lv1.trans lv2) (.cons ⟨q1.1.stp rl1 st2 lv2, q1.2⟩ (fun fr i r' e1 fr' e2 => ?_) (RRels.back q2 st1))
  cases r with
  | fresh vs =>
    obtain ⟨a, ys, rfl, _, _, ha, _⟩ := q1.1
    have z := RRels.free q2 i r' e1 fr' a e2
    rw [ha] at z
    cases z
  | _ => exact nomatch fr
theorem vok_cons {g : Vc} (h : EOk D X e f) (t : VOk D X es g) : VOk D X (e :: es) (vCons f g) := by
  refine ⟨fun W tk => ⟨fun ps pins s σ H Q I q => (pa_cons (h.pe W tk) (t.pa W tk) (star_cons h.ns)).run ps pins s σ H Q I ?_⟩, ns_cons h.ns t.ns⟩
  obtain ⟨Z, ρ, rl, q⟩ := q
  refine ⟨Z, ρ, rl, Post.bind q fun r ρ1 x Z1 H1 _ rl1 st1 lv1 q1 q => ?_⟩
  cases e1 : frz r ρ1 with
  | none => rw [e1] at q; exact q.elim
  | some p =>
    obtain ⟨v, ρ1'⟩ := p
    rw [e1] at q
    obtain ⟨Z1', z1, rl1', st1', lv1', rp⟩ := frz_ok st1 q1.2 q1.1 rl1 e1
    refine ⟨Z1', ρ1', rl1', Post.bind2 q st1' (lv1.trans lv1') fun vs ρ2 xs Z2 H2 _ rl2 st2 lv2 q2 q => ?_⟩
    exact q (x :: xs) Z2 H2 rl2 (st1'.trans st2) ((lv1.trans lv1').trans lv2) (.cons (rp.stp rl1' st2) q2)
/-- an argument -/
theorem lend_ok {Z : Addr → Prop} {ρ ρ' : Env} {σ : St} {H : Hp} {Z0 : Addr → Prop} {ρ0 : Env} {H0 : Hp} {bs : List Bool} {r r' : R} {x : V} (st : Stp Z0 ρ0 σ H0 Z ρ σ H) (q : relE D σ H0 Z H ρ r x) (rl : Rl D Z ρ σ H) (e : lend bs r ρ = some (r', ρ')) :
    ∃ Z', (∀ a, Z a → Z' a) ∧ Rl D Z' ρ' σ H ∧ Stp Z0 ρ0 σ H0 Z' ρ' σ H ∧ Lv ρ ρ' ∧ ((∃ v, r' = .val v ∧ Rep D Z' H v x) ∨ ∃ i, r' = .slot i ∧ live (get ρ' i) = true ∧ σ[i]? = some (some x)) := by
  have plain : ∀ {p : Option (Val × Env)}, p = frz r ρ → (p.map fun (v, ρ) => (R.val v, ρ)) = some (r', ρ') → ∃ Z', (∀ a, Z a → Z' a) ∧ Rl D Z' ρ' σ H ∧ Stp Z0 ρ0 σ H0 Z' ρ' σ H ∧ Lv ρ ρ' ∧ ((∃ v, r' = .val v ∧ Rep D Z' H v x) ∨ ∃ i, r' = .slot i ∧ live (get ρ' i) = true ∧ σ[i]? = some (some x)) := fun {p} ep e => by
    obtain ⟨⟨v, ρ1⟩, e1, e⟩ := Option.map_eq_some_iff.mp e
    simp only [Prod.mk.injEq] at e
    obtain ⟨rfl, rfl⟩ := e
    obtain ⟨Z', a, b, c, d, r⟩ := frz_ok st q.2 q.1 rl (ep.symm.trans e1)
    exact ⟨Z', a, b, c, d, .inl ⟨v, rfl, r⟩⟩
  cases bs with
  | nil => exact plain rfl e
  | cons b bs =>
    cases b with
    | false => exact plain rfl e
    | true =>
      cases r with
      | val v => exact plain rfl e
      | fresh vs => exact plain rfl e
      | slot i =>
        obtain ⟨lv, hx⟩ := q.1
        cases g : get ρ i with
        | no => rw [g] at lv; cases lv
        | sh l v =>
          simp only [lend, g, Option.some.injEq, Prod.mk.injEq] at e
          obtain ⟨rfl, rfl⟩ := e
          exact ⟨Z, fun _ h => h, rl, st, .refl, .inr ⟨i, rfl, lv, hx⟩⟩
        | ow l v =>
          simp only [lend, g, Option.some.injEq, Prod.mk.injEq] at e
          obtain ⟨rfl, rfl⟩ := e
          exact ⟨Z, fun _ h => h, rl, st, .refl, .inr ⟨i, rfl, lv, hx⟩⟩
        | rd l vs =>
          refine plain (p := some (.lst vs, put ρ i (.sh l (.lst vs)))) ?_ ?_
          · simp only [frz, g]
          · simp only [lend, g] at e
            exact e
theorem aok_cons {bs : List Bool} {g : Lc} (h : EOk D X e f) (t : AOk D X es g) : AOk D X (e :: es) (aCons bs f g) := by
  refine ⟨fun W tk => ⟨fun ps pins s σ H Q I q => (pa_cons (h.pe W tk) (t.pa W tk) (star_cons h.ns)).run ps pins s σ H Q I ?_⟩, ns_cons h.ns t.ns⟩
  obtain ⟨Z, ρ, rl, q⟩ := q
  refine ⟨Z, ρ, rl, Post.bind q fun r ρ1 x Z1 H1 _ rl1 st1 lv1 q1 q => ?_⟩
  cases e1 : lend bs r ρ1 with
  | none => rw [e1] at q; exact q.elim
  | some p =>
    obtain ⟨r', ρ1'⟩ := p
    rw [e1] at q
    obtain ⟨Z1', z1, rl1', st1', lv1', rp⟩ := lend_ok st1 q1 rl1 e1
    refine ⟨Z1', ρ1', rl1', Post.bind2 q st1' (lv1.trans lv1') fun rs ρ2 xs Z2 H2 _ rl2 st2 lv2 q2 q => ?_⟩
    refine q (x :: xs) Z2 H2 rl2 (st1'.trans st2) ((lv1.trans lv1').trans lv2) ?_
    rcases rp with ⟨v, rfl, rp⟩ | ⟨i, rfl, l, hx⟩
    · exact .val (rp.stp rl1' st2) q2
    · exact .slot (lv2 _ l) hx q2
theorem reps_len {D : Dom} {Z : Addr → Prop} {H : Hp} {vs : List Val} {xs : List V} (r : Reps D Z H vs xs) (h : len vs ≤ line) : xs.length ≤ sizeLine := by
  rw [← r.len]
  exact Nat.le_trans h (by decide)
/-- (a, b, ..): a new tuple, told to the object -/
def tTupF (t : TA) : TE := fun σ H Q => t σ H fun xs H1 => xs.length ≤ sizeLine ∧ ∀ p o, H1 p = none → o.dict = none → Q (.ref p) (upd H1 p (.frz o (.tup xs)))
theorem new_tup {X : Cx} {pins : List (Addr × Obj)} {σ : St} {H : Hp} {s : Shared} {xs : List V} {its : List Value} {t' : Nat} (I : L2.Inv X pins σ H s) (r : Vals xs its) (hz : xs.length ≤ sizeLine) :
    L2.Inv X pins σ (upd H s.heap.objs.size (.frz { cls := .type "tuple", data := .seq its.toArray } (.tup xs))) { s with heap := s.heap.push { cls := .type "tuple", data := .seq its.toArray }, toks := t' } :=
  I.laid (o := .frz { cls := .type "tuple", data := .seq its.toArray } (.tup xs)) (fun _ _ q => Heap.get?_push_of_some _ q) (Nat.le_refl _) ⟨Heap.get?_push_size _ rfl, hz, its, r, IsTup.new _ _⟩
theorem pe_tupF {X : Cx} {es : List Expr} {t : TA} {x1 : Nat} {pos : Pos} (h : PA X es t) : PE X (.Tuple es x1 pos) (tTupF t) := by
  refine ⟨fun pins s σ H Q I hw => ?_⟩
  refine Tuple_ (thn (h.run _ pins s σ H _ I hw) fun us s1 ⟨xs, H1, I1, r, hz, q⟩ => ?_)
  refine wpAny_newObj_type ?_ (by show us.toArray.size ≤ sizeLine; rw [List.size_toArray, ← r.length]; exact hz)
  exact ⟨.ref s1.heap.objs.size, _, new_tup (t' := s1.toks) I1 r hz, rfl, q _ _ (I1.hok.fresh (Nat.le_refl _)) rfl⟩
theorem ok_tup {k : Nat} {g : Vc} (t : VOk D X es g) : EOk D X (.Tuple es k pos) (cTup g) := by
  refine .mk' (fun W tk => ⟨fun pins s σ H Q I q => (pe_tupF (t.pa W tk)).run pins s σ H Q I ?_⟩) rfl (fun _ => rfl)
  obtain ⟨Z, ρ, rl, q⟩ := q
  refine ⟨Z, ρ, rl, Post.bind q fun vs ρ1 xs Z1 H1 _ rl1 st1 lv1 q1 q => ?_⟩
  by_cases hl : len vs ≤ line
  · rw [if_pos hl] at q
    refine ⟨reps_len q1 hl, fun p ob hp hd => ?_⟩
    have o : Out D Z1 H1 (.val (.tup vs)) (.ref p) (upd H1 p (.frz ob (.tup xs))) := ⟨.upd hp, .tup (.inl ⟨ob, upd_same, hd⟩) (q1.mono (fun _ h => h) (Grow.upd hp).kp)⟩
    obtain ⟨a, b, c⟩ := o.use rl1
    exact q _ Z1 _ a (st1.trans b) lv1 (c.back st1)
  · rw [if_neg hl] at q
    exact q.elim
theorem ok_lst {g : Vc} (t : VOk D X es g) : EOk D X (.List es pos) (cLst g) := by
  refine .mk' (fun W tk => ⟨fun pins s σ H Q I q => (pe_lst (t.pa W tk)).run pins s σ H Q I ?_⟩) rfl (fun _ => rfl)
  obtain ⟨Z, ρ, rl, q⟩ := q
  refine ⟨Z, ρ, rl, Post.bind q fun vs ρ1 xs Z1 H1 _ rl1 st1 lv1 q1 q => ?_⟩
  by_cases hl : len vs ≤ line
  · rw [if_pos hl] at q
    refine ⟨reps_len q1 hl, fun p hp => ?_⟩
    have o : Out D Z1 H1 (.fresh vs) (.ref p) (upd H1 p (.lst xs)) := ⟨.upd hp, p, xs, rfl, hp, upd_same, q1.mono (fun _ h => h) (Grow.upd hp).kp⟩
    obtain ⟨a, b, c⟩ := o.use rl1
    exact q _ Z1 _ a (st1.trans b) lv1 (c.back st1)
  · rw [if_neg hl] at q
    exact q.elim
/-- a built-in by its operands' values -/
abbrev rL (D : Dom) (op : List Val → Option R) : List V → Hp → VK → Prop := fun xs H Q => ∃ Z vs r, PReps D Z H vs xs ∧ op vs = some r ∧ ∀ z H', Out D Z H r z H' → Q z H'
theorem rd_L {W : WX} {op : List Val → Option R} {g : Lc} {σ : St} {H : Hp} {Q : VK} (h : RdE D W (cL op g) σ H Q) : RdL D W g σ H (fun xs H' => rL D op xs H' Q) := by
  obtain ⟨Z, ρ, rl, h⟩ := h
  refine ⟨Z, ρ, rl, Post.bind h fun rs ρ1 xs Z1 H1 _ rl1 st1 lv1 q1 h => ?_⟩
  obtain ⟨r, e, k⟩ := h.ofO rl1 st1 lv1
  obtain ⟨vs, e1, e⟩ := Option.bind_eq_some_iff.mp e
  exact ⟨Z1, vs, r, RRels.peeks q1 rl1 e1, e, k⟩
theorem ok_bltn {id : String} {x : Str} {p : Pos} {op : List Val → Option R} {g : Lc} (hc : ∀ W, Takes X W → CallR X (.builtin id) (rL D op)) (hg : Gl X x) (hm : X.mg x = none) (hv : bootBuiltins x = some (.builtin id)) (hn : x ≠ "__name__") (hdb : (x == ("__debug__" : Str)) = false) (t : LOk D X (e :: es) g) :
    EOk D X (.Call (.Name x p) (e :: es) [] pos) (cL op g) := by
  have ns : noStar e = true ∧ noStars es = true := by simpa [noStars, Bool.and_eq_true] using t.ns
  exact .mk' (fun W tk => ⟨fun pins s σ H Q I q => (pe_callB (hc W tk) hg hm hv (t.pa W tk) hn hdb (star_cons ns.1) (star_any ns.2)).run pins s σ H Q I (rd_L q)⟩) rfl (fun _ => rfl)
theorem ok_blty {id : String} {x : Str} {p : Pos} {op : List Val → Option R} {g : Lc} (hc : ∀ W, Takes X W → CallR X (.type id) (rL D op)) (hg : Gl X x) (hm : X.mg x = none) (hv : bootBuiltins x = some (.type id)) (hn : x ≠ "__name__") (hdb : (x == ("__debug__" : Str)) = false) (t : LOk D X (e :: es) g) :
    EOk D X (.Call (.Name x p) (e :: es) [] pos) (cL op g) := by
  have ns : noStar e = true ∧ noStars es = true := by simpa [noStars, Bool.and_eq_true] using t.ns
  exact .mk' (fun W tk => ⟨fun pins s σ H Q I q => (pe_callTy (hc W tk) hg hm hv (t.pa W tk) hn hdb (star_cons ns.1) (star_any ns.2)).run pins s σ H Q I (rd_L q)⟩) rfl (fun _ => rfl)
end
end Ev

/-! Ev4: calls of defs. -/
namespace Ev
open PySem PySem.Spec PyProof.Rows L2
/-- marks alone were changed -/
structure Sub (ρ ρ' : Env) : Prop where
  ow : ∀ i, owns (get ρ' i) = true → owns (get ρ i) = true
  wr : ∀ i, writes (get ρ' i) = true → writes (get ρ i) = true
  lk : ∀ i, locked (get ρ' i) = locked (get ρ i)
  lv : ∀ i, live (get ρ i) = true → live (get ρ' i) = true
  len : ρ'.length = ρ.length
theorem Sub.refl {ρ : Env} : Sub ρ ρ := ⟨fun _ h => h, fun _ h => h, fun _ => rfl, fun _ h => h, rfl⟩
theorem Sub.trans {ρ ρ1 ρ2 : Env} (a : Sub ρ ρ1) (b : Sub ρ1 ρ2) : Sub ρ ρ2 := ⟨fun i h => a.ow i (b.ow i h), fun i h => a.wr i (b.wr i h), fun i => (b.lk i).trans (a.lk i), fun i h => b.lv i (a.lv i h), b.len.trans a.len⟩
theorem Sub.put {ρ : Env} {i : Nat} {s : Sl} (ho : owns s = true → owns (get ρ i) = true) (hw : writes s = true → writes (get ρ i) = true) (hl : locked s = locked (get ρ i)) (hv : live (get ρ i) = true → live s = true) : Sub ρ (Ev.put ρ i s) := by
  refine ⟨fun j h => ?_, fun j h => ?_, fun j => lock_put hl, Lv.put hv, put_length⟩
  · rcases get_put ρ i j s with ⟨e, ⟨g, _⟩ | ⟨g, _⟩⟩ | ⟨_, g⟩
    · rw [g] at h; rw [e]; exact ho h
    · rw [g] at h; cases h
    · rw [g] at h; exact h
  · rcases get_put ρ i j s with ⟨e, ⟨g, _⟩ | ⟨g, _⟩⟩ | ⟨_, g⟩
    · rw [g] at h; rw [e]; exact hw h
    · rw [g] at h; cases h
    · rw [g] at h; exact h
section
variable {D : Dom} {W : WX} {Z Z' Z2 : Addr → Prop} {ρ ρ' ρ1 ρ2 : Env} {σ σ' σ2 : St} {H H' H0 H1 H2 : Hp}
theorem Sub.own (s : Sub ρ ρ') {a : Addr} (h : Ow ρ' σ a) : Ow ρ σ a := let ⟨i, h1, h2⟩ := h; ⟨i, s.ow i h1, h2⟩
theorem Sub.wri (s : Sub ρ ρ') {a : Addr} (h : Wr ρ' σ a) : Wr ρ σ a := let ⟨i, h1, h2⟩ := h; ⟨i, s.wr i h1, h2⟩
/-- the i-th slot is lent -/
def Lent (i : Nat) : List R → List Sl → Prop
  | .slot j :: rs, .ow _ _ :: sl => j = i ∨ Lent i rs sl
  | _ :: rs, _ :: sl => Lent i rs sl
  | _, _ => False

/-- the arguments stand at the callee's slots -/
theorem binds_ok : ∀ {rs : List R} {xs : List V} {ρ ρ0 : Env} {sl : List Sl}, AArgs D σ Z H ρ0 rs xs → Rl D Z ρ σ H → binds rs ρ = some sl →
    Rl D Z sl (xs.map some) H ∧ (∀ a, Ow sl (xs.map some) a → ∃ i, Lent i rs sl ∧ writes (get ρ i) = true ∧ σ[i]? = some (some (.ref a))) ∧ ∀ i, get sl i = .no ∨ (∃ v, get sl i = .sh false v) ∨ ∃ vs, get sl i = .ow true vs
  | _, _, ρ, _, sl, .nil, rl, e => by
    cases e
    exact ⟨⟨fun i => trivial, fun i j a h => (nomatch h.1), rfl, rl.zt⟩, fun a ⟨i, h, _⟩ => (nomatch h), fun i => .inl rfl⟩
  | _, _, ρ, _, sl, .val (v := v) (x := x) h t, rl, e => by
    obtain ⟨sl', e1, e⟩ := Option.map_eq_some_iff.mp e
    subst e
    obtain ⟨r, w, f⟩ := binds_ok t rl e1
    refine ⟨⟨fun i => ?_, fun i j a h1 h2 => ?_, by simpa using r.len, rl.zt⟩, fun a ⟨i, h1, h2⟩ => ?_, fun i => ?_⟩
    · cases i with
      | zero => exact ⟨x, rfl, h⟩
      | succ i =>
        rw [List.map_cons, List.getElem?_cons_succ]
        exact r.slot i
    · cases i with
      | zero => exact nomatch h1.1
      | succ i =>
        cases j with
        | zero => exact nomatch h2.1
        | succ j => exact congrArg (· + 1) (r.apart i j a ⟨h1.1, by simpa using h1.2⟩ ⟨h2.1, by simpa using h2.2⟩)
    · cases i with
      | zero => exact nomatch h1
      | succ i => exact w a ⟨i, h1, by simpa using h2⟩
    · cases i with
      | zero => exact .inr (.inl ⟨v, rfl⟩)
      | succ i => exact f i
  | _, _, ρ, _, sl, .slot (i := i) (x := x) l h t, rl, e => by
    have so := rl.slot i
    simp only [binds] at e
    cases g : get ρ i with
    | no => rw [g] at e; cases e
    | rd lk vs => rw [g] at e; cases e
    | sh lk v =>
      rw [g] at e so
      obtain ⟨sl', e1, e⟩ := Option.map_eq_some_iff.mp e
      subst e
      obtain ⟨r, w, f⟩ := binds_ok t rl e1
      obtain ⟨y, ey, q⟩ := so
      rw [h] at ey
      cases ey
      refine ⟨⟨fun i => ?_, fun i j a h1 h2 => ?_, by simpa using r.len, rl.zt⟩, fun a ⟨i, h1, h2⟩ => ?_, fun i => ?_⟩
      · cases i with
        | zero => exact ⟨x, rfl, q⟩
        | succ i =>
        rw [List.map_cons, List.getElem?_cons_succ]
        exact r.slot i
      · cases i with
        | zero => exact nomatch h1.1
        | succ i =>
          cases j with
          | zero => exact nomatch h2.1
          | succ j => exact congrArg (· + 1) (r.apart i j a ⟨h1.1, by simpa using h1.2⟩ ⟨h2.1, by simpa using h2.2⟩)
      · cases i with
        | zero => exact nomatch h1
        | succ i => exact w a ⟨i, h1, by simpa using h2⟩
      · cases i with
        | zero => exact .inr (.inl ⟨v, rfl⟩)
        | succ i => exact f i
    | ow lk vs =>
      rw [g] at e so
      obtain ⟨sl', e1, e⟩ := Option.map_eq_some_iff.mp e
      subst e
      have rl' : Rl D Z (Ev.put ρ i .no) σ H := rl.put trivial (fun z => nomatch z)
      obtain ⟨r, w, f⟩ := binds_ok t rl' e1
      obtain ⟨a0, ys, ey, nz, ha, q⟩ := so
      rw [h] at ey
      cases ey
      have wback : ∀ {rs sl} a, (∃ j, Lent j rs sl ∧ writes (get (Ev.put ρ i .no) j) = true ∧ σ[j]? = some (some (.ref a))) → (∃ j, Lent j rs sl ∧ writes (get ρ j) = true ∧ σ[j]? = some (some (.ref a))) ∧ a ≠ a0 := fun {rs sl} a ⟨j, l, h1, h2⟩ => by
        rcases get_put ρ i j .no with ⟨e, ⟨g', _⟩ | ⟨g', _⟩⟩ | ⟨ne, g'⟩
        · rw [g'] at h1; cases h1
        · rw [g'] at h1; cases h1
        · rw [g'] at h1
          refine ⟨⟨j, l, h1, h2⟩, fun z => ?_⟩
          subst z
          exact ne (rl.apart j i a ⟨writes_owns h1, h2⟩ ⟨by rw [g]; rfl, h⟩)
      refine ⟨⟨fun i => ?_, fun i j a h1 h2 => ?_, by simpa using r.len, rl.zt⟩, fun a ⟨j, h1, h2⟩ => ?_, fun i => ?_⟩
      · cases i with
        | zero => exact ⟨a0, ys, rfl, nz, ha, q⟩
        | succ i =>
        rw [List.map_cons, List.getElem?_cons_succ]
        exact r.slot i
      · cases i with
        | zero =>
          cases j with
          | zero => rfl
          | succ j =>
            have z := (wback a (w a ⟨j, h2.1, by simpa using h2.2⟩)).2
            have e : a0 = a := by simpa using h1.2
            exact absurd e.symm z
        | succ i =>
          cases j with
          | zero =>
            have z := (wback a (w a ⟨i, h1.1, by simpa using h1.2⟩)).2
            have e : a0 = a := by simpa using h2.2
            exact absurd e.symm z
          | succ j => exact congrArg (· + 1) (r.apart i j a ⟨h1.1, by simpa using h1.2⟩ ⟨h2.1, by simpa using h2.2⟩)
      · cases j with
        | zero =>
          have e : a0 = a := by simpa using h2
          subst e
          exact ⟨i, .inl rfl, by rw [g]; rfl, h⟩
        | succ j =>
          obtain ⟨i', l, h1, h2⟩ := (wback a (w a ⟨j, h1, by simpa using h2⟩)).1
          exact ⟨i', .inr l, h1, h2⟩
      · cases i with
        | zero => exact .inr (.inr ⟨vs, rfl⟩)
        | succ i => exact f i
theorem lent_ow : ∀ {rs : List R} {xs : List V} {ρ ρ0 : Env} {sl : List Sl} {i : Nat}, AArgs D σ Z H ρ0 rs xs → binds rs ρ = some sl → Lent i rs sl → ∃ lk vs x, get ρ i = .ow lk vs ∧ σ[i]? = some (some x) ∧ ∃ p, get sl p = .ow true vs ∧ xs[p]? = some x
  | _, _, _, _, _, _, .nil, e, h => by cases e; exact h.elim
  | _, _, ρ, _, sl, i, .val (v := v) (x := x) h t, e, l => by
    obtain ⟨sl', e1, e⟩ := Option.map_eq_some_iff.mp e
    subst e
    obtain ⟨lk, vs, y, a, b, p, c, d⟩ := lent_ow (i := i) t e1 l
    exact ⟨lk, vs, y, a, b, p + 1, c, by simpa using d⟩
  | _, _, ρ, _, sl, i, .slot (i := j) (x := x) lv h t, e, l => by
    simp only [binds] at e
    cases g : get ρ j with
    | no => rw [g] at e; cases e
    | rd lk vs => rw [g] at e; cases e
    | sh lk v =>
      rw [g] at e
      obtain ⟨sl', e1, e⟩ := Option.map_eq_some_iff.mp e
      subst e
      obtain ⟨lk, vs, y, a, b, p, c, d⟩ := lent_ow (i := i) t e1 l
      exact ⟨lk, vs, y, a, b, p + 1, c, by simpa using d⟩
    | ow lk vs =>
      rw [g] at e
      obtain ⟨sl', e1, e⟩ := Option.map_eq_some_iff.mp e
      subst e
      rcases l with rfl | l
      · exact ⟨lk, vs, x, g, h, 0, rfl, rfl⟩
      · obtain ⟨lk', vs', y, a, b, p, c, d⟩ := lent_ow (i := i) t e1 l
        rcases get_put ρ j i .no with ⟨e, ⟨g', _⟩ | ⟨g', _⟩⟩ | ⟨ne, g'⟩
        · rw [g'] at a; cases a
        · rw [g'] at a; cases a
        · rw [g'] at a
          exact ⟨lk', vs', y, a, b, p + 1, c, by simpa using d⟩
theorem slots_tail {o : Sl} {os : List Sl} {x : V} {xs : List V} (hs : ∀ p, SlotOk D Z' H' (get (o :: os) p) ((x :: xs).map some)[p]?) : ∀ p, SlotOk D Z' H' (get os p) (xs.map some)[p]? := fun p => by
  have z := hs (p + 1)
  rw [List.map_cons, List.getElem?_cons_succ] at z
  exact z
/-- what is lent comes back -/
theorem outs_ok {rs : List R} {xs : List V} {ρ0 : Env} (h : AArgs D σ Z H ρ0 rs xs) : ∀ {ρ ρc : Env} {sl os : List Sl}, binds rs ρ = some sl →
    (∀ p, SlotOk D Z' H' (get os p) (xs.map some)[p]?) → (∀ p vs, get sl p = .ow true vs → (∃ v, get os p = .sh true v) ∨ ∃ v, get os p = .ow true v) → (∀ p v, get sl p = .sh false v → get os p = .no) →
    (∀ i, Lent i rs sl → get ρc i = get ρ i) → (∀ i, ¬ Lent i rs sl → SlotOk D Z' H' (get ρc i) σ[i]?) → os.length = xs.length →
    Sub ρc (outs rs os ρc) ∧ ∀ i, SlotOk D Z' H' (get (outs rs os ρc) i) σ[i]? := by
  induction h with
  | nil =>
    intro ρ ρc sl os e hs hl hw hc hn hz
    cases e
    cases os with
    | nil => exact ⟨.refl, fun i => hn i fun h => h⟩
    | cons o os => cases hz
  | @val v x rs xs h t ih =>
    intro ρ ρc sl os e hs hl hw hc hn hz
    obtain ⟨sl', e1, e⟩ := Option.map_eq_some_iff.mp e
    subst e
    cases os with
    | nil => cases hz
    | cons o os =>
      have e0 : outs (.val v :: rs) (o :: os) ρc = outs rs os ρc := by cases o <;> rfl
      rw [e0]
      exact ih e1 (slots_tail hs) (fun p vs q => hl (p + 1) vs q) (fun p v q => hw (p + 1) v q) hc hn (by simpa using hz)
  | @slot j x rs xs lv h t ih =>
    intro ρ ρc sl os e hs hl hw hc hn hz
    cases os with
    | nil => cases hz
    | cons o os =>
      have ht := slots_tail hs
      have hz' : os.length = xs.length := by simpa using hz
      simp only [binds] at e
      cases g : get ρ j with
      | no => rw [g] at e; cases e
      | rd lk vs => rw [g] at e; cases e
      | sh lk v =>
        rw [g] at e
        obtain ⟨sl', e1, e⟩ := Option.map_eq_some_iff.mp e
        subst e
        have o0 : o = .no := hw 0 v rfl
        subst o0
        exact ih e1 ht (fun p vs q => hl (p + 1) vs q) (fun p v q => hw (p + 1) v q) hc hn hz'
      | ow lk vs =>
        rw [g] at e
        obtain ⟨sl', e1, e⟩ := Option.map_eq_some_iff.mp e
        subst e
        have gj : get ρc j = .ow lk vs := (hc j (.inl rfl)).trans g
        -- j stands once
        have nj : ¬ Lent j rs sl' := fun l => by
          obtain ⟨lk', vs', y, a, _⟩ := lent_ow t e1 l
          rcases get_put ρ j j .no with ⟨_, ⟨g', _⟩ | ⟨g', _⟩⟩ | ⟨ne, _⟩
          · rw [g'] at a; cases a
          · rw [g'] at a; cases a
          · exact ne rfl
        have back : ∀ s : Sl, SlotOk D Z' H' s (some (some x)) → owns s = true ∨ True → (writes s = true → True) → locked s = lk → live s = true →
            Sub ρc (outs rs os (Ev.put ρc j s)) ∧ ∀ i, SlotOk D Z' H' (get (outs rs os (Ev.put ρc j s)) i) σ[i]? := fun s hs0 _ _ hlk hlv => by
          have z := ih (ρ := Ev.put ρ j .no) (ρc := Ev.put ρc j s) (os := os) e1 ht (fun p vs q => hl (p + 1) vs q) (fun p v q => hw (p + 1) v q) (fun i l => ?_) (fun i l => ?_) hz'
          · exact ⟨(Sub.put (fun _ => by rw [gj]; rfl) (fun _ => by rw [gj]; rfl) (by rw [gj]; exact hlk) (fun _ => hlv)).trans z.1, z.2⟩
          · have ne : i ≠ j := fun e => nj (e ▸ l)
            rw [get_put_ne (Ne.symm ne), get_put_ne (Ne.symm ne)]
            exact hc i (.inr l)
          · rcases get_put ρc j i s with ⟨e, ⟨g', _⟩ | ⟨g', _⟩⟩ | ⟨ne, g'⟩
            · rw [g', e, h]; exact hs0
            · rw [g']; trivial
            · rw [g']
              exact hn i fun z => z.elim (fun e => ne e.symm) l
        rcases hl 0 vs rfl with ⟨v, ov⟩ | ⟨v, ov⟩
        · have ov : o = .sh true v := ov
          subst ov
          have z := back (.sh lk v) (hs 0) (.inr trivial) (fun _ => trivial) rfl rfl
          have e0 : outs (.slot j :: rs) (.sh true v :: os) ρc = outs rs os (Ev.put ρc j (.sh lk v)) := by simp only [outs, gj]
          rw [e0]
          exact z
        · have ov : o = .ow true v := ov
          subst ov
          have z := back (.ow lk v) (hs 0) (.inr trivial) (fun _ => trivial) rfl rfl
          have e0 : outs (.slot j :: rs) (.ow true v :: os) ρc = outs rs os (Ev.put ρc j (.ow lk v)) := by simp only [outs, gj]
          rw [e0]
          exact z

/-- what a def promises: what the evaluator says -/
def spRun (D : Dom) (T : Tab) (k j : Nat) : Sp := fun vs H Q E => ∃ Z args, Rl D Z args (vs.map some) H ∧ (∀ i, get args i = .no ∨ (∃ v, get args i = .sh false v) ∨ ∃ vs, get args i = .ow true vs) ∧
  match run T k j args with
  | .ok r os => ∀ x Z' H', Rl D Z' os (vs.map some) H' → Stp Z args (vs.map some) H Z' os (vs.map some) H' → RRel D Z' H' os (vs.map some) r x → (∀ i, r ≠ .slot i) → Fresh H r x → (∀ i, get os i = .no ∨ locked (get os i) = true) → (∀ i vs, get os i ≠ .rd true vs) → Q x H'
  | .exc kk p => noLent args = true ∧ ∀ cls d Z' H', Rl D Z' args (vs.map some) H' → Stp Z args (vs.map some) H Z' args (vs.map some) H' → XR D Z' H' kk p cls d → E cls d H'
  | .stuck => False
/-- every def of the table keeps its promise -/
structure FOk (D : Dom) (T : Tab) (X : Cx) (k j : Nat) : Prop where
  ex : ∃ fd ps, FnOk X.prog X.w X.K X.mg X.base (L2.CX X.prog X.w) k (D.adr j) fd ps (spRun D T k j) ∧ Binds X.K fd ps []
  kp : PySem.W.keepIn X.K (.ref (D.adr j)) = true
def tRun (D : Dom) (T : Tab) (W : WX) (k j : Nat) (t : TA) : TE := fun σ H Q => t σ H fun vs H1 => spRun D T k j vs H1 Q (WE W σ)
/-- behind a call, in the caller's frame -/
theorem call_end {sl os : List Sl} {rs : List R} {xs : List V} (rl : Rl D Z ρ σ H) (wr : ∀ a, Ow sl (xs.map some) a → ∃ i, Lent i rs sl ∧ writes (get ρ i) = true ∧ σ[i]? = some (some (.ref a))) (st : Stp Z sl (xs.map some) H Z' os (xs.map some) H')
    (sub : Sub ρ ρ') (so : ∀ i, SlotOk D Z' H' (get ρ' i) σ[i]?) (zt : ∀ a, Z' a → H' a ≠ none) : Rl D Z' ρ' σ H' ∧ Stp Z ρ σ H Z' ρ' σ H' := by
  have wo : ∀ a, Ow sl (xs.map some) a → Wr ρ σ a := fun a h => let ⟨i, _, h1, h2⟩ := wr a h; ⟨i, h1, h2⟩
  refine ⟨⟨so, fun i j a h1 h2 => rl.apart i j a ⟨sub.ow i h1.1, h1.2⟩ ⟨sub.ow j h2.1, h2.2⟩, by rw [sub.len]; exact rl.len, zt⟩,
    st.z, fun a h => ?_, fun a o e n => st.fr a o e fun w => n (wo a w.ow), st.tr, fun i a h => .inl ⟨sub.ow i h.1, h.2⟩, fun a h => .inl (sub.wri h), fun i h => ⟨by rw [sub.lk]; exact h, rfl⟩, fun i h => by rw [sub.lk] at h; exact h⟩
  rcases st.zz a h with h | h | h
  · exact .inl h
  · exact .inr (.inl (wo a h).ow)
  · exact .inr (.inr h)
/-- a slot that isn't lent -/
theorem slot_keep {sl os : List Sl} {rs : List R} {xs : List V} (rl : Rl D Z ρ σ H) (rs1 : Rl D Z sl (xs.map some) H) (wr : ∀ a, Ow sl (xs.map some) a → ∃ i, Lent i rs sl ∧ writes (get ρ i) = true ∧ σ[i]? = some (some (.ref a))) (st : Stp Z sl (xs.map some) H Z' os (xs.map some) H')
    {i : Nat} (n : ¬ Lent i rs sl) : SlotOk D Z' H' (get ρ i) σ[i]? := by
  have s := rl.slot i
  have key : ∀ a, owns (get ρ i) = true → σ[i]? = some (some (.ref a)) → ¬ Ow sl (xs.map some) a := fun a h1 h2 z => by
    obtain ⟨j, l, h3, h4⟩ := wr a z
    exact n ((rl.apart i j a ⟨h1, h2⟩ ⟨writes_owns h3, h4⟩) ▸ l)
  cases g : get ρ i with
  | no => trivial
  | sh l v =>
    rw [g] at s
    obtain ⟨x, e, q⟩ := s
    exact ⟨x, e, q.stp rs1 st⟩
  | ow l vs =>
    rw [g] at s
    obtain ⟨a, ys, e, nz, ha, q⟩ := s
    have k := key a (by rw [g]; rfl) e
    refine ⟨a, ys, e, fun z => ?_, st.fr a _ ha fun w => k w.ow, q.stp rs1 st⟩
    rcases st.zz a z with z | z | z
    · exact nz z
    · exact k z
    · rw [ha] at z; cases z
  | rd l vs =>
    rw [g] at s
    obtain ⟨a, ys, e, nz, ha, q⟩ := s
    have k := key a (by rw [g]; rfl) e
    refine ⟨a, ys, e, fun z => ?_, st.fr a _ ha fun w => k w.ow, q.stp rs1 st⟩
    rcases st.zz a z with z | z | z
    · exact nz z
    · exact k z
    · rw [ha] at z; cases z
theorem noLent_get : ∀ {sl : List Sl}, noLent sl = true → ∀ i, owns (get sl i) = false
  | [], _, _ => rfl
  | .sh false _ :: r, _, 0 => rfl
  | .sh false _ :: r, h, i + 1 => noLent_get (sl := r) h i
theorem lent_get : ∀ {i : Nat} {rs : List R} {sl : List Sl}, Lent i rs sl → ∃ p, owns (get sl p) = true
  | i, .slot j :: rs, .ow l vs :: sl, _ => ⟨0, rfl⟩
  | i, .slot j :: rs, .no :: sl, h => let ⟨p, q⟩ := lent_get (i := i) (rs := rs) (sl := sl) h; ⟨p + 1, q⟩
  | i, .slot j :: rs, .sh _ _ :: sl, h => let ⟨p, q⟩ := lent_get (i := i) (rs := rs) (sl := sl) h; ⟨p + 1, q⟩
  | i, .slot j :: rs, .rd _ _ :: sl, h => let ⟨p, q⟩ := lent_get (i := i) (rs := rs) (sl := sl) h; ⟨p + 1, q⟩
  | i, .val v :: rs, s :: sl, h => let ⟨p, q⟩ := lent_get (i := i) (rs := rs) (sl := sl) (by cases s <;> exact h); ⟨p + 1, q⟩
  | i, .fresh v :: rs, s :: sl, h => let ⟨p, q⟩ := lent_get (i := i) (rs := rs) (sl := sl) (by cases s <;> exact h); ⟨p + 1, q⟩
  | _, [], _, h => (show False from h).elim
  | _, .val _ :: _, [], h => (show False from h).elim
  | _, .fresh _ :: _, [], h => (show False from h).elim
  | _, .slot _ :: _, [], h => (show False from h).elim
theorem AArgs.len {rs : List R} {xs : List V} (h : AArgs D σ Z H ρ rs xs) : rs.length = xs.length := by
  induction h with
  | nil => rfl
  | val h t ih => simp [ih]
  | slot l h t ih => simp [ih]
/-- from the evaluator's call to the def's promise -/
theorem rd_call {T : Tab} {k j : Nat} {g : Lc} {Q : VK} (h : RdE D W (cCall (run T k) j g) σ H Q) : tRun D T W k j (RdA D W g) σ H Q := by
  obtain ⟨Z, ρ, rl, h⟩ := h
  refine ⟨Z, ρ, rl, Post.bind h fun rs ρ1 xs Z1 H1 _ rl1 st1 lv1 q1 h => ?_⟩
  cases e : binds rs ρ1 with
  | none => simp only [callIt, e] at h; exact h.elim
  | some sl =>
    simp only [callIt, e] at h
    obtain ⟨rs1, wr1, fm⟩ := binds_ok q1 rl1 e
    refine ⟨Z1, sl, rs1, fm, ?_⟩
    cases e2 : run T k j sl with
    | stuck => simp only [e2] at h; exact h.elim
    | exc kk p =>
      simp only [e2] at h
      have nl : noLent sl = true := by
        by_cases nl : noLent sl = true
        · exact nl
        · rw [if_neg nl] at h; exact h.elim
      rw [if_pos nl] at h
      refine ⟨nl, fun cls d Z' H' rl' st' xr => ?_⟩
      have nol : ∀ i, ¬ Lent i rs sl := fun i l => by
        obtain ⟨p, q⟩ := lent_get l
        rw [noLent_get nl p] at q
        cases q
      obtain ⟨a, b⟩ := call_end (ρ' := ρ1) rl1 wr1 st' .refl (fun i => slot_keep rl1 rs1 wr1 st' (nol i)) rl'.zt
      exact h cls d Z' H' a (st1.trans b) lv1 xr
    | ok r os =>
      simp only [e2] at h
      intro x Z' H' rl' st' rr nsl fr hno hrd
      have lkd : ∀ p vs, get sl p = .ow true vs → (∃ v, get os p = .sh true v) ∨ ∃ v, get os p = .ow true v := fun p vs q => by
        have l := (st'.lk p (by rw [q]; rfl)).1
        cases g : get os p with
        | no => rw [g] at l; cases l
        | sh b v =>
          rw [g] at l
          cases (show b = true from l)
          exact .inl ⟨v, rfl⟩
        | ow b v =>
          rw [g] at l
          cases (show b = true from l)
          exact .inr ⟨v, rfl⟩
        | rd b v =>
          rw [g] at l
          cases (show b = true from l)
          exact absurd g (hrd p v)
      have unl : ∀ p v, get sl p = .sh false v → get os p = .no := fun p v q => by
        rcases hno p with h | h
        · exact h
        · have z := st'.lk2 p h
          rw [q] at z
          cases z
      obtain ⟨sub, so⟩ := outs_ok (ρc := ρ1) q1 e rl'.slot lkd unl (fun _ _ => rfl) (fun i n => slot_keep rl1 rs1 wr1 st' n) (by rw [rl'.len, List.length_map])
      obtain ⟨a, b⟩ := call_end rl1 wr1 st' sub so rl'.zt
      refine h x Z' H' a (st1.trans b) (lv1.trans sub.lv) ⟨?_, Fresh.back fr st1⟩
      cases r with
      | val v => exact rr
      | fresh vs =>
        obtain ⟨c, ys, rfl, nz, no, hc, q⟩ := rr
        refine ⟨c, ys, rfl, nz, fun o => ?_, hc, q⟩
        obtain ⟨_, zs, hz⟩ := rl1.own (sub.own o)
        have f : H1 c = none := fr c rfl
        rw [f] at hz
        cases hz
      | slot i => exact absurd rfl (nsl i)
end
end Ev

/-! Ev5: calls of defs as expressions; subscripts, slices. -/
namespace Ev
open PySem PySem.Spec PyProof.Rows L2
section
variable {D : Dom} {X : Cx} {e a b : Expr} {es : List Expr} {f : Ec} {pos : Pos} {T : Tab} {k j : Nat} {g : Lc} {x : Str} {p : Pos}
/-- the callee's run, behind its arguments -/
theorem run_f {W : WX} (tk : Takes X W) (F : FOk D T X k j) (hr : Room k X.A) {pins : List (Addr × Obj)} {σ : St} {H : Hp} {s : Shared} {Q : VK} {us : List Value} {vs : List V} (I : L2.Inv X pins σ H s) (r : Vals vs us) (h : spRun D T k j vs H Q (WE W σ)) :
    wpAny (model X.prog X.w) X.A (call (.ref (D.adr j)) us) (EP X pins σ Q) X.xe s := by
  obtain ⟨fd, ps, F, hb⟩ := F.ex
  exact run_fnSD (dvs := []) (ds := []) (E := WE W) F hr hb .nil (passAt tk σ) I r (by rw [List.append_nil]; exact h)
theorem rd_callj {W : WX} {bs : Nat → Option (List Bool)} {G : List Bool → Lc} {σ : St} {H : Hp} {Q : VK} (h : RdE D W (cCallj (run T k) bs j G) σ H Q) : ∃ b, bs j = some b ∧ RdE D W (cCall (run T k) j (G b)) σ H Q := by
  obtain ⟨Z, ρ, rl, h⟩ := h
  simp only [cCallj] at h
  cases e : bs j with
  | none => rw [e] at h; exact h.elim
  | some b =>
    rw [e] at h
    exact ⟨b, rfl, Z, ρ, rl, h⟩
/-- all that may be called, at a depth -/
structure Fns (D : Dom) (T : Tab) (X : Cx) (k : Nat) : Prop where
  fok : ∀ j, borsOf T j ≠ none → FOk D T X k j
  room : Room k X.A
theorem ok_call (F : Fns D T X k) {G : List Bool → Lc} (hg : Gl X x) (hm : X.mg x = some (.ref (D.adr j))) (hdb : (x == ("__debug__" : Str)) = false) (t : ∀ b, AOk D X (e :: es) (G b)) : EOk D X (.Call (.Name x p) (e :: es) [] pos) (cCallj (run T k) (borsOf T) j G) := by
  have ns : noStar e = true ∧ noStars es = true := by simpa [noStars, Bool.and_eq_true] using (t []).ns
  refine .mk' (fun W tk => ⟨fun pins s σ H Q I h => ?_⟩) rfl (fun _ => rfl)
  obtain ⟨b, hb, h⟩ := rd_callj h
  have Fj := F.fok j (by rw [hb]; exact fun z => nomatch z)
  refine wpAny_Call_Name_kw (ld_glob I hg hm ?_ hdb)
  exact PySem.W.callWith_K (h₀ := X.base) I.ok.mod.kin Fj.kp (thn (((t b).pa W tk).run pos pins s σ H _ I (rd_call h)) fun us s1 ⟨vs, H1, I1, r, q⟩ => ⟨I1.kIn, run_f tk Fj F.room I1 r q⟩) (star_cons ns.1) (star_any ns.2)
theorem ok_call0 (F : Fns D T X k) (hg : Gl X x) (hm : X.mg x = some (.ref (D.adr j))) (hdb : (x == ("__debug__" : Str)) = false) : EOk D X (.Call (.Name x p) [] [] pos) (cCallj (run T k) (borsOf T) j fun _ => lNil) := by
  refine .mk' (fun W tk => ⟨fun pins s σ H Q I h => ?_⟩) rfl (fun _ => rfl)
  obtain ⟨b, hb, h⟩ := rd_callj h
  have Fj := F.fok j (by rw [hb]; exact fun z => nomatch z)
  refine wpAny_Call_Name_kw (ld_glob I hg hm ?_ hdb)
  have h := rd_call h
  obtain ⟨Z, ρ, rl, h⟩ := h
  exact PySem.W.callWith_K0 I.kIn Fj.kp (run_f tk Fj F.room (us := []) I .nil (h [] Z H rl .refl .refl .nil))
/-- the def that a slot holds -/
theorem callv_slot {W : WX} {i : Nat} {bs : Nat → Option (List Bool)} {G : List Bool → Lc} {σ : St} {H : Hp} {Q : VK} (h : RdE D W (cCallv (run T k) bs i G) σ H Q) : ∃ j, σ[i]? = some (some (.ref (D.adr j))) ∧ RdE D W (cCallj (run T k) bs j G) σ H Q := by
  obtain ⟨Z, ρ, rl, h⟩ := h
  have s := rl.slot i
  simp only [cCallv] at h
  cases e : get ρ i with
  | no => rw [e] at h; exact h.elim
  | ow l v => rw [e] at h; exact h.elim
  | rd l v => rw [e] at h; exact h.elim
  | sh l v =>
    rw [e] at h s
    cases v with
    | fn j =>
      obtain ⟨y, e1, q⟩ := s
      cases q
      exact ⟨j, e1, Z, ρ, rl, h⟩
    | _ => exact h.elim
theorem ok_callv (F : Fns D T X k) {i : Nat} {G : List Bool → Lc} (hN : X.N[i]? = some x) (hv : Vis X.env.scope x) (hdb : (x == ("__debug__" : Str)) = false) (hcd : (x == ("__classdict__" : Str)) = false) (t : ∀ b, AOk D X (e :: es) (G b)) :
    EOk D X (.Call (.Name x p) (e :: es) [] pos) (cCallv (run T k) (borsOf T) i G) := by
  have ns : noStar e = true ∧ noStars es = true := by simpa [noStars, Bool.and_eq_true] using (t []).ns
  refine .mk' (fun W tk => ⟨fun pins s σ H Q I h => ?_⟩) rfl (fun _ => rfl)
  obtain ⟨j, hs, h⟩ := callv_slot h
  obtain ⟨b, hb, h⟩ := rd_callj h
  have Fj := F.fok j (by rw [hb]; exact fun z => nomatch z)
  refine wpAny_Call_Name_kw (thn ((pe_var (pos := p) hN hv hdb hcd).run pins s σ H (fun v H1 => v = .ref (D.adr j) ∧ H1 = H) I ⟨_, hs, rfl, rfl⟩) fun u s1 ⟨v, H1, I1, r1, q1⟩ => ?_)
  obtain ⟨rfl, rfl⟩ := q1
  cases r1
  exact PySem.W.callWith_K (h₀ := X.base) I.ok.mod.kin Fj.kp (thn (((t b).pa W tk).run pos pins s1 σ _ _ I1 (rd_call h)) fun us s2 ⟨vs, H2, I2, r, q⟩ => ⟨I2.kIn, run_f tk Fj F.room I2 r q⟩) (star_cons ns.1) (star_any ns.2)
theorem ok_callv0 (F : Fns D T X k) {i : Nat} (hN : X.N[i]? = some x) (hv : Vis X.env.scope x) (hdb : (x == ("__debug__" : Str)) = false) (hcd : (x == ("__classdict__" : Str)) = false) :
    EOk D X (.Call (.Name x p) [] [] pos) (cCallv (run T k) (borsOf T) i fun _ => lNil) := by
  refine .mk' (fun W tk => ⟨fun pins s σ H Q I h => ?_⟩) rfl (fun _ => rfl)
  obtain ⟨j, hs, h⟩ := callv_slot h
  obtain ⟨b, hb, h⟩ := rd_callj h
  have Fj := F.fok j (by rw [hb]; exact fun z => nomatch z)
  have h := rd_call h
  obtain ⟨Z, ρ, rl, h⟩ := h
  have h := h [] Z H rl .refl .refl .nil
  refine wpAny_Call_Name_kw (thn ((pe_var (pos := p) hN hv hdb hcd).run pins s σ H (fun v H1 => v = .ref (D.adr j) ∧ H1 = H) I ⟨_, hs, rfl, rfl⟩) fun u s1 ⟨v, H1, I1, r1, q1⟩ => ?_)
  obtain ⟨rfl, rfl⟩ := q1
  cases r1
  exact PySem.W.callWith_K0 I1.kIn Fj.kp (run_f tk Fj F.room (us := []) I1 .nil h)
/-- a[b] -/
theorem ok_idx {f h : Ec} (hr : IxR X (r2 D index)) (ha : EOk D X a f) (hb : EOk D X b h) (hs : PlainIx b) : EOk D X (.Subscript a b pos) (c2 index f h) :=
  .mk' (fun W tk => ⟨fun pins s σ H Q I h => (pe_ix hr (ha.pe W tk) (hb.pe W tk) hs).run pins s σ H Q I (rd_two rfl rfl h)⟩) rfl (fun _ => rfl)
/-- a slice's part -/
structure OOk (D : Dom) (X : Cx) (e : Option Expr) (f : Oc) : Prop where
  po : ∀ W, Takes X W → PO X e (Rd D W relQ f)
theorem ook_no : OOk D X none oNo := ⟨fun W tk => ⟨fun pins s σ H Q I h => po_none.run pins s σ H Q I (by
  obtain ⟨Z, ρ, rl, h⟩ := h
  exact h none Z H rl .refl .refl rfl)⟩⟩
theorem ook_yes (ha : EOk D X a f) : OOk D X (some a) (oYes f) := ⟨fun W tk => ⟨fun pins s σ H Q I h => (po_some (ha.pe W tk)).run pins s σ H Q I (by
  obtain ⟨Z, ρ, rl, h⟩ := h
  refine ⟨Z, ρ, rl, Post.bind h fun r ρ1 x Z1 H1 _ rl1 st1 lv1 q1 h => ?_⟩
  cases r with
  | val v =>
    cases v with
    | int i =>
      obtain ⟨q1, _⟩ := q1
      cases q1
      exact ⟨i, rfl, h (some i) Z1 H1 rl1 st1 lv1 rfl⟩
    | _ => exact h.elim
  | _ => exact h.elim)⟩⟩
abbrev rS (D : Dom) : V → Option Int → Option Int → Hp → VK → Prop := fun x lo hi H Q => ∃ Z v r, PRep D Z H v x ∧ slice v lo hi = some r ∧ ∀ z H', Out D Z H r z H' → Q z H'
theorem ok_slc {lo hi : Option Expr} {fl fh : Oc} {p2 : Pos} (hr : SlR X (rS D)) (ha : EOk D X a f) (hl : OOk D X lo fl) (hh : OOk D X hi fh) : EOk D X (.Subscript a (.Slice lo hi none p2) pos) (cSlc f fl fh) := by
  refine .mk' (fun W tk => ⟨fun pins s σ H Q I h => (pe_slice hr (ha.pe W tk) (hl.po W tk) (hh.po W tk)).run pins s σ H Q I ?_⟩) rfl (fun _ => rfl)
  obtain ⟨Z, ρ, rl, h⟩ := h
  refine ⟨Z, ρ, rl, Post.bind h fun r ρ1 x Z1 H1 _ rl1 st1 lv1 q1 h => ⟨Z1, ρ1, rl1, Post.bind2 h st1 lv1 fun l ρ2 l' Z2 H2 _ rl2 st2 lv2 el h => ⟨Z2, ρ2, rl2, Post.bind2 h (st1.trans st2) (lv1.trans lv2) fun u ρ3 u' Z3 H3 _ rl3 st3 lv3 eu h => ?_⟩⟩⟩
  cases el
  cases eu
  obtain ⟨r, e, k⟩ := h.ofO rl3 ((st1.trans st2).trans st3) ((lv1.trans lv2).trans lv3)
  obtain ⟨v, e1, e⟩ := Option.bind_eq_some_iff.mp e
  exact ⟨Z3, v, r, ((q1.1.stp rl1 st2 lv2).stp rl2 st3 lv3).peek rl3 e1, e, k⟩
end
end Ev

/-! Ev6: operators, comparisons, subscripts by values. -/
namespace Ev
open PySem PySem.Spec PyProof.Rows L2
section
variable {D : Dom} {Z : Addr → Prop} {H : Hp} {x : V}
theorem PRep.int {i : Int} (h : PRep D Z H (.int i) x) : x = .int i := by
  rcases h with h | ⟨_, _, _, e, _⟩
  · cases h; rfl
  · cases e
theorem PRep.bl {i : Bool} (h : PRep D Z H (.bl i) x) : x = .bl i := by
  rcases h with h | ⟨_, _, _, e, _⟩
  · cases h; rfl
  · cases e
theorem PRep.str {i : Str} (h : PRep D Z H (.str i) x) : x = .str i := by
  rcases h with h | ⟨_, _, _, e, _⟩
  · cases h; rfl
  · cases e
theorem PRep.non (h : PRep D Z H .non x) : x = .non := by
  rcases h with h | ⟨_, _, _, e, _⟩
  · cases h; rfl
  · cases e
theorem PRep.tup {vs : List Val} (h : PRep D Z H (.tup vs) x) : ∃ a xs, x = .ref a ∧ TupAt D.K H a xs ∧ Reps D Z H vs xs := by
  rcases h with h | ⟨_, _, _, e, _⟩
  · cases h with
    | tup h r => exact ⟨_, _, rfl, h, r⟩
  · cases e
theorem PRep.lst {vs : List Val} (h : PRep D Z H (.lst vs) x) : ∃ a xs, x = .ref a ∧ H a = some (.lst xs) ∧ Reps D Z H vs xs := by
  rcases h with h | ⟨a, xs, ws, e, e1, ha, r⟩
  · cases h with
    | lst z h r => exact ⟨_, _, rfl, h, r⟩
  · cases e
    exact ⟨a, xs, e1, ha, r⟩
theorem PRep.scr {is : List Int} (h : PRep D Z H (.scr is) x) : ∃ a, x = .ref a ∧ SqL D.K H a (is.map V.int) := by
  rcases h with h | ⟨_, _, _, e, _⟩
  · cases h with
    | scr z h => exact ⟨_, rfl, h⟩
    | scrK h => exact ⟨_, rfl, h H⟩
  · cases e
theorem PRep.seq {v : Val} {vs : List Val} (h : PRep D Z H v x) (e : seqOf v = some vs) : ∃ a xs, x = .ref a ∧ (SqL D.K H a xs ∨ SqT D.K H a xs) ∧ Reps D Z H vs xs := by
  cases v with
  | tup ws =>
    cases e
    obtain ⟨a, xs, e, t, r⟩ := h.tup
    exact ⟨a, xs, e, .inr t.sq, r⟩
  | lst ws =>
    cases e
    obtain ⟨a, xs, e, t, r⟩ := h.lst
    exact ⟨a, xs, e, .inl (.of t), r⟩
  | scr is =>
    cases e
    obtain ⟨a, e, t⟩ := h.scr
    exact ⟨a, _, e, .inl t, .ints⟩
  | _ => cases e
theorem out_val {v : Val} {z : V} (h : Rep D Z H v z) : Out D Z H (.val v) z H := ⟨.refl, h⟩
theorem out_tup {vs : List Val} {xs : List V} {p : Addr} {o : Obj} (h : Reps D Z H vs xs) (n : H p = none) (d : o.dict = none) : Out D Z H (.val (.tup vs)) (.ref p) (upd H p (.frz o (.tup xs))) :=
  ⟨.upd n, .tup (.inl ⟨o, upd_same, d⟩) (h.mono (fun _ h => h) (Grow.upd n).kp)⟩
theorem out_lst {vs : List Val} {xs : List V} {p : Addr} (h : Reps D Z H vs xs) (n : H p = none) : Out D Z H (.fresh vs) (.ref p) (upd H p (.lst xs)) :=
  ⟨.upd n, p, xs, rfl, n, upd_same, h.mono (fun _ h => h) (Grow.upd n).kp⟩
theorem len_eq {α : Type} : ∀ xs : List α, len xs = xs.length
  | [] => rfl
  | _ :: r => congrArg (· + 1) (len_eq r)
theorem nth_eq {α : Type} : ∀ (xs : List α) (i : Nat), nth xs i = xs[i]?
  | [], _ => rfl
  | _ :: _, 0 => rfl
  | _ :: r, i + 1 => nth_eq r i
theorem place_eq (n : Nat) (i : Int) : place n i = ixN n i := rfl
theorem at_eq {α : Type} (xs : List α) (i : Int) : at_ xs i = atI xs i := by
  unfold at_ atI
  rw [len_eq, place_eq]
  congr 1
  funext j
  exact nth_eq xs j
theorem sIx_eq (n d : Nat) (o : Option Int) : sIx n d o = HT.sIx n d o := by
  cases o with
  | none => rfl
  | some i => rfl
theorem Reps.at {vs : List Val} {xs : List V} {i : Int} {v : Val} (r : Reps D Z H vs xs) (h : at_ vs i = some v) : ∃ y, atI xs i = some y ∧ Rep D Z H v y := by
  rw [at_eq] at h
  unfold atI at h ⊢
  have e : vs.length = xs.length := by rw [← len_eq]; exact r.len
  rw [e] at h
  cases q : ixN xs.length i with
  | none => rw [q] at h; cases h
  | some j =>
    rw [q] at h
    have h : vs[j]? = some v := h
    rw [← nth_eq] at h
    exact r.nth h
theorem Reps.cut {vs : List Val} {xs : List V} {lo hi : Option Int} (r : Reps D Z H vs xs) : Reps D Z H (cut vs lo hi) (cutV xs lo hi) := by
  unfold Ev.cut cutV
  rw [sIx_eq, sIx_eq, r.len]
  exact (r.drop _).take _
end

section
variable {D : Dom} {X : Cx}
/-- tuple + tuple, told to the object -/
theorem cat_tupF (hK : D.K = X.K) {pins : List (Addr × Obj)} {s : Shared} {σ : St} {H : Hp} {a b : Addr} {xs ys : List V} {Q : VK} (I : L2.Inv X pins σ H s) (ha : TupAt D.K H a xs) (hb : TupAt D.K H b ys) (hz : xs.length + ys.length ≤ sizeLine)
    (q0 : xs = [] → Q (.ref b) H) (q1 : ys = [] → Q (.ref a) H) (q2 : ∀ p o, H p = none → o.dict = none → Q (.ref p) (upd H p (.frz o (.tup (xs ++ ys))))) : wpAny (model X.prog X.w) X.A (binaryOp .Add (.ref a) (.ref b)) (EP X pins σ Q) X.xe s := by
  rw [hK] at ha hb
  obtain ⟨its, r1, p1, _⟩ := I.tuple ha.sq
  obtain ⟨its2, r2, p2, _⟩ := I.tuple hb.sq
  by_cases hx : xs = []
  · subst hx
    cases r1
    exact cat_tup0 p1 p2 ⟨.ref b, H, I, rfl, q0 rfl⟩
  · refine HT.cat_tup p1 p2 (fun z => hx (r1.nil_iff.mp z)) (fun z => ⟨.ref a, H, I, rfl, q1 (r2.nil_iff.mp z)⟩) (fun z => ?_) (by rw [← r1.length, ← r2.length]; exact hz)
    exact ⟨.ref s.heap.objs.size, _, new_tup (t' := s.toks) I (r1.append r2) (by rw [List.length_append]; exact hz), rfl, q2 _ _ (I.hok.fresh (Nat.le_refl _)) rfl⟩
theorem le_line {n : Nat} (h : n ≤ line) : n ≤ sizeLine := Nat.le_trans h (by decide)
theorem Reps.nil_of {Z : Addr → Prop} {H : Hp} {vs : List Val} (h : Reps D Z H vs []) : vs = [] := by cases h; rfl
theorem bin_add (hK : D.K = X.K) : OpR X (binaryOp .Add) (r2 D (bin .add)) := by
  intro pins s σ H x y v u Q I rx ry ⟨Z, a, b, r, pa, pb, e, k⟩
  cases a <;> cases b <;> first | (cases e; done) | skip
  case int.int i j =>
    cases e
    rw [pa.int] at rx
    rw [pb.int] at ry
    exact op_add pins s σ H _ _ v u Q I rx ry ⟨i, j, rfl, rfl, k _ _ (out_val (.int _))⟩
  case str.str i j =>
    simp only [bin] at e
    split at e
    · rename_i h
      cases e
      rw [pa.str] at rx
      rw [pb.str] at ry
      exact op_add_str pins s σ H _ _ v u Q I rx ry ⟨i, j, rfl, rfl, le_line h, k _ _ (out_val (.str _))⟩
    · cases e
  case tup.tup vs ws =>
    simp only [bin] at e
    split at e
    · rename_i h
      cases e
      obtain ⟨p, xs, rfl, ha, ra⟩ := pa.tup
      obtain ⟨q, ys, rfl, hb, rb⟩ := pb.tup
      cases rx
      cases ry
      refine cat_tupF hK I ha hb ?_ (fun z => ?_) (fun z => ?_) (fun p' o n d => k _ _ (out_tup (ra.app rb) n d))
      · rw [← ra.len, ← rb.len]
        exact le_line h
      · subst z
        rw [ra.nil_of] at k
        exact k _ _ (out_val (.tup hb rb))
      · subst z
        have z := rb.nil_of
        subst z
        rw [List.append_nil] at k
        exact k _ _ (out_val (.tup ha ra))
    · cases e
  case lst.lst vs ws =>
    simp only [bin] at e
    split at e
    · rename_i h
      cases e
      obtain ⟨p, xs, rfl, ha, ra⟩ := pa.lst
      obtain ⟨q, ys, rfl, hb, rb⟩ := pb.lst
      refine op_cat pins s σ H _ _ v u Q I rx ry ⟨p, q, xs, ys, rfl, rfl, ha, hb, ?_, fun p' n => k _ _ (out_lst (ra.app rb) n)⟩
      rw [← ra.len, ← rb.len]
      exact le_line h
    · cases e
theorem bin_sub : OpR X (binaryOp .Sub) (r2 D (bin .sub)) := by
  intro pins s σ H x y v u Q I rx ry ⟨Z, a, b, r, pa, pb, e, k⟩
  cases a <;> cases b <;> first | (cases e; done) | skip
  case int.int i j =>
    cases e
    rw [pa.int] at rx
    rw [pb.int] at ry
    exact op_sub pins s σ H _ _ v u Q I rx ry ⟨i, j, rfl, rfl, k _ _ (out_val (.int _))⟩
theorem small_of {i : Int} (h : small i = true) : -(2 ^ 64) < i ∧ i < 2 ^ 64 := by
  have h : i.natAbs < 2 ^ 64 := of_decide_eq_true h
  omega
theorem bin_mul : OpR X (binaryOp .Mult) (r2 D (bin .mul)) := by
  intro pins s σ H x y v u Q I rx ry ⟨Z, a, b, r, pa, pb, e, k⟩
  cases a <;> cases b <;> first | (cases e; done) | skip
  case int.int i j =>
    simp only [bin] at e
    split at e
    · rename_i h
      cases e
      rw [pa.int] at rx
      rw [pb.int] at ry
      refine op_mul pins s σ H _ _ v u Q I rx ry ⟨i, j, rfl, rfl, ?_, k _ _ (out_val (.int _))⟩
      unfold mulOk at h
      rw [Bool.or_eq_true] at h
      exact h.elim (fun h => .inl (small_of h)) fun h => .inr (small_of h)
    · cases e
  case lst.int vs i =>
    simp only [bin] at e
    split at e
    · rename_i h
      cases e
      rw [pb.int] at ry
      obtain ⟨p, xs, rfl, ha, ra⟩ := pa.lst
      have h2 : i.natAbs ≤ 1000000 := h.2
      refine op_rep pins s σ H _ _ v u Q I rx ry ⟨p, i, xs, rfl, rfl, ha, by omega, by omega, ?_, fun p' n => k _ _ (out_lst (ra.rep _) n)⟩
      rw [← ra.len]
      exact le_line h.1
    · cases e
theorem bin_fdiv : OpR X (binaryOp .FloorDiv) (r2 D (bin .fdiv)) := by
  intro pins s σ H x y v u Q I rx ry ⟨Z, a, b, r, pa, pb, e, k⟩
  cases a <;> cases b <;> first | (cases e; done) | skip
  case int.int i j =>
    simp only [bin] at e
    split at e
    · rename_i h
      cases e
      rw [pa.int] at rx
      rw [pb.int] at ry
      refine op_fdiv pins s σ H _ _ v u Q I rx ry ⟨i, j, rfl, rfl, ?_, k _ _ (out_val (.int _))⟩
      unfold divOk at h
      rw [Bool.and_eq_true] at h
      exact ⟨of_decide_eq_true h.1, of_decide_eq_true h.2⟩
    · cases e
theorem bin_mod : OpR X (binaryOp .Mod) (r2 D (bin .mod)) := by
  intro pins s σ H x y v u Q I rx ry ⟨Z, a, b, r, pa, pb, e, k⟩
  cases a <;> cases b <;> first | (cases e; done) | skip
  case int.int i j =>
    simp only [bin] at e
    split at e
    · rename_i h
      cases e
      rw [pa.int] at rx
      rw [pb.int] at ry
      exact op_mod pins s σ H _ _ v u Q I rx ry ⟨i, j, rfl, rfl, h, k _ _ (out_val (.int _))⟩
    · cases e
theorem un_negV : UnR X (unaryOp .USub) (r1 D neg) := by
  intro pins s σ H x v Q I rx ⟨Z, a, r, pa, e, k⟩
  cases a <;> first | (cases e; done) | skip
  case int i =>
    cases e
    rw [pa.int] at rx
    exact un_neg pins s σ H _ v Q I rx ⟨i, rfl, k _ _ (out_val (.int _))⟩
def bopOf : Bop → Operator
  | .add => .Add
  | .sub => .Sub
  | .mul => .Mult
  | .fdiv => .FloorDiv
  | .mod => .Mod
theorem bin_ok (hK : D.K = X.K) (o : Bop) : OpR X (binaryOp (bopOf o)) (r2 D (bin o)) := by
  cases o
  · exact bin_add hK
  · exact bin_sub
  · exact bin_mul
  · exact bin_fdiv
  · exact bin_mod

/-! ### comparisons -/
mutual
def dat : Val → PyData
  | .non => .none
  | .bl b => .bool b
  | .int i => .int i
  | .str s => .str s
  | .tup vs => .tuple (dats vs)
  | .lst vs => .list (dats vs)
  | _ => .none
def dats : List Val → List PyData
  | [] => []
  | v :: vs => dat v :: dats vs
end
mutual
theorem Rep.dp {Z : Addr → Prop} {H : Hp} : ∀ {v : Val} {x : V}, Rep D Z H v x → plain v = true → Dp D.K H x (dat v)
  | _, _, .non, _ => by simp only [dat]; exact .non
  | _, _, .bl b, _ => by simp only [dat]; exact .bl b
  | _, _, .int i, _ => by simp only [dat]; exact .int i
  | _, _, .str x, _ => by simp only [dat]; exact .str x
  | _, _, .fn j, h => by simp [plain] at h
  | _, _, .tup h r, p => by
    simp only [plain] at p
    simp only [dat]
    exact .tup h.sq (Reps.dp r p)
  | _, _, .lst z h r, p => by
    simp only [plain] at p
    simp only [dat]
    exact .lst (.of h) (Reps.dp r p)
  | _, _, .scr z h, p => by simp [plain] at p
  | _, _, .scrK h, p => by simp [plain] at p
theorem Reps.dp {Z : Addr → Prop} {H : Hp} : ∀ {vs : List Val} {xs : List V}, Reps D Z H vs xs → plains vs = true → DpAll D.K H xs (dats vs)
  | _, _, .nil, _ => by simp only [dats]; exact .nil
  | _, _, .cons h r, p => by
    simp only [plains, Bool.and_eq_true] at p
    simp only [dats]
    exact .cons (Rep.dp h p.1) (Reps.dp r p.2)
end
theorem PRep.dp {Z : Addr → Prop} {H : Hp} {v : Val} {x : V} (h : PRep D Z H v x) (p : plain v = true) : Dp D.K H x (dat v) := by
  rcases h with h | ⟨a, xs, vs, rfl, rfl, ha, r⟩
  · exact h.dp p
  · simp only [plain] at p
    simp only [dat]
    exact .lst (.of ha) (r.dp p)
mutual
theorem veq_eq : ∀ v w : Val, plain v = true → plain w = true → veq v w = PyData.eqv (dat v) (dat w)
  | .tup vs, w, p, q => by
    cases w with
    | tup ws =>
      simp only [plain] at p q
      simp only [veq, dat, PyData.eqv]
      exact veqs_eq vs ws p q
    | fn j => simp [plain] at q
    | rat n d => simp [plain] at q
    | scr s => simp [plain] at q
    | _ => simp only [veq, dat, PyData.eqv]
  | .lst vs, w, p, q => by
    cases w with
    | lst ws =>
      simp only [plain] at p q
      simp only [veq, dat, PyData.eqv]
      exact veqs_eq vs ws p q
    | fn j => simp [plain] at q
    | rat n d => simp [plain] at q
    | scr s => simp [plain] at q
    | _ => simp only [veq, dat, PyData.eqv]
  | .non, w, p, q => by cases w <;> first | (simp only [veq, dat, PyData.eqv]; done) | (simp [plain] at q; done)
  | .bl b, w, p, q => by cases w <;> first | (simp only [veq, dat, PyData.eqv]; done) | (simp [plain] at q; done)
  | .int b, w, p, q => by cases w <;> first | (simp only [veq, dat, PyData.eqv]; done) | (simp [plain] at q; done)
  | .str b, w, p, q => by cases w <;> first | (simp only [veq, dat, PyData.eqv]; done) | (simp [plain] at q; done)
  | .fn j, w, p, q => by simp [plain] at p
  | .rat n d, w, p, q => by simp [plain] at p
  | .scr n, w, p, q => by simp [plain] at p
theorem veqs_eq : ∀ vs ws : List Val, plains vs = true → plains ws = true → veqs vs ws = PyData.eqvAll (dats vs) (dats ws)
  | [], [], _, _ => by simp only [veqs, dats, PyData.eqvAll]
  | [], _ :: _, _, _ => by simp only [veqs, dats, PyData.eqvAll]
  | _ :: _, [], _, _ => by simp only [veqs, dats, PyData.eqvAll]
  | v :: vs, w :: ws, p, q => by
    simp only [plains, Bool.and_eq_true] at p q
    simp only [veqs, dats, PyData.eqvAll]
    rw [veq_eq v w p.1 q.1, veqs_eq vs ws p.2 q.2]
end
mutual
theorem dat_lay : ∀ v : Val, plain v = true → (dat v).canLay0 = true
  | .tup vs, p => by
    simp only [plain] at p
    simp only [dat, PyData.canLay0]
    exact dats_lay vs p
  | .lst vs, p => by
    simp only [plain] at p
    simp only [dat, PyData.canLay0]
    exact dats_lay vs p
  | .non, _ => by simp only [dat, PyData.canLay0]
  | .bl _, _ => by simp only [dat, PyData.canLay0]
  | .int _, _ => by simp only [dat, PyData.canLay0]
  | .str x, p => by
    simp only [plain] at p
    simp only [dat, PyData.canLay0]
    exact p
  | .fn j, p => by simp [plain] at p
  | .rat n d, p => by simp [plain] at p
  | .scr n, p => by simp [plain] at p
theorem dats_lay : ∀ v : List Val, plains v = true → PyData.canLayAll0 (dats v) = true
  | [], _ => by simp only [dats, PyData.canLayAll0]
  | v :: vs, p => by
    simp only [plains, Bool.and_eq_true] at p
    simp only [dats, PyData.canLayAll0, Bool.and_eq_true]
    exact ⟨dat_lay v p.1, dats_lay vs p.2⟩
end
mutual
theorem dat_depth : ∀ v : Val, (dat v).depth ≤ depth v
  | .tup vs => by
    simp only [dat, PyData.depth, depth]
    exact Nat.succ_le_succ (dats_depth vs)
  | .lst vs => by
    simp only [dat, PyData.depth, depth]
    exact Nat.succ_le_succ (dats_depth vs)
  | .non => by simp [dat, PyData.depth]
  | .bl _ => by simp [dat, PyData.depth]
  | .int _ => by simp [dat, PyData.depth]
  | .str x => by simp [dat, PyData.depth]
  | .fn j => by simp [dat, PyData.depth]
  | .rat n d => by simp [dat, PyData.depth]
  | .scr n => by simp [dat, PyData.depth]
theorem dats_depth : ∀ v : List Val, PyData.depthAll (dats v) ≤ depths v
  | [] => by simp [dats, PyData.depthAll]
  | v :: vs => by
    have h1 := dat_depth v
    have h2 := dats_depth vs
    simp only [dats, PyData.depthAll, depths]
    omega
end
theorem dat_shaped {v : Val} (h : shaped v = true) : SeqAt.shaped (dat v) = true := by
  unfold Ev.shaped at h
  rw [Bool.and_eq_true] at h
  have h2 : depth v ≤ 40 := of_decide_eq_true h.2
  have h3 := dat_depth v
  show ((dat v).canLay0 && decide ((dat v).depth ≤ 64)) = true
  rw [Bool.and_eq_true]
  exact ⟨dat_lay v h.1, decide_eq_true (by omega)⟩
theorem shaped_plain {v : Val} (h : shaped v = true) : plain v = true := by
  unfold Ev.shaped at h
  rw [Bool.and_eq_true] at h
  exact h.1
def copOf : Cop → CmpOp
  | .eq => .Eq
  | .ne => .NotEq
  | .lt => .Lt
  | .le => .LtE
  | .gt => .Gt
  | .ge => .GtE
  | .isn => .Is
  | .isnn => .IsNot
theorem cmp_int {op : CmpOp} {p : Int → Int → Bool} (ho : OpR X (compareOp op) (rI0 fun i j => .bl (p i j))) {o : Cop} (hc : ∀ v w r, cmpR o v w = some r → ∃ i j, v = .int i ∧ w = .int j ∧ r = .val (.bl (p i j))) : OpR X (compareOp op) (r2 D (cmpR o)) := by
  intro pins s σ H x y v u Q I rx ry ⟨Z, a, b, r, pa, pb, e, k⟩
  obtain ⟨i, j, rfl, rfl, rfl⟩ := hc _ _ _ e
  rw [pa.int] at rx
  rw [pb.int] at ry
  exact ho pins s σ H _ _ v u Q I rx ry ⟨i, j, rfl, rfl, k _ _ (out_val (.bl _))⟩
theorem cmp_ok (hK : D.K = X.K) (hu : X.A.units + 64 < cLine) (o : Cop) : OpR X (compareOp (copOf o)) (r2 D (cmpR o)) := by
  cases o
  case eq =>
    intro pins s σ H x y v u Q I rx ry ⟨Z, a, b, r, pa, pb, e, k⟩
    simp only [cmpR, cmp] at e
    split at e
    · rename_i h
      rw [Bool.and_eq_true] at h
      cases e
      rw [veq_eq _ _ (shaped_plain h.1) (shaped_plain h.2)] at k
      exact op_eqD hu pins s σ H _ _ v u Q I rx ry ⟨dat a, dat b, hK ▸ pa.dp (shaped_plain h.1), hK ▸ pb.dp (shaped_plain h.2), dat_shaped h.1, dat_shaped h.2, k _ _ (out_val (.bl _))⟩
    · cases e
  case ne =>
    intro pins s σ H x y v u Q I rx ry ⟨Z, a, b, r, pa, pb, e, k⟩
    simp only [cmpR, cmp] at e
    split at e
    · rename_i h
      rw [Bool.and_eq_true] at h
      cases e
      rw [veq_eq _ _ (shaped_plain h.1) (shaped_plain h.2)] at k
      exact op_neD hu pins s σ H _ _ v u Q I rx ry ⟨dat a, dat b, hK ▸ pa.dp (shaped_plain h.1), hK ▸ pb.dp (shaped_plain h.2), dat_shaped h.1, dat_shaped h.2, k _ _ (out_val (.bl _))⟩
    · cases e
  case lt => exact cmp_int (p := fun i j => decide (i < j)) op_lt fun v w r e => by cases v <;> cases w <;> first | (cases e; done) | (cases e; exact ⟨_, _, rfl, rfl, rfl⟩)
  case le => exact cmp_int (p := fun i j => decide (i ≤ j)) op_le fun v w r e => by cases v <;> cases w <;> first | (cases e; done) | (cases e; exact ⟨_, _, rfl, rfl, rfl⟩)
  case gt => exact cmp_int (p := fun i j => decide (j < i)) op_gt fun v w r e => by cases v <;> cases w <;> first | (cases e; done) | (cases e; exact ⟨_, _, rfl, rfl, rfl⟩)
  case ge => exact cmp_int (p := fun i j => decide (j ≤ i)) op_ge fun v w r e => by cases v <;> cases w <;> first | (cases e; done) | (cases e; exact ⟨_, _, rfl, rfl, rfl⟩)
  case isn =>
    intro pins s σ H x y v u Q I rx ry ⟨Z, a, b, r, pa, pb, e, k⟩
    have hb : b = .non := by cases a <;> cases b <;> first | rfl | (cases e; done)
    subst hb
    have hy := pb.non
    subst hy
    refine op_isN pins s σ H _ _ v u Q I rx ry ⟨rfl, ?_⟩
    have key : r = .val (.bl (decide (x = .non))) := by
      cases a with
      | non =>
        cases e
        rw [pa.non]
        rfl
      | _ =>
        cases e
        have : x ≠ .non := fun z => by
          subst z
          rcases pa with h | ⟨_, _, _, e, e1, _⟩
          · cases h
          · cases e1
        rw [decide_eq_false this]
    rw [key] at k
    exact k _ _ (out_val (.bl _))
  case isnn =>
    intro pins s σ H x y v u Q I rx ry ⟨Z, a, b, r, pa, pb, e, k⟩
    have hb : b = .non := by cases a <;> cases b <;> first | rfl | (cases e; done)
    subst hb
    have hy := pb.non
    subst hy
    refine op_notN pins s σ H _ _ v u Q I rx ry ⟨rfl, ?_⟩
    have key : r = .val (.bl (!decide (x = .non))) := by
      cases a with
      | non =>
        cases e
        rw [pa.non]
        rfl
      | _ =>
        cases e
        have : x ≠ .non := fun z => by
          subst z
          rcases pa with h | ⟨_, _, _, e, e1, _⟩
          · cases h
          · cases e1
        rw [decide_eq_false this]
        rfl
    rw [key] at k
    exact k _ _ (out_val (.bl _))
end
end Ev

/-! Ev7: subscripts, slices, built-ins by values. -/
namespace Ev
open PySem PySem.Spec PyProof.Rows L2
section
variable {D : Dom} {X : Cx}
theorem PReps.one {Z : Addr → Prop} {H : Hp} {v : Val} {xs : List V} (h : PReps D Z H [v] xs) : ∃ x, xs = [x] ∧ PRep D Z H v x := by
  cases h with
  | cons h t =>
    cases t
    exact ⟨_, rfl, h⟩
theorem PReps.two {Z : Addr → Prop} {H : Hp} {v w : Val} {xs : List V} (h : PReps D Z H [v, w] xs) : ∃ x y, xs = [x, y] ∧ PRep D Z H v x ∧ PRep D Z H w y := by
  cases h with
  | cons h t =>
    obtain ⟨y, rfl, q⟩ := t.one
    exact ⟨_, _, rfl, h, q⟩
theorem ix_ok (hK : D.K = X.K) : IxR X (r2 D index) := by
  intro value sl pins s σ H x y v u Q I rx ry ⟨Z, a, b, r, pa, pb, e, k⟩ hs
  have seq : ∀ {i : Int} {xs : List Val} {c : Val}, b = .int i → seqOf a = some xs → at_ xs i = some c → r = .val c → wpAny (model X.prog X.w) X.A (subscriptTail value sl v u) (EP X pins σ Q) X.xe s := fun {i xs c} eb ea ec er => by
    subst eb er
    obtain ⟨p, ys, rfl, hs', rp⟩ := pa.seq ea
    obtain ⟨z, hz, rz⟩ := rp.at ec
    rw [pb.int] at ry
    rw [hK] at hs'
    rcases hs' with hs' | hs'
    · exact ix_list value sl pins s σ H _ _ v u Q I rx ry ⟨p, ys, i, z, rfl, rfl, hs', hz, k _ _ (out_val rz)⟩ hs
    · exact ix_tup value sl pins s σ H _ _ v u Q I rx ry ⟨p, ys, i, z, rfl, rfl, hs', hz, k _ _ (out_val rz)⟩ hs
  cases b with
  | int i =>
    cases a with
    | str z =>
      simp only [index] at e
      split at e
      · rename_i hl
        obtain ⟨c, e1, e⟩ := Option.map_eq_some_iff.mp e
        subst e
        rw [pa.str] at rx
        rw [pb.int] at ry
        exact ix_str value sl pins s σ H _ _ v u Q I rx ry ⟨z, i, c, rfl, rfl, le_line hl, by rw [← at_eq]; exact e1, k _ _ (out_val (.str _))⟩ hs
      · cases e
    | tup vs =>
      simp only [index] at e
      obtain ⟨xs, e1, e⟩ := Option.bind_eq_some_iff.mp e
      obtain ⟨c, e2, e⟩ := Option.map_eq_some_iff.mp e
      exact seq rfl e1 e2 e.symm
    | lst vs =>
      simp only [index] at e
      obtain ⟨xs, e1, e⟩ := Option.bind_eq_some_iff.mp e
      obtain ⟨c, e2, e⟩ := Option.map_eq_some_iff.mp e
      exact seq rfl e1 e2 e.symm
    | scr vs =>
      simp only [index] at e
      obtain ⟨xs, e1, e⟩ := Option.bind_eq_some_iff.mp e
      obtain ⟨c, e2, e⟩ := Option.map_eq_some_iff.mp e
      exact seq rfl e1 e2 e.symm
    | _ => cases e
  | _ => cases a <;> cases e
/-- a slice of a tuple, told to the object -/
theorem sl_ok (hK : D.K = X.K) : SlR X (rS D) := by
  intro pins s σ H x v vl vu lo hi sl Q I rx hs pl pu ⟨Z, a, r, pa, e, k⟩
  cases a with
  | tup vs =>
    cases e
    obtain ⟨p, xs, rfl, ht, rp⟩ := pa.tup
    have ht' := ht
    rw [hK] at ht'
    by_cases hw : HT.sIx xs.length 0 lo = 0 ∧ HT.sIx xs.length xs.length hi = xs.length
    · cases rx
      obtain ⟨its, r, hT, hz⟩ := I.tuple ht'.sq
      have hlen : its.toArray.size = xs.length := by rw [List.size_toArray]; exact r.length.symm
      refine ⟨"tuple", _, PyProof.Rows.slot_tuple_getitem.lookup, hT.typeIs, ?_⟩
      have e1 : cut vs lo hi = vs := by
        have l : vs.length = xs.length := by rw [← len_eq]; exact rp.len
        unfold Ev.cut
        rw [sIx_eq, sIx_eq, len_eq, l, hw.1, hw.2, Nat.sub_zero, List.drop_zero, ← l, List.take_length]
      rw [e1] at k
      exact getItem_tuple_whole hT hs pl pu (by rw [hlen]; exact hw) ⟨.ref p, H, I, rfl, k _ _ (out_val (.tup ht rp))⟩
    · cases rx
      obtain ⟨its, r, hT, hz⟩ := I.tuple ht'.sq
      have hlen : its.toArray.size = xs.length := by rw [List.size_toArray]; exact r.length.symm
      refine ⟨"tuple", _, PyProof.Rows.slot_tuple_getitem.lookup, hT.typeIs, ?_⟩
      refine HT.getItem_tuple_cut hT hs pl pu (by rw [hlen]; exact hw) ?_ (by rw [hlen]; exact hz)
      rw [hlen]
      refine ⟨.ref s.heap.objs.size, _, new_tup (t' := s.toks) I ((r.drop (HT.sIx xs.length 0 lo)).take (HT.sIx xs.length xs.length hi - HT.sIx xs.length 0 lo)) (Nat.le_trans (cutV_length xs lo hi) hz), rfl, k _ _ (out_tup rp.cut (I.hok.fresh (Nat.le_refl _)) rfl)⟩
  | lst vs =>
    cases e
    obtain ⟨p, xs, rfl, ht, rp⟩ := pa.lst
    exact sl_list pins s σ H _ v vl vu lo hi sl Q I rx hs pl pu ⟨p, xs, rfl, .of ht, fun q n => k _ _ (out_lst rp.cut n)⟩
  | scr is =>
    cases e
    obtain ⟨p, rfl, ht⟩ := pa.scr
    rw [hK] at ht
    have c : Reps D Z H (cut (is.map Val.int) lo hi) (cutV (is.map V.int) lo hi) := Reps.cut (Reps.ints (is := is))
    exact sl_list pins s σ H _ v vl vu lo hi sl Q I rx hs pl pu ⟨p, _, rfl, ht, fun q n => k _ _ (out_lst c n)⟩
  | _ => cases e
/-- a[::-1] -/
theorem ok_rev (hK : D.K = X.K) {a : Expr} {f : Ec} {k : Nat} {p1 p2 p3 pos : Pos} (ha : EOk D X a f) : EOk D X (.Subscript a (.Slice none none (some (.UnaryOp .USub (.Constant (.int 1) k p1) p2)) p3) pos) (c1 revs f) := by
  refine .mk' (fun W tk => ⟨fun pins s σ H Q I h => (pe_revL (ha.pe W tk)).run pins s σ H Q I ?_⟩) rfl (fun _ => rfl)
  obtain ⟨Z, ρ, rl, h⟩ := h
  refine ⟨Z, ρ, rl, Post.bind h fun ra ρ1 x Z1 H1 _ rl1 st1 lv1 q1 h => ?_⟩
  obtain ⟨r, e, k⟩ := h.ofO rl1 st1 lv1
  obtain ⟨v, e1, e⟩ := Option.bind_eq_some_iff.mp e
  have p := q1.1.peek rl1 e1
  cases v with
  | lst vs =>
    cases e
    obtain ⟨p', xs, rfl, ht, rp⟩ := p.lst
    exact ⟨p', xs, rfl, .of ht, fun q n => k _ _ (out_lst rp.rev n)⟩
  | _ => cases e

/-! ### built-ins -/
theorem seqs_len {Z : Addr → Prop} {H : Hp} {vs : List Val} {xs : List V} (r : Reps D Z H vs xs) : (xs.length : Int) = (len vs : Int) := by rw [r.len]
theorem b_len (hK : D.K = X.K) : CallR X (.builtin "len") (rL D (bfn .len)) := by
  intro pins s σ H xs us Q I rs ⟨Z, vs, r, ps, e, k⟩
  have seq : ∀ {v : Val} {ws : List Val}, vs = [v] → seqOf v = some ws → r = .val (.int (len ws)) → wpAny (model X.prog X.w) X.A (call (.builtin "len") us) (EP X pins σ Q) X.xe s := fun {v ws} ev es er => by
    subst ev er
    obtain ⟨x, rfl, px⟩ := ps.one
    obtain ⟨p, ys, rfl, hs, rp⟩ := px.seq es
    rw [hK] at hs
    refine call_len_seq pins s σ H _ us Q I rs ⟨p, ys, rfl, hs, ?_⟩
    rw [seqs_len rp]
    exact k _ _ (out_val (.int _))
  match vs, e with
  | [.str x], e =>
    simp only [bfn] at e
    split at e
    · rename_i hl
      cases e
      obtain ⟨x', rfl, px⟩ := ps.one
      rw [px.str] at rs
      exact call_len_str pins s σ H _ us Q I rs ⟨x, rfl, le_line hl, k _ _ (out_val (.int _))⟩
    · cases e
  | [.tup ws], e => cases e; exact seq rfl rfl rfl
  | [.lst ws], e => cases e; exact seq rfl rfl rfl
  | [.scr ws], e => cases e; exact seq rfl rfl rfl
  | [.non], e => cases e
  | [.bl _], e => cases e
  | [.int _], e => cases e
  | [.fn _], e => cases e
  | [.rat _ _], e => cases e
  | [], e => cases e
  | a :: b :: c, e => cases a <;> cases e
theorem b_abs : CallR X (.builtin "abs") (rL D (bfn .abs)) := by
  intro pins s σ H xs us Q I rs ⟨Z, vs, r, ps, e, k⟩
  match vs, e with
  | [.int i], e =>
    cases e
    obtain ⟨x', rfl, px⟩ := ps.one
    rw [px.int] at rs
    exact call_abs pins s σ H _ us Q I rs ⟨i, rfl, k _ _ (out_val (.int _))⟩
  | [.non], e => cases e
  | [.bl _], e => cases e
  | [.str _], e => cases e
  | [.tup _], e => cases e
  | [.lst _], e => cases e
  | [.scr _], e => cases e
  | [.fn _], e => cases e
  | [.rat _ _], e => cases e
  | [], e => cases e
  | a :: b :: c, e => cases a <;> cases e
theorem b_list (hK : D.K = X.K) : CallR X (.type "list") (rL D (bfn .list)) := by
  intro pins s σ H xs us Q I rs ⟨Z, vs, r, ps, e, k⟩
  match vs, e with
  | [v], e =>
    obtain ⟨ws, e1, e⟩ := Option.map_eq_some_iff.mp (show (seqOf v).map (fun xs => R.fresh xs) = some r by cases v <;> exact e)
    subst e
    obtain ⟨x, rfl, px⟩ := ps.one
    obtain ⟨p, ys, rfl, hs, rp⟩ := px.seq e1
    rw [hK] at hs
    exact call_list_of pins s σ H _ us Q I rs ⟨p, ys, rfl, hs, fun l n => k _ _ (out_lst rp n)⟩
  | [], e => cases e
  | a :: b :: c, e => cases a <;> cases e
theorem b_tuple (hK : D.K = X.K) : CallR X (.type "tuple") (rL D (bfn .tuple)) := by
  intro pins s σ H xs us Q I rs ⟨Z, vs, r, ps, e, k⟩
  have lst : ∀ {v : Val} {ws : List Val}, vs = [v] → seqOf v = some ws → (∀ x, PRep D Z H v x → ∃ a ys, x = .ref a ∧ SqL D.K H a ys ∧ Reps D Z H ws ys) → r = .val (.tup ws) → wpAny (model X.prog X.w) X.A (call (.type "tuple") us) (EP X pins σ Q) X.xe s := fun {v ws} ev es hl er => by
    subst ev er
    obtain ⟨x, rfl, px⟩ := ps.one
    obtain ⟨p, ys, rfl, hs, rp⟩ := hl x px
    rw [hK] at hs
    obtain ⟨u, rfl, rx⟩ := vals1 rs
    cases rx
    obtain ⟨its, r', pl, hz⟩ := I.list hs
    have hlen := r'.length
    refine call_tuple_list pl.isList (fun h' kp => ?_) (by simp only [List.size_toArray] <;> omega)
    have I1 : L2.Inv X pins σ H { s with heap := h' } := I.kept (t' := s.toks) kp
    exact ⟨.ref h'.objs.size, _, new_tup (s := { s with heap := h' }) (t' := s.toks) I1 r' hz, rfl, k _ _ (out_tup rp (I1.hok.fresh (Nat.le_refl _)) rfl)⟩
  match vs, e with
  | [.tup ws], e =>
    cases e
    obtain ⟨x, rfl, px⟩ := ps.one
    obtain ⟨p, ys, rfl, ht, rp⟩ := px.tup
    have ht' := ht
    rw [hK] at ht'
    exact call_tuple_of pins s σ H _ us Q I rs ⟨p, ys, rfl, .inr ⟨ht'.sq, k _ _ (out_val (.tup ht rp))⟩⟩
  | [.lst ws], e =>
    cases e
    exact lst rfl rfl (fun x px => let ⟨a, ys, e, h, r⟩ := px.lst; ⟨a, ys, e, .of h, r⟩) rfl
  | [.scr ws], e =>
    cases e
    exact lst rfl rfl (fun x px => let ⟨a, e, h⟩ := px.scr; ⟨a, _, e, h, .ints⟩) rfl
  | [.non], e => cases e
  | [.bl _], e => cases e
  | [.str _], e => cases e
  | [.int _], e => cases e
  | [.fn _], e => cases e
  | [.rat _ _], e => cases e
  | [], e => cases e
  | a :: b :: c, e => cases a <;> cases e
theorem b_int : CallR X (.type "int") (rL D (bfn .int)) := by
  intro pins s σ H xs us Q I rs ⟨Z, vs, r, ps, e, k⟩
  match vs, e with
  | [.int i], e =>
    cases e
    obtain ⟨x', rfl, px⟩ := ps.one
    rw [px.int] at rs
    exact call_int1 pins s σ H _ us Q I rs (.inl ⟨i, rfl, k _ _ (out_val (.int _))⟩)
  | [.bl i], e =>
    cases e
    obtain ⟨x', rfl, px⟩ := ps.one
    rw [px.bl] at rs
    exact call_int1 pins s σ H _ us Q I rs (.inr ⟨i, rfl, k _ _ (out_val (.int _))⟩)
  | [.non], e => cases e
  | [.str _], e => cases e
  | [.tup _], e => cases e
  | [.lst _], e => cases e
  | [.scr _], e => cases e
  | [.fn _], e => cases e
  | [.rat _ _], e => cases e
  | [], e => cases e
  | a :: b :: c, e => cases a <;> cases e
theorem b_str : CallR X (.type "str") (rL D (bfn .str)) := by
  intro pins s σ H xs us Q I rs ⟨Z, vs, r, ps, e, k⟩
  match vs, e with
  | [.int i], e =>
    simp only [bfn] at e
    split at e
    · rename_i hl
      cases e
      obtain ⟨x', rfl, px⟩ := ps.one
      rw [px.int] at rs
      exact call_str_int pins s σ H _ us Q I rs ⟨i, rfl, hl, k _ _ (out_val (.str _))⟩
    · cases e
  | [.bl _], e => cases e
  | [.non], e => cases e
  | [.str _], e => cases e
  | [.tup _], e => cases e
  | [.lst _], e => cases e
  | [.scr _], e => cases e
  | [.fn _], e => cases e
  | [.rat _ _], e => cases e
  | [], e => cases e
  | a :: b :: c, e => cases a <;> cases e
end
end Ev

/-! Ev8: min, max, sum, all, any; isinstance; join, count. -/
namespace Ev
open PySem PySem.Spec PyProof.Rows L2
section
variable {D : Dom} {X : Cx}
theorem maxL_ok : ∀ (r : List Int) (m : Int), maxL m r ∈ m :: r ∧ ∀ y ∈ m :: r, y ≤ maxL m r
  | [], m => ⟨by simp [maxL], fun y h => by simp at h; subst h; exact Int.le_refl _⟩
  | x :: r, m => by
    obtain ⟨h1, h2⟩ := maxL_ok r (if m < x then x else m)
    show maxL (if m < x then x else m) r ∈ m :: x :: r ∧ ∀ y ∈ m :: x :: r, y ≤ maxL (if m < x then x else m) r
    refine ⟨?_, fun y hy => ?_⟩
    · rcases List.mem_cons.mp h1 with h | h
      · rw [h]; split <;> simp
      · exact .tail _ (.tail _ h)
    · have h0 := h2 (if m < x then x else m) (.head _)
      have hm : m ≤ (if m < x then x else m) ∧ x ≤ (if m < x then x else m) := by split <;> omega
      rcases List.mem_cons.mp hy with rfl | hy
      · omega
      · rcases List.mem_cons.mp hy with rfl | hy
        · omega
        · exact h2 y (.tail _ hy)
theorem minL_ok : ∀ (r : List Int) (m : Int), minL m r ∈ m :: r ∧ ∀ y ∈ m :: r, minL m r ≤ y
  | [], m => ⟨by simp [minL], fun y h => by simp at h; subst h; exact Int.le_refl _⟩
  | x :: r, m => by
    obtain ⟨h1, h2⟩ := minL_ok r (if x < m then x else m)
    show minL (if x < m then x else m) r ∈ m :: x :: r ∧ ∀ y ∈ m :: x :: r, minL (if x < m then x else m) r ≤ y
    refine ⟨?_, fun y hy => ?_⟩
    · rcases List.mem_cons.mp h1 with h | h
      · rw [h]; split <;> simp
      · exact .tail _ (.tail _ h)
    · have h0 := h2 (if x < m then x else m) (.head _)
      have hm : (if x < m then x else m) ≤ m ∧ (if x < m then x else m) ≤ x := by split <;> omega
      rcases List.mem_cons.mp hy with rfl | hy
      · omega
      · rcases List.mem_cons.mp hy with rfl | hy
        · omega
        · exact h2 y (.tail _ hy)
theorem sumL_ok : ∀ (r : List Int) (m : Int), sumL m r = m + r.sum
  | [], m => by simp [sumL]
  | x :: r, m => by
    show sumL (m + x) r = _
    rw [sumL_ok r (m + x), List.sum_cons, Int.add_assoc]
theorem allL_ok : ∀ r : List Bool, allL r = r.all id
  | [] => rfl
  | x :: r => by
    show (x && allL r) = _
    rw [allL_ok r]; rfl
theorem anyL_ok : ∀ r : List Bool, anyL r = r.any id
  | [] => rfl
  | x :: r => by
    show (x || anyL r) = _
    rw [anyL_ok r]; rfl
theorem intsOf_ok : ∀ {vs : List Val} {r : List Int}, intsOf vs = some r → vs = r.map Val.int
  | [], r, h => by cases h; rfl
  | v :: vs, r, h => by
    cases v <;> first | (cases h; done) | skip
    obtain ⟨q, e, h⟩ := Option.map_eq_some_iff.mp h
    subst h
    rw [intsOf_ok e]; rfl
theorem blsOf_ok : ∀ {vs : List Val} {r : List Bool}, blsOf vs = some r → vs = r.map Val.bl
  | [], r, h => by cases h; rfl
  | v :: vs, r, h => by
    cases v <;> first | (cases h; done) | skip
    obtain ⟨q, e, h⟩ := Option.map_eq_some_iff.mp h
    subst h
    rw [blsOf_ok e]; rfl
theorem strsOf_ok : ∀ {vs : List Val} {r : List Str}, strsOf vs = some r → vs = r.map Val.str
  | [], r, h => by cases h; rfl
  | v :: vs, r, h => by
    cases v <;> first | (cases h; done) | skip
    obtain ⟨q, e, h⟩ := Option.map_eq_some_iff.mp h
    subst h
    rw [strsOf_ok e]; rfl
theorem Reps.ofInts {Z : Addr → Prop} {H : Hp} : ∀ {r : List Int} {xs : List V}, Reps D Z H (r.map Val.int) xs → xs = r.map V.int
  | [], _, .nil => rfl
  | i :: r, _, .cons h t => by cases h; rw [Reps.ofInts t]; rfl
theorem Reps.ofBls {Z : Addr → Prop} {H : Hp} : ∀ {r : List Bool} {xs : List V}, Reps D Z H (r.map Val.bl) xs → xs = r.map V.bl
  | [], _, .nil => rfl
  | i :: r, _, .cons h t => by cases h; rw [Reps.ofBls t]; rfl
theorem Reps.ofStrs {Z : Addr → Prop} {H : Hp} : ∀ {r : List Str} {xs : List V}, Reps D Z H (r.map Val.str) xs → xs = r.map V.str
  | [], _, .nil => rfl
  | i :: r, _, .cons h t => by cases h; rw [Reps.ofStrs t]; rfl
section
variable {prog : Program} {w : World} {A : Around} {E : Value → Shared → Prop} {s : Shared} {l : Addr} {its : List Value} {ns : List Int} {Q : Value → Shared → Prop}
theorem tup_start {l : Addr} {items : Array Value} {s : Shared} {Q : Value → Shared → Prop} (ht : s.heap.IsTuple l items)
    (h : ∀ s2 : Shared, s2 = { s with heap := s.heap.push { cls := .type "tuple_iterator", data := .fields #[.ref l, .int 0 0] } } → (s2.heap.IsTupleIter s.heap.objs.size l 0 ∧ s2.heap.IsTuple l items) → l ≠ s.heap.objs.size → Q (.ref s.heap.objs.size) s2) : wpAny (model prog w) A (pyIter (.ref l)) Q E s := by
  obtain ⟨o, ho, _⟩ := id ht
  exact wpAny_pyIter_tuple ht (h _ rfl ⟨⟨_, Heap.get?_push_size _ rfl, rfl, rfl⟩, ht.at fun o e => Heap.get?_push_of_some _ e⟩ (Nat.ne_of_lt (Heap.lt_size ho)))
theorem kept_of {h h' : Heap} {ob : Obj} (hk : ∀ b o, b ∉ [h.objs.size] → (h.push ob).get? b = some o → h'.get? b = some o) : ∀ b o, h.get? b = some o → h'.get? b = some o := fun b o e => by
  refine hk b o (fun hm => ?_) (Heap.get?_push_of_some _ e)
  rcases List.mem_cons.mp hm with e1 | hm
  · exact absurd (e1 ▸ Heap.lt_size e) (Nat.lt_irrefl _)
  · cases hm
theorem max_tupI {xs : Array (Int × Tok)} {Q : Value → Shared → Prop} (hh : A.handled = none) (hl : s.heap.IsTuple l (intItems xs)) (hne : 0 < xs.size)
    (h : ∀ v h' tk, (intItems xs)[argBest (fun i j => decide (numAt xs i > numAt xs j)) (xs.size - 1)]? = some v → (∀ b o, s.heap.get? b = some o → h'.get? b = some o) → Q v { s with heap := h', toks := tk }) :
    wpAny (model prog w) A (call (.builtin "max") [.ref l]) Q E s := by
  obtain ⟨o, ho, _⟩ := id hl
  refine call_max_walk (tup_start hl fun s2 e st hne' => ?_)
  subst e
  refine ⟨_, _, _, _, _, _, _, rfl, Walks.tuple (A := A.in1) hh _ l hne' (intItems xs), st, fun b hb => ?_, by simpa [intItems] using hne, CmpOf.ints_gt (numAt xs) (fun _ _ => intItems_at), fun v h' tk hP hk => h v h' tk (by simpa [intItems] using hP) (kept_of hk)⟩
  rcases List.mem_cons.mp hb with rfl | hb
  · exact Heap.lt_size (Heap.get?_push_size _ rfl)
  · obtain rfl := List.mem_singleton.mp hb
    exact Heap.lt_size (Heap.get?_push_of_some _ ho)
theorem min_tupI {xs : Array (Int × Tok)} {Q : Value → Shared → Prop} (hh : A.handled = none) (hl : s.heap.IsTuple l (intItems xs)) (hne : 0 < xs.size)
    (h : ∀ v h' tk, (intItems xs)[argBest (fun i j => decide (numAt xs i < numAt xs j)) (xs.size - 1)]? = some v → (∀ b o, s.heap.get? b = some o → h'.get? b = some o) → Q v { s with heap := h', toks := tk }) :
    wpAny (model prog w) A (call (.builtin "min") [.ref l]) Q E s := by
  obtain ⟨o, ho, _⟩ := id hl
  refine call_min_walk (tup_start hl fun s2 e st hne' => ?_)
  subst e
  refine ⟨_, _, _, _, _, _, _, rfl, Walks.tuple (A := A.in1) hh _ l hne' (intItems xs), st, fun b hb => ?_, by simpa [intItems] using hne, CmpOf.ints_lt (numAt xs) (fun _ _ => intItems_at), fun v h' tk hP hk => h v h' tk (by simpa [intItems] using hP) (kept_of hk)⟩
  rcases List.mem_cons.mp hb with rfl | hb
  · exact Heap.lt_size (Heap.get?_push_size _ rfl)
  · obtain rfl := List.mem_singleton.mp hb
    exact Heap.lt_size (Heap.get?_push_of_some _ ho)
theorem max_rawT (hh : A.handled = none) (hl : s.heap.IsTuple l its.toArray) (hi : IntsAre its ns) (hne : 0 < ns.length)
    (h : ∀ h' tk M t', (∀ b o, s.heap.get? b = some o → h'.get? b = some o) → M ∈ ns → (∀ a, a ∈ ns → a ≤ M) → Q (.int M t') { s with heap := h', toks := tk }) : wpAny (model prog w) A (call (.builtin "max") [.ref l]) Q E s := by
  obtain ⟨xs, e⟩ := hi.allInts.items
  have hn : numsOf (intItems xs).toList = ns := by rw [← e]; exact hi.numsOf
  rw [nums_intItems] at hn
  subst hn
  rw [e] at hl
  have hsz : 0 < xs.size := by simpa using hne
  refine max_tupI hh hl hsz fun v h' tk hv hk => ?_
  obtain ⟨t, rfl⟩ := intItems_at hv
  obtain ⟨h1, h2⟩ := argBest_gt (numAt xs) (xs.size - 1)
  refine h h' tk _ t hk ?_ fun a ha => ?_
  · rw [numAt_eq]; exact PySem.getD_mem (by rw [List.length_map, Array.length_toList]; omega)
  · obtain ⟨j, hj, rfl⟩ := mem_getD ha
    rw [List.length_map, Array.length_toList] at hj
    rw [← numAt_eq]; exact h2 j (by omega)
theorem min_rawT (hh : A.handled = none) (hl : s.heap.IsTuple l its.toArray) (hi : IntsAre its ns) (hne : 0 < ns.length)
    (h : ∀ h' tk M t', (∀ b o, s.heap.get? b = some o → h'.get? b = some o) → M ∈ ns → (∀ a, a ∈ ns → M ≤ a) → Q (.int M t') { s with heap := h', toks := tk }) : wpAny (model prog w) A (call (.builtin "min") [.ref l]) Q E s := by
  obtain ⟨xs, e⟩ := hi.allInts.items
  have hn : numsOf (intItems xs).toList = ns := by rw [← e]; exact hi.numsOf
  rw [nums_intItems] at hn
  subst hn
  rw [e] at hl
  have hsz : 0 < xs.size := by simpa using hne
  refine min_tupI hh hl hsz fun v h' tk hv hk => ?_
  obtain ⟨t, rfl⟩ := intItems_at hv
  obtain ⟨h1, h2⟩ := argBest_lt (numAt xs) (xs.size - 1)
  refine h h' tk _ t hk ?_ fun a ha => ?_
  · rw [numAt_eq]; exact PySem.getD_mem (by rw [List.length_map, Array.length_toList]; omega)
  · obtain ⟨j, hj, rfl⟩ := mem_getD ha
    rw [List.length_map, Array.length_toList] at hj
    rw [← numAt_eq]; exact h2 j (by omega)
theorem sum_rawT (hh : A.handled = none) (hl : s.heap.IsTuple l its.toArray) (hi : IntsAre its ns)
    (h : ∀ h' tk t', (∀ b o, s.heap.get? b = some o → h'.get? b = some o) → Q (.int ns.sum t') { s with heap := h', toks := tk }) : wpAny (model prog w) A (call (.builtin "sum") [.ref l]) Q E s := by
  obtain ⟨xs, e⟩ := hi.allInts.items
  have hn : numsOf (intItems xs).toList = ns := by rw [← e]; exact hi.numsOf
  rw [nums_intItems] at hn
  rw [e] at hl
  refine PySem.W.ktm_sumG hh hl fun h' tk t' hk => ?_
  have := h h' tk t' hk
  rw [preSum_eq, List.take_of_length_le (by simp), hn]; exact this
end
/-- a sequence of ints: how its walk is done -/
theorem b_red (hK : D.K = X.K) (b : Bif) (id : String) (op : List Int → Option Int) (hb : ∀ v, bfn b [v] = (seqOf v).bind fun xs => (intsOf xs).bind fun r => (op r).map fun i => R.val (.int i))
    (hl : ∀ {pins : List (Addr × Obj)} {σ : St} {H : Hp} {s : Shared} {a : Addr} {ns : List Int} {m : Int} {Q : VK}, L2.Inv X pins σ H s → SqL X.K H a (ns.map V.int) → op ns = some m → Q (.int m) H → wpAny (model X.prog X.w) X.A (call (.builtin id) [.ref a]) (EP X pins σ Q) X.xe s)
    (ht : ∀ {pins : List (Addr × Obj)} {σ : St} {H : Hp} {s : Shared} {a : Addr} {ns : List Int} {m : Int} {Q : VK}, L2.Inv X pins σ H s → SqT X.K H a (ns.map V.int) → op ns = some m → Q (.int m) H → wpAny (model X.prog X.w) X.A (call (.builtin id) [.ref a]) (EP X pins σ Q) X.xe s)
    {pins : List (Addr × Obj)} {σ : St} {H : Hp} {s : Shared} {xs : List V} {us : List Value} {Q : VK} {Z : Addr → Prop} {v : Val} {r : R} (I : L2.Inv X pins σ H s) (rs : Vals xs us) (ps : PReps D Z H [v] xs) (e : bfn b [v] = some r) (k : ∀ z H', Out D Z H r z H' → Q z H') : wpAny (model X.prog X.w) X.A (call (.builtin id) us) (EP X pins σ Q) X.xe s := by
  rw [hb] at e
  obtain ⟨ws, e1, e⟩ := Option.bind_eq_some_iff.mp e
  obtain ⟨ns, e2, e⟩ := Option.bind_eq_some_iff.mp e
  obtain ⟨m, e3, e⟩ := Option.map_eq_some_iff.mp e
  subst e
  obtain ⟨x, rfl, px⟩ := ps.one
  obtain ⟨p, ys, rfl, hs, rp⟩ := px.seq e1
  have e4 := intsOf_ok e2
  subst e4
  have e5 := rp.ofInts
  subst e5
  obtain ⟨u, rfl, ru⟩ := vals1 rs
  cases ru
  rw [hK] at hs
  rcases hs with hs | hs
  · exact hl I hs e3 (k _ _ (out_val (.int _)))
  · exact ht I hs e3 (k _ _ (out_val (.int _)))
def opMax : List Int → Option Int
  | [] => none
  | x :: r => some (maxL x r)
def opMin : List Int → Option Int
  | [] => none
  | x :: r => some (minL x r)
theorem b_max (hK : D.K = X.K) (hc : X.calm = true) : CallR X (.builtin "max") (rL D (bfn .max)) := by
  intro pins s σ H xs us Q I rs ⟨Z, vs, r, ps, e, k⟩
  match vs, e with
  | [v], e =>
    refine b_red hK .max "max" opMax (fun v => ?_) (fun {pins σ H s a ns m Q} I hs e q => ?_) (fun {pins σ H s a ns m Q} I hs e q => ?_) I rs ps e k
    · cases v <;> first | rfl | (simp only [bfn]; congr 1; funext xs; cases intsOf xs with | none => rfl | some l => cases l <;> rfl)
    · cases ns with
      | nil => cases e
      | cons y r =>
        cases e
        refine cr_max hc pins s σ H [.ref a] _ Q I (.cons rfl .nil) ⟨a, y :: r, rfl, hs, Nat.zero_lt_succ _, fun m' h1 h2 => ?_⟩
        obtain ⟨h3, h4⟩ := maxL_ok r y
        have e5 : m' = maxL y r := Int.le_antisymm (h4 _ h1) (h2 _ h3)
        rw [e5]; exact q
    · cases ns with
      | nil => cases e
      | cons y r =>
        cases e
        obtain ⟨its, rv, hl, _⟩ := I.tuple hs
        refine max_rawT (I.ok.hd hc) hl rv.ints (Nat.zero_lt_succ _) fun h' tk m' t' hk h1 h2 => ⟨.int m', H, I.kept hk, ⟨_, rfl⟩, ?_⟩
        obtain ⟨h3, h4⟩ := maxL_ok r y
        have e5 : m' = maxL y r := Int.le_antisymm (h4 _ h1) (h2 _ h3)
        rw [e5]; exact q
  | [], e => cases e
  | a :: b :: c :: d, e => cases a <;> cases b <;> cases e
  | [a, b], e =>
    cases a <;> cases b <;> first | (cases e; done) | skip
    case int.int i j =>
      cases e
      obtain ⟨x, y, rfl, px, py⟩ := ps.two
      rw [px.int, py.int] at rs
      refine call_max2 hc pins s σ H _ us Q I rs ⟨i, j, rfl, ?_⟩
      exact k _ _ (out_val (.int _))
theorem b_min (hK : D.K = X.K) (hc : X.calm = true) : CallR X (.builtin "min") (rL D (bfn .min)) := by
  intro pins s σ H xs us Q I rs ⟨Z, vs, r, ps, e, k⟩
  match vs, e with
  | [v], e =>
    refine b_red hK .min "min" opMin (fun v => ?_) (fun {pins σ H s a ns m Q} I hs e q => ?_) (fun {pins σ H s a ns m Q} I hs e q => ?_) I rs ps e k
    · cases v <;> first | rfl | (simp only [bfn]; congr 1; funext xs; cases intsOf xs with | none => rfl | some l => cases l <;> rfl)
    · cases ns with
      | nil => cases e
      | cons y r =>
        cases e
        refine cr_min hc pins s σ H [.ref a] _ Q I (.cons rfl .nil) ⟨a, y :: r, rfl, hs, Nat.zero_lt_succ _, fun m' h1 h2 => ?_⟩
        obtain ⟨h3, h4⟩ := minL_ok r y
        have e5 : m' = minL y r := Int.le_antisymm (h2 _ h3) (h4 _ h1)
        rw [e5]; exact q
    · cases ns with
      | nil => cases e
      | cons y r =>
        cases e
        obtain ⟨its, rv, hl, _⟩ := I.tuple hs
        refine min_rawT (I.ok.hd hc) hl rv.ints (Nat.zero_lt_succ _) fun h' tk m' t' hk h1 h2 => ⟨.int m', H, I.kept hk, ⟨_, rfl⟩, ?_⟩
        obtain ⟨h3, h4⟩ := minL_ok r y
        have e5 : m' = minL y r := Int.le_antisymm (h2 _ h3) (h4 _ h1)
        rw [e5]; exact q
  | [], e => cases e
  | a :: b :: c :: d, e => cases a <;> cases b <;> cases e
  | [a, b], e =>
    cases a <;> cases b <;> first | (cases e; done) | skip
    case int.int i j =>
      cases e
      obtain ⟨x, y, rfl, px, py⟩ := ps.two
      rw [px.int, py.int] at rs
      refine call_min2 hc pins s σ H _ us Q I rs ⟨i, j, rfl, ?_⟩
      exact k _ _ (out_val (.int _))
theorem b_sum (hK : D.K = X.K) (hc : X.calm = true) : CallR X (.builtin "sum") (rL D (bfn .sum)) := by
  intro pins s σ H xs us Q I rs ⟨Z, vs, r, ps, e, k⟩
  match vs, e with
  | [v], e =>
    refine b_red hK .sum "sum" (fun r => some (sumL 0 r)) (fun v => ?_) (fun {pins σ H s a ns m Q} I hs e q => ?_) (fun {pins σ H s a ns m Q} I hs e q => ?_) I rs ps e k
    · cases v <;> first | rfl | (simp only [bfn]; congr 1; funext xs; cases intsOf xs <;> rfl)
    · cases e
      refine cr_sum hc pins s σ H [.ref a] _ Q I (.cons rfl .nil) ⟨a, ns, rfl, hs, ?_⟩
      rw [sumL_ok, Int.zero_add] at q
      exact q
    · cases e
      obtain ⟨its, rv, hl, _⟩ := I.tuple hs
      refine sum_rawT (I.ok.hd hc) hl rv.ints fun h' tk t' hk => ⟨.int _, H, I.kept hk, ⟨_, rfl⟩, ?_⟩
      rw [sumL_ok, Int.zero_add] at q
      exact q
  | [], e => cases e
  | a :: b :: c, e => cases a <;> cases e
theorem b_all (hK : D.K = X.K) (hc : X.calm = true) : CallR X (.builtin "all") (rL D (bfn .all)) := by
  intro pins s σ H xs us Q I rs ⟨Z, vs, r, ps, e, k⟩
  match vs, e with
  | [.lst ws], e =>
    obtain ⟨bs, e1, e⟩ := Option.map_eq_some_iff.mp e
    subst e
    obtain ⟨x, rfl, px⟩ := ps.one
    obtain ⟨p, ys, rfl, hs, rp⟩ := px.lst
    rw [blsOf_ok e1] at rp
    have e5 := rp.ofBls
    subst e5
    refine cr_all hc pins s σ H _ us Q I rs ⟨p, bs, rfl, .of hs, ?_⟩
    rw [← allL_ok]
    exact k _ _ (out_val (.bl _))
  | [.tup _], e => cases e
  | [.scr _], e => cases e
  | [.non], e => cases e
  | [.bl _], e => cases e
  | [.str _], e => cases e
  | [.int _], e => cases e
  | [.fn _], e => cases e
  | [.rat _ _], e => cases e
  | [], e => cases e
  | a :: b :: c, e => cases a <;> cases e
theorem b_any (hK : D.K = X.K) (hc : X.calm = true) : CallR X (.builtin "any") (rL D (bfn .any)) := by
  intro pins s σ H xs us Q I rs ⟨Z, vs, r, ps, e, k⟩
  match vs, e with
  | [.lst ws], e =>
    obtain ⟨bs, e1, e⟩ := Option.map_eq_some_iff.mp e
    subst e
    obtain ⟨x, rfl, px⟩ := ps.one
    obtain ⟨p, ys, rfl, hs, rp⟩ := px.lst
    rw [blsOf_ok e1] at rp
    have e5 := rp.ofBls
    subst e5
    refine cr_any hc pins s σ H _ us Q I rs ⟨p, bs, rfl, .of hs, ?_⟩
    rw [← anyL_ok]
    exact k _ _ (out_val (.bl _))
  | [.tup _], e => cases e
  | [.scr _], e => cases e
  | [.non], e => cases e
  | [.bl _], e => cases e
  | [.str _], e => cases e
  | [.int _], e => cases e
  | [.fn _], e => cases e
  | [.rat _ _], e => cases e
  | [], e => cases e
  | a :: b :: c, e => cases a <;> cases e
end
end Ev

/-! Ev9: isinstance; join, count. -/
namespace Ev
open PySem PySem.Spec PyProof.Rows L2
def tyn : Val → String
  | .non => "NoneType"
  | .bl _ => "bool"
  | .int _ => "int"
  | .str _ => "str"
  | .tup _ => "tuple"
  | .lst _ => "list"
  | .scr _ => "list"
  | _ => ""
def nm : Ty → String
  | .int => "int"
  | .bool => "bool"
  | .str => "str"
  | .list => "list"
  | .tuple => "tuple"
section
variable {D : Dom} {X : Cx}
theorem SqL.tyx {K : PySem.W.Frag} {H : Hp} {a : Addr} {xs : List V} (h : SqL K H a xs) : TyX K H (.ref a) (.type "list") := by
  rcases h with (h | ⟨o, h⟩) | ⟨o, its, n, h, hc, _⟩
  · exact .base (.lst h)
  · exact .base (.frz h)
  · exact .kList h hc
theorem PRep.ty {Z : Addr → Prop} {H : Hp} {v : Val} {x : V} (h : PRep D Z H v x) (n : ∀ j, v ≠ .fn j) : TyX D.K H x (.type (tyn v)) := by
  rcases h with h | ⟨a, xs, vs, rfl, rfl, ha, r⟩
  · cases h with
    | non => exact .base .non
    | bl b => exact .base (.bl b)
    | int b => exact .base (.int b)
    | str b => exact .base (.str b)
    | fn j => exact absurd rfl (n j)
    | tup h r =>
      rcases h with ⟨o, h, _⟩ | ⟨o, its, k, h, hc, _⟩
      · exact .fTuple h
      · exact .kTuple h hc
    | lst z h r => exact .base (.lst h)
    | scr z h => exact SqL.tyx h
    | scrK h => exact SqL.tyx (h H)
  · exact .base (.lst ha)
theorem isTy_kit {v : Val} {t : Ty} {b : Bool} (h : isTy v t = some b) (n : ∀ j, v ≠ .fn j) (n2 : ∀ p q, v ≠ .rat p q) : kitB (tyn v) (nm t) = some b := by
  cases v with
  | fn j => exact absurd rfl (n j)
  | rat p q => exact absurd rfl (n2 p q)
  | _ => cases t <;> cases h <;> first | rfl | decide +kernel
theorem isTys_kit {K : PySem.W.Frag} {v : Val} (n : ∀ j, v ≠ .fn j) (n2 : ∀ p q, v ≠ .rat p q) : ∀ {ts : List Ty} {b : Bool}, isTys v ts = some b → PySem.W.kitAny K (.type (tyn v)) (ts.map fun t => .type (nm t)) = some b
  | [], b, h => by cases h; exact kitAny_nil
  | t :: ts, b, h => by
    obtain ⟨c, e, h⟩ := Option.bind_eq_some_iff.mp h
    refine kitAny_cons (kit_ty (isTy_kit e n n2)) (fun hc => ?_) (fun hc => ?_)
    · subst hc
      exact isTys_kit n n2 h
    · subst hc
      cases h
      rfl
theorem PRep.norat {Z : Addr → Prop} {H : Hp} {v : Val} {x : V} (h : PRep D Z H v x) : ∀ p q, v ≠ .rat p q := by
  rintro p q rfl
  rcases h with h | ⟨a, xs, vs, e, _⟩
  · cases h
  · cases e
theorem isTys_fn {j : Nat} : ∀ {ts : List Ty} {b : Bool}, isTys (.fn j) ts = some b → ts = []
  | [], _, _ => rfl
  | t :: ts, b, h => by cases h
/-- a class's name -/
structure TyOk (X : Cx) (e : Expr) (t : Ty) : Prop where
  pe : PE X e (tC (.ty (nm t)))
  ns : noStar e = true
theorem ty_ok {x : Str} {p : Pos} {t : Ty} (hg : Gl X x) (hm : X.mg x = none) (hv : bootBuiltins x = some (.type (nm t))) (hn : x ≠ "__name__") (hd : (x == ("__debug__" : Str)) = false) : TyOk X (.Name x p) t := ⟨pe_bltn hg hm hv rfl hn hd, rfl⟩
inductive TysOk (X : Cx) : List Expr → List Ty → Prop where
  | nil : TysOk X [] []
  | cons {e : Expr} {t : Ty} {es : List Expr} {ts : List Ty} (h : TyOk X e t) (r : TysOk X es ts) : TysOk X (e :: es) (t :: ts)
theorem TysOk.ns {es : List Expr} {ts : List Ty} (h : TysOk X es ts) : noStars es = true := by
  induction h with
  | nil => rfl
  | cons h r ih => exact ns_cons h.ns ih
theorem TysOk.pa {es : List Expr} {ts : List Ty} (h : TysOk X es ts) : PA X es (fun σ H Q => Q (ts.map fun t => V.ty (nm t)) H) := by
  induction h with
  | nil => exact ⟨fun ps pins s σ H Q I h => pa_nil.run ps pins s σ H Q I h⟩
  | cons h r ih => exact ⟨fun ps pins s σ H Q I q => (pa_cons h.pe ih (star_cons h.ns)).run ps pins s σ H Q I q⟩
variable {a e : Expr} {es : List Expr} {f : Ec} {x : Str} {p pos p2 : Pos} {t : Ty} {ts : List Ty} {k : Nat}
abbrev opIsi (ts : List Ty) : Val → Option R := fun x => (isTys x ts).map fun k => .val (.bl k)
theorem clsTys : ∀ ts : List Ty, Paired ClsV (ts.map fun t => V.ty (nm t)) (ts.map fun t => Value.type (nm t))
  | [] => .nil
  | t :: ts => .cons (.ty (nm t)) (clsTys ts)
theorem ok_isi (hK : D.K = X.K) (hg : Gl X x) (hm : X.mg x = none) (hv : bootBuiltins x = some (.builtin "isinstance")) (hn : x ≠ "__name__") (hdb : (x == ("__debug__" : Str)) = false) (ha : EOk D X a f) (he : TyOk X e t) :
    EOk D X (.Call (.Name x p) [a, e] [] pos) (c1 (opIsi [t]) f) := by
  have nse : noStars [e] = true := ns_cons he.ns rfl
  refine .mk' (fun W tk => ⟨fun pins s σ H Q I h => (pe_callB call_isi hg hm hv (pa_cons (ha.pe W tk) (pa_cons he.pe pa_nil (star_cons he.ns)) (star_cons ha.ns)) hn hdb (star_cons ha.ns) (star_any nse)).run pins s σ H Q I ?_⟩) rfl (fun _ => rfl)
  obtain ⟨Z, ρ, rl, h⟩ := h
  refine ⟨Z, ρ, rl, Post.bind h fun ra ρ1 x Z1 H1 _ rl1 st1 lv1 q1 h => ?_⟩
  obtain ⟨r, e, k⟩ := h.ofO rl1 st1 lv1
  obtain ⟨v, e1, e⟩ := Option.bind_eq_some_iff.mp e
  obtain ⟨b, e2, e⟩ := Option.map_eq_some_iff.mp e
  subst e
  have px := q1.1.peek rl1 e1
  have nf : ∀ j, v ≠ .fn j := fun j z => by
    subst z
    cases isTys_fn e2
  refine ⟨x, .ty (nm t), .type (tyn v), .type (nm t), b, rfl, .ty _, by rw [← hK]; exact px.ty nf, ?_, k _ _ (out_val (.bl _))⟩
  obtain ⟨c, e3, e4⟩ := Option.bind_eq_some_iff.mp e2
  have : c = b := by cases c <;> cases e4 <;> rfl
  subst this
  exact kit_ty (isTy_kit e3 nf px.norat)
theorem TyX.upd {K : PySem.W.Frag} {H : Hp} {x : V} {t : Value} {p : Addr} {o : HO} (h : TyX K H x t) (n : H p = none) : TyX K (L2.upd H p o) x t := by
  have g : Grow H (L2.upd H p o) := Grow.upd n
  cases h with
  | base h =>
    cases h with
    | non => exact .base .non
    | bl b => exact .base (.bl b)
    | int b => exact .base (.int b)
    | str b => exact .base (.str b)
    | flt b => exact .base (.flt b)
    | lst e => exact .base (.lst (g _ _ e))
    | frz e => exact .base (.frz (g _ _ e))
    | tup e => exact .base (.tup (g _ _ e))
    | dK e => exact .base (.dK (g _ _ e))
    | dT e => exact .base (.dT (g _ _ e))
    | ins e a b c d f => exact .base (.ins (g _ _ e) a b c d f)
  | byt b => exact .byt b
  | set e => exact .set (g _ _ e)
  | kList e c => exact .kList e c
  | kTuple e c => exact .kTuple e c
  | kDict e c => exact .kDict e c
  | fTuple e => exact .fTuple (g _ _ e)
  | fDict e => exact .fDict (g _ _ e)
theorem ok_isiT (hK : D.K = X.K) (hg : Gl X x) (hm : X.mg x = none) (hv : bootBuiltins x = some (.builtin "isinstance")) (hn : x ≠ "__name__") (hdb : (x == ("__debug__" : Str)) = false) (ha : EOk D X a f) (he : TysOk X es ts) (hl : ts.length ≤ 1000) (h0 : ts ≠ []) :
    EOk D X (.Call (.Name x p) [a, .Tuple es k p2] [] pos) (c1 (opIsi ts) f) := by
  have nse : noStars [Expr.Tuple es k p2] = true := rfl
  refine .mk' (fun W tk => ⟨fun pins s σ H Q I h => (pe_callB call_isiT hg hm hv (pa_cons (ha.pe W tk) (pa_cons (pe_tup he.pa) pa_nil (star_cons rfl)) (star_cons ha.ns)) hn hdb (star_cons ha.ns) (star_any nse)).run pins s σ H Q I ?_⟩) rfl (fun _ => rfl)
  obtain ⟨Z, ρ, rl, h⟩ := h
  refine ⟨Z, ρ, rl, Post.bind h fun ra ρ1 x Z1 H1 _ rl1 st1 lv1 q1 h => ?_⟩
  cases e1 : peek ra ρ1 with
  | none => rw [e1] at h; exact h.elim
  | some v =>
    rw [e1] at h
    have px := q1.1.peek rl1 e1
    cases e2 : isTys v ts with
    | none => simp only [opIsi, Option.bind_some, e2] at h; exact h.elim
    | some b =>
    simp only [opIsi, Option.bind_some, e2, Option.map_some] at h
    refine ⟨by rw [List.length_map, sizeLine_eq]; omega, fun tp ht => ?_⟩
    by_cases hf : ∃ j, v = .fn j
    · obtain ⟨j, rfl⟩ := hf
      have e3 := isTys_fn e2
      exact absurd e3 h0
    · have nf : ∀ j, v ≠ .fn j := fun j z => hf ⟨j, z⟩
      have o : Out D Z1 H1 (.val (.bl b)) (.bl b) (upd H1 tp (.tup (ts.map fun t => V.ty (nm t)))) := ⟨.upd ht, .bl b⟩
      obtain ⟨a1, b1, c1⟩ := o.use rl1
      refine ⟨x, tp, _, .type (tyn v), ts.map fun t => .type (nm t), b, rfl, upd_same, clsTys ts, TyX.upd (by rw [← hK]; exact px.ty nf) ht, isTys_kit nf px.norat e2, ?_⟩
      exact h _ Z1 _ a1 (st1.trans b1) lv1 (c1.back st1)
/-! ### methods -/
theorem rd_L' {W : WX} {op : List Val → Option R} {g : Lc} {σ : St} {H H0 : Hp} {Q : VK} {Z Z0 : Addr → Prop} {ρ ρ0 : Env} (h : Post D W Z0 ρ0 σ H0 (relE D σ) (cL op g ρ) Q) (rl : Rl D Z ρ σ H) (st : Stp Z0 ρ0 σ H0 Z ρ σ H) (lv : Lv ρ0 ρ) :
    RdL D W g σ H (fun xs H' => ∃ Z' ρ', Rl D Z' ρ' σ H' ∧ Stp Z ρ σ H Z' ρ' σ H' ∧ ∃ vs r, PReps D Z' H' vs xs ∧ op vs = some r ∧ ∀ z H2, Out D Z' H' r z H2 → Q z H2) := by
  refine ⟨Z, ρ, rl, Post.bind2 h st lv fun rs ρ1 xs Z1 H1 _ rl1 st1 lv1 q1 h => ?_⟩
  obtain ⟨r, e, k⟩ := h.ofO rl1 (st.trans st1) (lv.trans lv1)
  obtain ⟨vs, e1, e⟩ := Option.bind_eq_some_iff.mp e
  exact ⟨Z1, ρ1, rl1, st1, vs, r, RRels.peeks q1 rl1 e1, e, k⟩
theorem lenS_eq (a : Str) : ∀ r : List Str, lenS a r = (r.map (·.length)).sum + r.length * a.length
  | [] => by simp [lenS]
  | x :: r => by
    show x.length + a.length + lenS a r = _
    rw [lenS_eq a r, List.map_cons, List.sum_cons, List.length_cons, Nat.succ_mul]
    omega
variable {o : Expr} {name : Str} {apos : Pos} {g : Lc}
theorem ns_all {pos : Pos} {env : PySem.Env} (h : noStars (e :: es) = true) (hl : es.length < 29) : ((backTo pos (starEach (e :: es) env)).all (fun x => !x.1) && (backToKw pos (keywordEach [] env)).all (fun x => x.1.isSome) && decide ((e :: es).length + ([] : List Keyword).length + (if ([] : List Keyword).isEmpty then 0 else 1) < 30)) = true := by
  rw [star_all h]
  have : (e :: es).length + ([] : List Keyword).length + (if ([] : List Keyword).isEmpty then 0 else 1) < 30 := by simp; omega
  rw [decide_eq_true this]
  rfl
theorem ok_join (ho : EOk D X o f) (ha : LOk D X (e :: es) g) (hK : D.K = X.K) (hl : es.length < 29) (hbase : attributeBase o "join" X.env (eval o X.env) = eval o X.env) (hline : (apos.endLine == pos.line) = true) : EOk D X (.Call (.Attribute o "join" apos) (e :: es) [] pos) (cJoin f g) := by
  have ns : noStar e = true ∧ noStars es = true := by simpa [noStars, Bool.and_eq_true] using ha.ns
  refine .mk' (fun W tk => ⟨fun pins s σ H Q I h => (pe_bm F.plainAttrs_str F.slot_str_join F.type_str_join mt_join (ho.pe W tk) (ha.pa W tk) hbase (ns_all ha.ns hl) hline (star_cons ns.1) (star_any ns.2)).run pins s σ H Q I ?_⟩) rfl (fun _ => rfl)
  obtain ⟨Z, ρ, rl, h⟩ := h
  refine ⟨Z, ρ, rl, Post.bind h fun ra ρ1 x Z1 H1 _ rl1 st1 lv1 q1 h => ?_⟩
  cases ra with
  | val v =>
    cases v with
    | str a =>
      obtain ⟨q1, _⟩ := q1
      cases q1
      refine ⟨rfl, ?_⟩
      obtain ⟨Z0, ρ0, rl0, h0⟩ := rd_L' h rl1 st1 lv1
      refine ⟨Z0, ρ0, rl0, ?_⟩
      refine Post.imp h0 fun xs H2 ⟨Z2, ρ2, rl2, st2, vs, r, ps, e, k⟩ => ?_
      match vs, e with
      | [v], e =>
        obtain ⟨ws, e1, e⟩ := Option.bind_eq_some_iff.mp e
        obtain ⟨ys, e2, e⟩ := Option.bind_eq_some_iff.mp e
        split at e
        · rename_i hz
          cases e
          obtain ⟨y, rfl, py⟩ := ps.one
          obtain ⟨p, zs, rfl, hs, rp⟩ := py.seq e1
          rw [strsOf_ok e2] at rp
          have e5 := rp.ofStrs
          subst e5
          rw [hK] at hs
          refine ⟨a, p, ys, rfl, rfl, hs, ?_, ?_⟩
          · rw [← lenS_eq]
            exact Nat.le_trans hz (by decide)
          · show Q (.str (Builtin.Str.glued a ys)) H2
            rw [StrLaws.glued_eq_join]
            exact k _ _ (out_val (.str _))
        · cases e
      | [], e => cases e
      | a :: b :: c, e => cases e
    | _ => exact h.elim
  | _ => exact h.elim
end
end Ev

/-! Ev10: count; sorted. -/
namespace Ev
open PySem PySem.Spec PyProof.Rows L2
section
variable {D : Dom} {X : Cx} {a e o : Expr} {es : List Expr} {f : Ec} {x : Str} {p pos p2 apos : Pos} {k : Nat} {g : Lc}
theorem cntInt_eq (i : Int) : ∀ (r : List Int) (us : List Value), IntsAre us r → ∀ ev : Value → Bool, (∀ j t, ev (.int j t) = (j == i)) → us.countP ev = cntInt i r
  | [], _, .nil, _, _ => rfl
  | j :: r, _, .cons _ t h, ev, he => by
    rw [List.countP_cons, cntInt_eq i r _ h ev he, he]
    show _ = if i = j then cntInt i r + 1 else cntInt i r
    by_cases h : i = j
    · subst h; simp
    · have : (j == i) = false := beq_eq_false_iff_ne.mpr (Ne.symm h)
      rw [this, if_neg h]; rfl
theorem ints_mem' : ∀ {us : List Value} {r : List Int}, IntsAre us r → ∀ y ∈ us, ∃ j u, y = Value.int j u
  | _, _, .nil, y, h => by cases h
  | _, _, .cons j u t, y, h => by
    rcases List.mem_cons.mp h with rfl | h
    · exact ⟨_, _, rfl⟩
    · exact ints_mem' t y h
theorem TupAt.stp {K : PySem.W.Frag} {Z Z' : Addr → Prop} {ρ ρ' : Env} {σ σ' : St} {H H' : Hp} {b : Addr} {xs : List V} (h : TupAt K H b xs) (rl : Rl D Z ρ σ H) (st : Stp Z ρ σ H Z' ρ' σ' H') : TupAt K H' b xs :=
  tupAt_at h fun o e n => st.kp rl _ o e (.inr n)
theorem TupAt.dict {pins : List (Addr × Obj)} {σ : St} {H : Hp} {s : Shared} {b : Addr} {xs : List V} (I : L2.Inv X pins σ H s) (h : TupAt X.K H b xs) : s.TypeIs (.ref b) "tuple" ∧ ∃ ob, s.heap.get? b = some ob ∧ ob.dict = none := by
  rcases h with ⟨o, h, d⟩ | ⟨o, its, n, h, hc, hd, _⟩
  · obtain ⟨e, _, _, _, o', h1, h2, _⟩ := (show ObjOk X.prog X.w H s.heap b (.frz o (.tup xs)) from I.hok b _ h)
    exact ⟨⟨o', h1, h2⟩, o, e, d⟩
  · exact ⟨⟨o, I.kIn b o h, hc⟩, o, I.kIn b o h, hd⟩
theorem ok_count (ho : EOk D X o f) (ha : LOk D X (e :: es) g) (hK : D.K = X.K) (hl : es.length < 29) (hbase : attributeBase o "count" X.env (eval o X.env) = eval o X.env) (hline : (apos.endLine == pos.line) = true) : EOk D X (.Call (.Attribute o "count" apos) (e :: es) [] pos) (cCount f g) := by
  have ns : noStar e = true ∧ noStars es = true := by simpa [noStars, Bool.and_eq_true] using ha.ns
  refine .mk' (fun W tk => ⟨fun pins s σ H Q I h => ?_⟩) rfl (fun _ => rfl)
  obtain ⟨Z, ρ, rl, h⟩ := h
  have h0 := (ho.pe W tk).run pins s σ H (fun x H1 => ∃ Z1 ρ1 vs, Rl D Z1 ρ1 σ H1 ∧ Rep D Z1 H1 (.tup vs) x ∧ RdL D W g σ H1 (fun xs H' => ∃ Z' ρ', Rl D Z' ρ' σ H' ∧ Stp Z1 ρ1 σ H1 Z' ρ' σ H' ∧ ∃ ws r, PReps D Z' H' ws xs ∧ opCount vs ws = some r ∧ ∀ z H2, Out D Z' H' r z H2 → Q z H2)) I (by
    refine ⟨Z, ρ, rl, Post.bind h fun ra ρ1 x Z1 H1 _ rl1 st1 lv1 q1 h => ?_⟩
    cases ra with
    | val v =>
      cases v with
      | tup vs => exact ⟨Z1, ρ1, vs, rl1, q1.1, rd_L' h rl1 st1 lv1⟩
      | _ => exact h.elim
    | _ => exact h.elim)
  refine wpAny_Call_method_late hbase (ns_all ha.ns hl) hline rfl (thn h0 fun v s1 ⟨x, H1, I1, r1, Z1, ρ1, vs, rl1, rp, q1⟩ => ?_)
  obtain ⟨b, xs, rfl, ht, rs⟩ := (show PRep D Z1 H1 (.tup vs) x from .inl rp).tup
  cases r1
  have ht0 := ht
  rw [hK] at ht0
  obtain ⟨ty, ob, hob, hd⟩ := TupAt.dict I1 ht0
  refine ⟨"tuple", "tuple.count", F.plainAttrs_tuple, F.slot_tuple_count, F.type_tuple_count, ty, fun c ec => by cases ec; exact ⟨ob, hob, hd⟩, ?_⟩
  rw [star_cons ns.1]
  have hA := (ha.pa W tk).run pos pins s1 σ H1 _ I1 q1
  rw [star_cons ns.1] at hA
  refine Calls.callWith_builtin (by show (false || (backTo pos (starEach es X.env)).any (·.1)) = false; rw [star_any ns.2] <;> rfl) (Calls.evalArgs_plain ?_)
  refine thn hA fun us s2 ⟨ys, H2, I2, r2, Z2, ρ2, rl2, st2, ws, r, ps, e, k⟩ => ?_
  match ws, e with
  | [.int i], e =>
    obtain ⟨ns', e1, e⟩ := Option.map_eq_some_iff.mp e
    subst e
    obtain ⟨y, rfl, py⟩ := ps.one
    have hy := py.int
    subst hy
    rw [intsOf_ok e1] at rs
    have e5 := rs.ofInts
    subst e5
    have ht2 := ht.stp rl1 st2
    have ht3 := ht2
    rw [hK] at ht3
    obtain ⟨its, rv, p1, _⟩ := I2.tuple ht3.sq
    obtain ⟨⟨cls, dd, data, sl⟩, ho', hc', n', hd'⟩ := id p1
    simp only at hc' hd'
    subst hc' hd'
    obtain ⟨u, rfl, t, rfl⟩ := vals1 r2
    have hi := rv.ints
    let ev : Value → Bool := fun y => match y with | .int j _ => j == i | _ => false
    refine call_meets F.slot_tuple_count ⟨_, ho', rfl⟩ F.entry_tuple_count (F.args_tuple_count_2 _ _) (SeqAt.tuple_countAt b its.toArray n' dd sl (.int i t) ev) ⟨ho', fun y hy => ?_, ?_⟩
    · obtain ⟨j, u, rfl⟩ := ints_mem' hi y (by simpa using hy)
      exact SeqAt.EqAt.int_int _ _ _ _
    · refine ⟨.int _, H2, I2.tok _, ⟨_, rfl⟩, ?_⟩
      show Q (V.int ((its.countP ev : Nat) : Int)) H2
      rw [cntInt_eq i ns' its hi ev (fun _ _ => rfl)]
      exact k _ _ (out_val (.int _))
  | [.bl _], e => cases e
  | [.non], e => cases e
  | [.str _], e => cases e
  | [.tup _], e => cases e
  | [.lst _], e => cases e
  | [.scr _], e => cases e
  | [.fn _], e => cases e
  | [.rat _ _], e => cases e
  | [], e => cases e
  | a :: b :: c, e => cases a <;> cases e
end
end Ev

/-! Ev11: sorted. -/
namespace Ev
open PySem PySem.Spec PyProof.Rows L2
section
theorem insInt_perm (x : Int) : ∀ l : List Int, (insInt x l).Perm (x :: l)
  | [] => .refl _
  | y :: r => by
    show (if x < y then x :: y :: r else y :: insInt x r).Perm _
    split
    · exact .refl _
    · exact ((insInt_perm x r).cons y).trans (.swap x y r)
theorem sortInt_perm : ∀ l : List Int, (sortInt l).Perm l
  | [] => .refl _
  | x :: r => (insInt_perm x _).trans ((sortInt_perm r).cons x)
theorem insInt_pw (x : Int) : ∀ l : List Int, l.Pairwise (· ≤ ·) → (insInt x l).Pairwise (· ≤ ·)
  | [], _ => List.pairwise_singleton _ _
  | y :: r, h => by
    show (if x < y then x :: y :: r else y :: insInt x r).Pairwise _
    obtain ⟨h1, h2⟩ := List.pairwise_cons.mp h
    split
    · refine List.pairwise_cons.mpr ⟨fun z hz => ?_, h⟩
      rcases List.mem_cons.mp hz with rfl | hz
      · omega
      · have := h1 z hz; omega
    · refine List.pairwise_cons.mpr ⟨fun z hz => ?_, insInt_pw x r h2⟩
      rcases List.mem_cons.mp ((insInt_perm x r).mem_iff.mp hz) with rfl | hz
      · omega
      · exact h1 z hz
theorem sortInt_pw : ∀ l : List Int, (sortInt l).Pairwise (· ≤ ·)
  | [] => List.Pairwise.nil
  | x :: r => insInt_pw x _ (sortInt_pw r)
theorem sortInt_uniq {l m : List Int} (h : m.Perm l) (p : m.Pairwise (· ≤ ·)) : m = sortInt l :=
  List.Perm.eq_of_pairwise (le := (· ≤ ·)) (fun a b _ _ h1 h2 => Int.le_antisymm h1 h2) p (sortInt_pw l) (h.trans (sortInt_perm l).symm)
theorem insSet_ok (x : Int) : ∀ l : List Int, l.Pairwise (· < ·) → (insSet x l).Pairwise (· < ·) ∧ ∀ k, k ∈ insSet x l ↔ k = x ∨ k ∈ l
  | [], _ => ⟨List.pairwise_singleton _ _, fun k => by simp [insSet]⟩
  | y :: r, h => by
    obtain ⟨h1, h2⟩ := List.pairwise_cons.mp h
    obtain ⟨i1, i2⟩ := insSet_ok x r h2
    show (if x < y then x :: y :: r else if x = y then y :: r else y :: insSet x r).Pairwise _ ∧ ∀ k, k ∈ (if x < y then x :: y :: r else if x = y then y :: r else y :: insSet x r) ↔ _
    by_cases c1 : x < y
    · rw [if_pos c1]
      refine ⟨List.pairwise_cons.mpr ⟨fun z hz => ?_, h⟩, fun k => by simp⟩
      rcases List.mem_cons.mp hz with rfl | hz
      · exact c1
      · have := h1 z hz; omega
    · rw [if_neg c1]
      by_cases c2 : x = y
      · rw [if_pos c2]
        subst c2
        exact ⟨h, fun k => by simp⟩
      · rw [if_neg c2]
        refine ⟨List.pairwise_cons.mpr ⟨fun z hz => ?_, i1⟩, fun k => by simp only [List.mem_cons, i2]; exact or_left_comm⟩
        rcases (i2 z).mp hz with rfl | hz
        · omega
        · exact h1 z hz
theorem sortSet_ok : ∀ l : List Int, (sortSet l).Pairwise (· < ·) ∧ ∀ k, k ∈ sortSet l ↔ k ∈ l
  | [] => ⟨List.Pairwise.nil, fun k => by simp [sortSet]⟩
  | x :: r => by
    obtain ⟨h1, h2⟩ := sortSet_ok r
    obtain ⟨i1, i2⟩ := insSet_ok x _ h1
    exact ⟨i1, fun k => by show k ∈ insSet x (sortSet r) ↔ _; rw [i2, h2, List.mem_cons]⟩
theorem set_uniq : ∀ {l m : List Int}, l.Pairwise (· < ·) → m.Pairwise (· < ·) → (∀ k, k ∈ l ↔ k ∈ m) → l = m
  | [], [], _, _, _ => rfl
  | [], y :: m, _, _, h => absurd ((h y).mpr (.head _)) (by simp)
  | x :: l, [], _, _, h => absurd ((h x).mp (.head _)) (by simp)
  | x :: l, y :: m, h1, h2, h => by
    obtain ⟨a1, a2⟩ := List.pairwise_cons.mp h1
    obtain ⟨b1, b2⟩ := List.pairwise_cons.mp h2
    have e : x = y := by
      rcases List.mem_cons.mp ((h x).mp (.head _)) with e | hx
      · exact e
      · rcases List.mem_cons.mp ((h y).mpr (.head _)) with e | hy
        · exact e.symm
        · have := a1 y hy; have := b1 x hx; omega
    subst e
    rw [set_uniq a2 b2 fun k => ⟨fun hk => ?_, fun hk => ?_⟩]
    · rcases List.mem_cons.mp ((h k).mp (.tail _ hk)) with rfl | q
      · have := a1 _ hk; omega
      · exact q
    · rcases List.mem_cons.mp ((h k).mpr (.tail _ hk)) with rfl | q
      · have := b1 _ hk; omega
      · exact q
theorem lexLt_eq : ∀ xs ys : List Int, lexLt xs ys = decide (xs < ys)
  | [], [] => by simp [lexLt]
  | [], _ :: _ => by simp [lexLt]
  | _ :: _, [] => by simp [lexLt]
  | x :: xs, y :: ys => by
    show (if x = y then lexLt xs ys else decide (x < y)) = _
    by_cases h : x = y
    · rw [if_pos h, lexLt_eq xs ys]
      simp [h, List.cons_lt_cons_iff]
    · rw [if_neg h]
      simp [h, List.cons_lt_cons_iff]
theorem insRow_perm (x : List Int) : ∀ l : List (List Int), (insRow x l).Perm (x :: l)
  | [] => .refl _
  | y :: r => by
    show (if lexLt x y then x :: y :: r else y :: insRow x r).Perm _
    split
    · exact .refl _
    · exact ((insRow_perm x r).cons y).trans (.swap x y r)
theorem sortRow_perm : ∀ l : List (List Int), (sortRow l).Perm l
  | [] => .refl _
  | x :: r => (insRow_perm x _).trans ((sortRow_perm r).cons x)
theorem insRow_pw (x : List Int) : ∀ l : List (List Int), l.Pairwise (· ≤ ·) → (insRow x l).Pairwise (· ≤ ·)
  | [], _ => List.pairwise_singleton _ _
  | y :: r, h => by
    show (if lexLt x y then x :: y :: r else y :: insRow x r).Pairwise _
    obtain ⟨h1, h2⟩ := List.pairwise_cons.mp h
    rw [lexLt_eq]
    by_cases c : x < y
    · rw [if_pos (decide_eq_true c)]
      refine List.pairwise_cons.mpr ⟨fun z hz => ?_, h⟩
      rcases List.mem_cons.mp hz with rfl | hz
      · exact List.le_of_lt c
      · exact List.le_trans (List.le_of_lt c) (h1 z hz)
    · rw [if_neg (by simpa using c)]
      refine List.pairwise_cons.mpr ⟨fun z hz => ?_, insRow_pw x r h2⟩
      rcases List.mem_cons.mp ((insRow_perm x r).mem_iff.mp hz) with rfl | hz
      · exact List.not_lt.mp c
      · exact h1 z hz
theorem sortRow_pw : ∀ l : List (List Int), (sortRow l).Pairwise (· ≤ ·)
  | [] => List.Pairwise.nil
  | x :: r => insRow_pw x _ (sortRow_pw r)
theorem sortRow_merge (l : List (List Int)) : l.mergeSort (fun p q => decide (p ≤ q)) = sortRow l := by
  refine List.Perm.eq_of_pairwise (le := (· ≤ ·)) (fun a b _ _ h1 h2 => List.le_antisymm h1 h2) ?_ (sortRow_pw l) ((List.mergeSort_perm l _).trans (sortRow_perm l).symm)
  have := List.pairwise_mergeSort (le := fun p q : List Int => decide (p ≤ q)) (fun a b c h1 h2 => by simp at h1 h2 ⊢; exact List.le_trans h1 h2) (fun a b => by simp; exact List.le_total a b) l
  exact this.imp fun h => by simpa using h
end
section
variable {D : Dom} {X : Cx}
theorem introws_ok : ∀ {vs : List Val} {r : List (List Int)}, introws vs = some r → vs = r.map (fun x => Val.tup (x.map Val.int)) ∧ ∀ x ∈ r, x ≠ []
  | [], r, h => by cases h; exact ⟨rfl, fun _ h => nomatch h⟩
  | v :: vs, r, h => by
    match v, h with
    | .tup (w :: ws), h =>
      obtain ⟨x, e1, h⟩ := Option.bind_eq_some_iff.mp h
      obtain ⟨q, e2, h⟩ := Option.map_eq_some_iff.mp h
      subst h
      obtain ⟨e3, e4⟩ := introws_ok e2
      have e5 := intsOf_ok e1
      refine ⟨by rw [e3, e5]; rfl, fun y hy => ?_⟩
      rcases List.mem_cons.mp hy with rfl | hy
      · intro z; subst z; cases e5
      · exact e4 y hy
    | .non, h => cases h
    | .bl _, h => cases h
    | .int _, h => cases h
    | .str _, h => cases h
    | .fn _, h => cases h
    | .lst _, h => cases h
    | .rat _ _, h => cases h
    | .scr _, h => cases h
    | .tup [], h => cases h
theorem dats_ints : ∀ r : List Int, dats (r.map Val.int) = r.map PyData.int
  | [] => rfl
  | i :: r => by
    show dat (.int i) :: dats (r.map Val.int) = _
    rw [dats_ints r]
    rfl
theorem plains_ints : ∀ r : List Int, plains (r.map Val.int) = true
  | [] => rfl
  | i :: r => by
    show (plain (.int i) && plains (r.map Val.int)) = true
    rw [plains_ints r]
    rfl
abbrev encT (r : List Int) : PyData := .tuple (r.map .int)
theorem dataLe_tups : PySem.W.dataLe false encT = fun p q : List Int => decide (p ≤ q) := by
  funext p q
  show (!PySem.W.dataLt (.tuple (q.map .int)) (.tuple (p.map .int))) = _
  rw [PySem.W.dataLt_tuple]
  show (!PySem.W.rowLt (q.map .int) (p.map .int)) = _
  rw [PySem.W.dataLt_ints]
  by_cases h : q < p
  · have h' : ¬ p ≤ q := fun r => List.not_lt.mpr r h
    simp [h, h']
  · have h' : p ≤ q := List.not_lt.mp h
    simp [h, h']
theorem alike_tups (r : List (List Int)) : PySem.W.AllAlike (r.map encT) := .of fun b b' => by
  show PySem.W.alike (.tuple _) (.tuple _) = true
  simp only [PySem.W.alike]
  exact PySem.W.alike_ints b b'
/-- the sorted values as values again -/
theorem each_rows {Z : Addr → Prop} {H : Hp} : ∀ {out : List Value} {rs : List (List Int)}, PySem.W.EachIs (fun u r => ∃ x, RelV x u ∧ Rep D Z H (.tup (r.map Val.int)) x) out rs → ∃ xs, Vals xs out ∧ Reps D Z H (rs.map fun x => Val.tup (x.map Val.int)) xs
  | _, _, .nil => ⟨[], .nil, .nil⟩
  | _, _, .cons ⟨x, r, h⟩ t => by
    obtain ⟨xs, a, b⟩ := each_rows t
    exact ⟨x :: xs, .cons r a, .cons h b⟩
theorem rows_each {Z : Addr → Prop} {H : Hp} : ∀ {rs : List (List Int)} {xs : List V} {us : List Value}, Reps D Z H (rs.map fun x => Val.tup (x.map Val.int)) xs → Vals xs us → PySem.W.EachIs (fun u r => ∃ x, RelV x u ∧ Rep D Z H (.tup (r.map Val.int)) x) us rs
  | [], _, _, .nil, .nil => .nil
  | r :: rs, _, _, .cons h t, .cons q s => .cons ⟨_, q, h⟩ (rows_each t s)
theorem each_imp {α β : Type} {R R' : α → β → Prop} (h : ∀ a b, R a b → R' a b) : ∀ {xs : List α} {ys : List β}, PySem.W.EachIs R xs ys → PySem.W.EachIs R' xs ys
  | _, _, .nil => .nil
  | _, _, .cons q t => .cons (h _ _ q) (each_imp h t)
theorem unitRow_ok : ∀ {xs : List Val} {r : R}, unitRow xs = some r → xs = [.tup []] ∧ r = .fresh [.tup []]
  | [.tup []], _, h => by cases h; exact ⟨rfl, rfl⟩
  | [], _, h => by cases h
  | [.tup (_ :: _)], _, h => by cases h
  | [.non], _, h => by cases h
  | [.bl _], _, h => by cases h
  | [.int _], _, h => by cases h
  | [.str _], _, h => by cases h
  | [.fn _], _, h => by cases h
  | [.lst _], _, h => by cases h
  | [.rat _ _], _, h => by cases h
  | [.scr _], _, h => by cases h
  | a :: b :: c, _, h => by cases a <;> first | (cases h; done) | (rename_i x; cases x <;> cases h)
theorem sortsAt_unit {prog : Program} {w : World} {A : Around} {s : Shared} {v : Value} (e : PySem.W.EachIs (fun v d => ∃ as, Reads s.heap v d as) [v] [PyData.tuple []]) (hu : A.units + 1 < cLine) : PySem.W.SortsAt prog w A s (PySem.W.dataKind s.heap [PyData.tuple []]) [v] := by
  have hal : PySem.W.AllAlike [PyData.tuple []] := fun d hd d' hd' => by
    rw [List.mem_singleton.mp hd, List.mem_singleton.mp hd']
    rfl
  refine ⟨fun v hv => ?_, tuples' false, ?_, fun h2 => absurd h2 (by simp)⟩
  · obtain ⟨d, hd, as, r⟩ := e.left v hv
    exact ⟨_, PySem.W.dataKind_some hal hd r⟩
  · intro E x y a b Q ha hb hq
    obtain ⟨d, as, hd, ra, rfl⟩ := PySem.W.dataKind_inv ha
    obtain ⟨d', as', hd', rb, rfl⟩ := PySem.W.dataKind_inv hb
    cases List.mem_singleton.mp hd
    cases List.mem_singleton.mp hd'
    have hq' : Q (PySem.W.dataLt (.tuple []) (.tuple [])) s := hq
    rw [PySem.W.dataLt_tuple] at hq'
    cases ra with
    | @tuple l o xs n _ _ h1 h2 h3 h4 =>
      cases rb with
      | @tuple l' o' xs' n' _ _ k1 k2 k3 k4 =>
        have n1 : xs.size = ([] : List PyData).length := by simpa using SeqAt.ReadsAll.length _ _ _ h4
        have n2 : xs'.size = ([] : List PyData).length := by simpa using SeqAt.ReadsAll.length _ _ _ k4
        refine PySem.W.kat_lt h1 h3 k1 k3 (PySem.W.katLex_alike [] [] 0 _ _ _ _ h4 k4 (by rfl) (by simp only [PyData.depthAll]; omega) (fun hb _ x r t ex => ?_) (by rw [n1, n2]) hq')
        cases ex
theorem sorted_unit {prog : Program} {w : World} {A : Around} {s : Shared} {E : Value → Shared → Prop} {R : Value → List Int → Prop} {v : Value} {l : Addr} {Q : Value → Shared → Prop} {bs : List (List Int)} (hb : bs = [[]]) (hl : s.heap.IsList l [v].toArray) (e : PySem.W.EachIs R [v] bs)
    (er : PySem.W.EachIs (fun v b => ∃ as, Reads s.heap v (encT b) as) [v] bs) (hu : A.units + 3 < cLine)
    (h : ∀ out, out.length = 1 → PySem.W.EachIs R out bs → Q (.ref (s.heap.objs.size + 1)) { s with heap := PyProof.Rows.sortedAll s.heap [v] (List.toArray out) }) :
    wpAny (model prog w) A (call (.builtin "sorted") [.ref l]) Q E s := by
  have er' : PySem.W.EachIs (fun u b => ∃ as, Reads (PySem.W.sortingHeap (PySem.W.copyHeap s.heap [v]) (s.heap.objs.size + 1) [v]) u (encT b) as) [v] bs := er.mono fun _ _ ⟨as, r⟩ => ⟨as, PyProof.Rows.Reads.keeps (fun _ _ => PySem.W.sorting_copy_old) r⟩
  have hds : bs.map encT = [PyData.tuple []] := by rw [hb]; rfl
  have hal : PySem.W.AllAlike (bs.map encT) := fun d hd d' hd' => by
    rw [hds] at hd hd'
    rw [List.mem_singleton.mp hd, List.mem_singleton.mp hd']
    rfl
  have hm : bs.mergeSort (PySem.W.dataLe false encT) = bs := by rw [hb]; exact List.mergeSort_singleton _
  have e3 : PySem.W.EachIs R (PySem.W.sortVals (PySem.W.dataKind (PySem.W.sortingHeap (PySem.W.copyHeap s.heap [v]) (s.heap.objs.size + 1) [v]) (bs.map encT)) false [v] [v]) (bs.mergeSort (PySem.W.dataLe false encT)) := PySem.W.sortVals_data (enc := encT) false e er' hal
  rw [hm] at e3
  refine PySem.W.sorted_vals hl ?_ (by show 1 ≤ sizeLine; rw [sizeLine_eq]; omega) (h _ ?_ e3)
  · rw [hds]
    refine sortsAt_unit (s := { s with heap := PySem.W.sortingHeap (PySem.W.copyHeap s.heap [v]) (s.heap.objs.size + 1) [v] }) ?_ (by show A.units + 1 + 1 + 1 < cLine; omega)
    rw [← hds]
    exact PySem.W.each_map (R := fun u d => ∃ as, Reads (PySem.W.sortingHeap (PySem.W.copyHeap s.heap [v]) (s.heap.objs.size + 1) [v]) u d as) encT er'
  · rw [PySem.W.sortVals_length false rfl]
    rfl
theorem b_sorted (hK : D.K = X.K) (hu : X.A.units + 64 < cLine) : CallR X (.builtin "sorted") (rL D (bfn .sorted)) := by
  intro pins s σ H xs us Q I rs ⟨Z, vs, r, ps, e, k⟩
  match vs, e with
  | [.lst ws], e =>
    simp only [bfn] at e
    split at e
    · rename_i hlen
      obtain ⟨x, rfl, px⟩ := ps.one
      obtain ⟨p, ys, rfl, hs, rp⟩ := px.lst
      cases e1 : intsOf ws with
      | some ns =>
        rw [e1] at e
        cases e
        rw [intsOf_ok e1] at rp hlen
        have e5 := rp.ofInts
        subst e5
        rw [len_eq, List.length_map] at hlen
        refine cr_sorted pins s σ H _ us Q I rs ⟨p, ns, rfl, .of hs, by omega, fun ns' q h1 h2 n => ?_⟩
        rw [sortInt_uniq h1 h2]
        exact k _ _ (out_lst .ints n)
      | none =>
        rw [e1] at e
        cases e2 : introws ws with
        | none =>
        rw [e2] at e
        obtain ⟨rfl, rfl⟩ := unitRow_ok e
        obtain ⟨u, rfl, ru⟩ := vals1 rs
        cases ru
        obtain ⟨its, rv, hl, hz⟩ := I.list (.of hs)
        have ea : PySem.W.EachIs _ its ([[]] : List (List Int)) := rows_each rp rv
        obtain ⟨v, rfl⟩ : ∃ v, its = [v] := by
          cases ea with
          | cons q t => cases t; exact ⟨_, rfl⟩
        have er : PySem.W.EachIs (fun u r => ∃ as, Reads s.heap u (encT r) as) [v] [[]] := each_imp (fun u r q => by
          obtain ⟨x, rx, h⟩ := q
          have dp := Rep.dp h (by simp only [plain]; exact plains_ints r)
          rw [hK] at dp
          have := Dp.reads I _ x u dp rx
          simp only [dat, dats_ints] at this
          exact this) ea
        refine sorted_unit rfl hl.isList ea er (by omega) fun out ho eo => ?_
        obtain ⟨zs, rz, pz⟩ := each_rows eo
        obtain ⟨ep, he'⟩ := PyProof.Rows.sortedAll_at s.heap [v] out.toArray
        have hlz : zs.length ≤ sizeLine := by rw [rz.length, ho, sizeLine_eq]; omega
        exact ⟨.ref _, upd H (s.heap.objs.size + 1) (.lst zs), I.laid (t' := s.toks) (fun _ _ => PyProof.Rows.sortedAll_old) (Nat.le_succ _) ⟨hlz, out, ep, rz, he'⟩, rfl, k _ _ (out_lst pz (I.hok.fresh (Nat.le_succ _)))⟩
        | some rows =>
        rw [e2] at e
        cases e
        obtain ⟨e3, hne⟩ := introws_ok e2
        subst e3
        obtain ⟨u, rfl, ru⟩ := vals1 rs
        cases ru
        obtain ⟨its, rv, hl, hz⟩ := I.list (.of hs)
        have hlen' : rows.length = its.length := by
          have h1 := rp.len
          rw [len_eq, List.length_map] at h1
          rw [h1]
          exact rv.length
        have ea := rows_each rp rv
        have er : PySem.W.EachIs (fun u r => ∃ as, Reads s.heap u (encT r) as) its rows := each_imp (fun u r q => by
          obtain ⟨x, rx, h⟩ := q
          have dp := Rep.dp h (by simp only [plain]; exact plains_ints r)
          rw [hK] at dp
          have := Dp.reads I _ x u dp rx
          simp only [dat, dats_ints] at this
          exact this) ea
        have hk : PySem.W.Sortable (rows.map encT) := .inl fun d hd => by
          obtain ⟨b, hb, rfl⟩ := List.mem_map.mp hd
          cases b with
          | nil => exact absurd rfl (hne _ hb)
          | cons y b => exact ⟨_, _, rfl⟩
        have hd : ∀ b, b ∈ rows → X.A.units + 2 + (encT b).depth < cLine := fun b _ => by
          show X.A.units + 2 + (PyData.tuple (b.map .int)).depth < cLine
          simp only [PyData.depth, PySem.W.depth_ints]
          omega
        have hL : rows.length ≤ sizeLine := by rw [hlen', ← rv.length]; exact hz
        refine PySem.W.sorted_data hl.isList ea er (alike_tups rows) hk hL hd fun out ho eo => ?_
        rw [dataLe_tups, sortRow_merge] at eo
        obtain ⟨zs, rz, pz⟩ := each_rows eo
        obtain ⟨ep, he'⟩ := PyProof.Rows.sortedAll_at s.heap its out.toArray
        have hlz : zs.length ≤ sizeLine := by rw [rz.length, ho]; exact hL
        exact ⟨.ref _, upd H (s.heap.objs.size + 1) (.lst zs), I.laid (t' := s.toks) (fun _ _ => PyProof.Rows.sortedAll_old) (Nat.le_succ _) ⟨hlz, out, ep, rz, he'⟩, rfl, k _ _ (out_lst pz (I.hok.fresh (Nat.le_succ _)))⟩
    · cases e
  | [.tup _], e => cases e
  | [.scr _], e => cases e
  | [.non], e => cases e
  | [.bl _], e => cases e
  | [.str _], e => cases e
  | [.int _], e => cases e
  | [.fn _], e => cases e
  | [.rat _ _], e => cases e
  | [], e => cases e
  | a :: b :: c, e => cases a <;> cases e
/-- sorted(set(t)) -/
theorem ok_sortset (hK : D.K = X.K) (hc : X.calm = true) {a : Expr} {f : Lc} {x y : Str} {p p2 q pos : Pos} (hg : Gl X x) (hm : X.mg x = none) (hv : bootBuiltins x = some (.builtin "sorted")) (hn : x ≠ "__name__") (hdb : (x == ("__debug__" : Str)) = false)
    (hg2 : Gl X y) (hm2 : X.mg y = none) (hv2 : bootBuiltins y = some (.type "set")) (hn2 : y ≠ "__name__") (hdb2 : (y == ("__debug__" : Str)) = false) (la : LOk D X [a] f) :
    EOk D X (.Call (.Name x p) [.Call (.Name y p2) [a] [] q] [] pos) (cL (bfn .sortset) f) := by
  refine .mk' (fun W tk => ⟨fun pins s σ H Q I h => ?_⟩) rfl (fun _ => rfl)
  refine Call_ (ld_blt I hg hm hv ?_ hn hdb)
  refine PyProof.Rows.callWith_builtin1 (PyProof.Rows.args_cons ?_ rfl) rfl rfl
  refine Call_ (ld_blt I hg2 hm2 hv2 ?_ hn2 hdb2)
  have nsa : noStar a = true ∧ noStars [] = true := by simpa [noStars, Bool.and_eq_true] using la.ns
  have h1 := (la.pa W tk).run q pins s σ H _ I (rd_L h)
  refine PyProof.Rows.callWith_type1 (thn h1 fun us s1 ⟨vs, H1, I1, r1, Z, ws, r, ps, e, k⟩ => ?_) (star_cons nsa.1) (star_any (es := []) rfl)
  match ws, e with
  | [.tup zs], e =>
    simp only [bfn] at e
    obtain ⟨ns, e1, e⟩ := Option.bind_eq_some_iff.mp e
    split at e
    · rename_i hlen
      cases e
      obtain ⟨x, rfl, px⟩ := ps.one
      obtain ⟨b, ys, rfl, ht, rp⟩ := px.tup
      rw [intsOf_ok e1] at rp
      have e5 := rp.ofInts
      subst e5
      obtain ⟨u, rfl, ru⟩ := vals1 r1
      cases ru
      rw [len_eq] at hlen
      rw [hK] at ht
      obtain ⟨its, rv, pt, hz⟩ := I1.tuple ht.sq
      refine call_set_tupI ns (I1.ok.hd hc) pt (by simpa using rv.ints) (by unfold scanBound; omega) fun h' tk c R1 hcn kk => ?_
      refine PyProof.Rows.args_nil ?_
      refine sorted_set (s := { s1 with heap := h', toks := tk }) R1 (I1.ok.hd hc) (by omega) fun s' p out c' ns' k2 g o hp hgt hi hs hm hl => ?_
      have kall : ∀ b u, s1.heap.get? b = some u → s'.heap.get? b = some u := fun b u e => k2 b u (kk b u e)
      have hp1 : s1.heap.objs.size ≤ p := by
        have ⟨o1, _, _, _, ho1, _⟩ := R1
        exact Nat.le_trans (Nat.le_of_lt (Heap.lt_size ho1)) hp
      have hfree : H1 p = none := I1.hok.fresh hp1
      have hlen2 : (ns'.map V.int).length ≤ sizeLine := by rw [List.length_map, hl, sizeLine_eq]; omega
      have J : L2.Inv X pins σ (upd H1 p (.lst (ns'.map V.int))) { s1 with heap := s'.heap, gens := s'.gens, drawn := s'.drawn, toks := s'.toks } :=
        I1.call (ch := []) (Un.laid kall hp1 hfree) (I1.hok.laid kall hp1 ⟨hlen2, out.toList, c', vals_of_ints hi, hgt⟩) (by rw [g]; exact I1.bare) (fun _ z => nomatch z)
      have e : s' = { s1 with heap := s'.heap, gens := s'.gens, drawn := s'.drawn, toks := s'.toks } := by
        cases s'
        cases s1
        cases o
        rfl
      rw [e]
      have eqn : ns' = sortSet ns := by
        obtain ⟨a1, a2⟩ := sortSet_ok ns
        refine set_uniq hs a1 fun k => ?_
        rw [hm, a2, decide_eq_true_eq]
      subst eqn
      exact ⟨.ref p, _, J, rfl, k _ _ (out_lst .ints hfree)⟩
    · cases e
  | [.lst _], e => cases e
  | [.scr _], e => cases e
  | [.non], e => cases e
  | [.bl _], e => cases e
  | [.str _], e => cases e
  | [.int _], e => cases e
  | [.fn _], e => cases e
  | [.rat _ _], e => cases e
  | [], e => cases e
  | a :: b :: c, e => cases a <;> cases e
end
end Ev

/-! Ev12: enumerate, zip over lists and tuples in any mix. -/
namespace Ev
open PySem PySem.Spec PyProof.Rows L2
/-- b: a list; else a tuple -/
def SqB (b : Bool) (K : PySem.W.Frag) (H : Hp) (a : Addr) (xs : List V) : Prop := if b then SqL K H a xs else SqT K H a xs
def ItB (b : Bool) (h : Heap) (it a : Addr) (i : Nat) : Prop := if b then h.IsListIter it a i else h.IsTupleIter it a i
def PlB (b : Bool) (h : Heap) (a : Addr) (its : Array Value) : Prop := if b then h.IsList a its else h.IsTuple a its
def obB (b : Bool) (a : Addr) : Obj := if b then { cls := .type "list_iterator", data := .fields #[.ref a, .int 0 0] } else { cls := .type "tuple_iterator", data := .fields #[.ref a, .int 0 0] }
theorem itB_new {b : Bool} {h : Heap} {it a : Addr} (e : h.get? it = some (obB b a)) : ItB b h it a 0 := by
  cases b
  · exact ⟨_, e, rfl, rfl⟩
  · exact ⟨_, e, rfl, rfl⟩
theorem begB (b : Bool) (a : Addr) (its : Array Value) : Begins (.ref a) (obB b a) (fun h => PlB b h a its) := by
  cases b
  · exact begins_tuple a its
  · exact begins_list a its
theorem drawB {prog : Program} {w : World} {A : Around} (b : Bool) (hh : A.handled = none) (it a : Addr) (hne : a ≠ it) (items : Array Value) :
    Draws prog w A it [it, a] items.size (fun i v => items[i]? = some v) (fun i h => ItB b h it a i ∧ PlB b h a items) := by
  cases b
  · exact .tuple hh it a hne items
  · exact .list hh it a hne items
theorem ItB.at {b : Bool} {h h' : Heap} {it a : Addr} {i : Nat} (x : ItB b h it a i) (k : ∀ o, h.get? it = some o → h'.get? it = some o) : ItB b h' it a i := by
  obtain ⟨o, e, r⟩ : ∃ o, h.get? it = some o ∧ ∀ h' : Heap, h'.get? it = some o → ItB b h' it a i := by
    cases b <;> exact let ⟨o, e, r⟩ := x; ⟨o, e, fun h' e' => ⟨o, e', r⟩⟩
  exact r h' (k o e)
theorem ItB.obj {b : Bool} {h : Heap} {it a : Addr} {i : Nat} (x : ItB b h it a i) : ∃ o, h.get? it = some o ∧ (∀ v, o.data ≠ .cell v) ∧ (o.cls = .type "list_iterator" ∨ o.cls = .type "tuple_iterator") := by
  cases b
  · obtain ⟨o, e, c, d⟩ := x
    exact ⟨o, e, fun v q => (by rw [d] at q; cases q), .inr c⟩
  · obtain ⟨o, e, c, d⟩ := x
    exact ⟨o, e, fun v q => (by rw [d] at q; cases q), .inl c⟩
theorem PlB.obj {b : Bool} {h : Heap} {a : Addr} {its : Array Value} (x : PlB b h a its) : ∃ o, h.get? a = some o ∧ (o.cls = .type "list" ∨ o.cls = .type "tuple") := by
  cases b
  · obtain ⟨o, e, c, d⟩ := x
    exact ⟨o, e, .inr c⟩
  · obtain ⟨o, e, c, d⟩ := x
    exact ⟨o, e, .inl c⟩
section
variable {X : Cx} {pins : List (Addr × Obj)} {σ : St} {H : Hp} {s : Shared}
theorem sqB_get {b : Bool} {a : Addr} {xs : List V} (I : L2.Inv X pins σ H s) (h : SqB b X.K H a xs) : ∃ its : List Value, Vals xs its ∧ PlB b s.heap a its.toArray ∧ xs.length ≤ sizeLine := by
  cases b
  · exact I.tuple h
  · obtain ⟨its, r, p, z⟩ := I.list h
    exact ⟨its, r, p.isList, z⟩
theorem sqB_inj {b : Bool} {a : Addr} {xs ys : List V} (I : L2.Inv X pins σ H s) (h : SqB b X.K H a xs) (h' : SqB b X.K H a ys) : xs = ys := by
  cases b
  · exact I.tuple_inj h h'
  · exact I.list_inj h h'
end
/-- enumerate -/
def IteB (b : Bool) (K : PySem.W.Frag) (a : Addr) : L2.It :=
  ⟨fun i H => ∃ (xs : List V) (x : V), SqB b K H a xs ∧ xs[i]? = some x, fun i H v H' => ∃ T x, v = .ref T ∧ H T = none ∧ H' = upd H T (.tup [.int (i : Nat), x]) ∧ ∀ xs, SqB b K H a xs → xs[i]? = some x, fun i H => ∃ xs : List V, SqB b K H a xs ∧ i = xs.length⟩
theorem turn_enumB {P : Program} {w : World} {K : PySem.W.Frag} {elts : List Expr} {kk : Nat} {tpos : Pos} (b : Bool) (a e it : Addr) :
    Turn P w K (.Tuple elts kk tpos) (IteB b K a) [e, it] e (fun i h => (∃ old, IsEnum h e it ((i : Nat) : Int) old) ∧ ItB b h it a i ∧ e ≠ it) where
  mem := by simp
  obj := fun i h st c hb => by
    obtain ⟨⟨old, he⟩, hi, _⟩ := st
    obtain ⟨o, ho, hd, _⟩ := hi.obj
    have e' : c = e ∨ c = it := by simpa using hb
    rcases e' with z | z
    · rw [z]; exact ⟨_, he, fun v q => nomatch q⟩
    · rw [z]; exact ⟨o, ho, hd⟩
  keep := fun i h h' st k => let ⟨⟨old, he⟩, hi, hne⟩ := st; ⟨⟨old, k e (by simp) _ he⟩, hi.at fun o q => k it (by simp) o q, hne⟩
  item := by
    intro X hP hw hK hc i pins s σ H E I hf st hg
    subst hP hw hK
    obtain ⟨⟨old, he⟩, hit, hne⟩ := st
    obtain ⟨xs, x, hq, hx⟩ := hg
    obtain ⟨its, rv, p, hz⟩ := sqB_get I hq
    obtain ⟨u, hu, ru⟩ := rv.get hx
    have hel : e < s.heap.objs.size := Heap.lt_size he
    obtain ⟨oi, hoi, _, hci⟩ := hit.obj
    obtain ⟨oa, hoa, hca⟩ := p.obj
    have hil : it < s.heap.objs.size := Heap.lt_size hoi
    have hai : a ≠ it := fun z => by
      subst z
      rw [hoa] at hoi
      cases hoi
      rcases hci with h | h <;> rcases hca with h' | h' <;> (rw [h] at h'; injection h' with h'; exact absurd h' (by decide))
    have hae : e ≠ a := fun z => by
      subst z
      have he0 : s.heap.get? e = some _ := he
      rw [hoa] at he0
      cases he0
      rcases hca with h' | h' <;> (injection h' with h'; exact absurd h' (by decide))
    have hlt : i < its.toArray.size := by
      have := (List.getElem?_eq_some_iff.mp hu).1
      simpa using this
    have D := drawB (prog := X.prog) (w := X.w) (A := X.A.in1) b (I.ok.hd hc) it a hai its.toArray
    refine wpAny_pyNext_enum_itemD D he ⟨hit, p⟩ hlt hne (by simp; exact ⟨hne, hae⟩) fun x' h' tk hP ho hst hT hsz hk => ?_
    have ex : x' = u := by
      have hP : its.toArray[i]? = some x' := hP
      have : its[i]? = some x' := by simpa using hP
      rw [hu] at this
      exact (Option.some.inj this).symm
    subst ex
    refine ⟨_, rfl, wpAny_letOwnedTupleGo_enum (s := { s with heap := h', toks := tk + 1 }) ho fun h'' he' sb => ?_⟩
    have hT2 : h''.get? s.heap.objs.size = some { cls := .type "tuple", data := .seq #[.int i tk, x'] } := (sb.2 _ (Nat.ne_of_gt hel)).trans hT
    have new : ObjOk X.prog X.w (upd H s.heap.objs.size (.tup [.int (i : Nat), x])) h'' s.heap.objs.size (.tup [.int (i : Nat), x]) :=
      ⟨by show 2 ≤ sizeLine; decide, [.int i tk, x'], .cons ⟨_, rfl⟩ (.cons ru .nil), ⟨_, hT2, rfl, _, rfl⟩⟩
    have I1 : L2.Inv X pins σ (upd H s.heap.objs.size (.tup [.int (i : Nat), x])) { s with heap := h'', toks := tk + 1 } :=
      I.turnedNew (ch := [e, it]) (fun b ob hb q => (sb.2 b (fun z => hb (by simp [z]))).trans (hk b ob (fun z => hb (by simp [z])) (fun z => hb (by simp [z])) q)) hf (Nat.le_refl _) new
    refine ⟨.ref s.heap.objs.size, _, I1, rfl, ⟨_, x, rfl, I.hok.fresh (Nat.le_refl _), rfl, fun ys hy => by rw [sqB_inj I hy hq]; exact hx⟩, ⟨⟨x', ?_⟩, ItB.at hst.1 fun o q => (sb.2 it (Ne.symm hne)).trans q, hne⟩, fun b hb => ?_⟩
    · have e1 : ((i + 1 : Nat) : Int) = (i : Int) + 1 := by omega
      rw [e1]; exact he'
    · have hb' : b < s.heap.objs.size := by
        have e' : b = e ∨ b = it := by simpa using hb
        rcases e' with z | z
        · rw [z]; exact hel
        · rw [z]; exact hil
      rw [upd_ne (Nat.ne_of_lt hb')]
      exact (hf b hb).1
  done := by
    intro X hP hw hK hc i pins s σ H E I hf st hg
    subst hP hw hK
    obtain ⟨⟨old, he⟩, hit, hne⟩ := st
    obtain ⟨xs, hq, hx⟩ := hg
    obtain ⟨its, rv, p, hz⟩ := sqB_get I hq
    obtain ⟨f0, f1, f2, f3, f4, f5⟩ := hf it (by simp)
    have hl := rv.length
    obtain ⟨oi, hoi, _, hci⟩ := hit.obj
    obtain ⟨oa, hoa, hca⟩ := p.obj
    have hai : a ≠ it := fun z => by
      subst z
      rw [hoa] at hoi
      cases hoi
      rcases hci with h | h <;> rcases hca with h' | h' <;> (rw [h] at h'; injection h' with h'; exact absurd h' (by decide))
    have hi : i = its.toArray.size := by simp; omega
    have st' : ItB b s.heap it a its.toArray.size ∧ PlB b s.heap a its.toArray := ⟨hi ▸ hit, p⟩
    have D := drawB (prog := X.prog) (w := X.w) (A := X.A.in1) b (I.ok.hd hc) it a hai its.toArray
    exact wpAny_pyNext_enum_endD D he st' fun h' eb => ⟨rfl, I.turned (t' := s.toks) (fun b o hb q => eb b o hb q) f0 f1 f3 f4 f5⟩
  self := fun A i s Q E st h => let ⟨⟨_, he⟩, _⟩ := st; wpAny_pyIter_enum he h
theorem walk_enumB {b : Bool} {K : PySem.W.Frag} {a : Addr} {xs : List V} : Walk (IteB b K a) xs.length (fun H => SqB b K H a xs) (YPair (fun i => some (.int (i : Nat))) (fun i => xs[i]?)) := by
  refine ⟨fun i _ hi q => ⟨xs, xs[i], q, by simp [hi]⟩, fun _ q => ⟨xs, q, rfl⟩, fun i H v H' _ q y => ?_⟩
  obtain ⟨T, x, h1, h2, h3, h4⟩ := y
  exact ⟨T, .int (i : Nat), x, h1, h2, h3, rfl, h4 xs q⟩
set_option maxHeartbeats 1000000 in
theorem meets_enum1B {v : Value} {o : Obj} {H : Heap → Prop} (B : Begins v o H) :
    Meets (Builtin.«enumerate.__new__» ⟨[.type "enumerate", v], []⟩) (fun _ R s => H s.heap ∧
      R (.ok (.ret (.ref (s.heap.push o).objs.size))) { s with heap := (s.heap.push o).push { cls := .type "enumerate", data := .fields #[.none, .bool false, .ref s.heap.objs.size, rawInt 0, .none, .none] } }) :=
  .of_wp fun prog w A R s h => by
    obtain ⟨hp, g, d, tk, os⟩ := s; obtain ⟨h1, h⟩ := h
    have hsub := sub_enumerate
    have q1 : ∀ {A' : Around} {E : Value → Shared → Prop} {Q : Value → Shared → Prop}, Q (.ref hp.objs.size) ⟨hp.push o, g, d, tk, os⟩ → wpAny (model prog w) A' (pyIter v) Q E ⟨hp, g, d, tk, os⟩ :=
      fun q => B.iter prog w _ _ ⟨hp, g, d, tk, os⟩ _ h1 q
    wp_walk using q1
    refine wpAny_stack_any fun st => wpAny_pure ?_
    split
    · rename_i c _ _ _ _ _
      cases (c == Value.type "enumerate")
      · wp_walk using q1
        exact ⟨_, rfl, h⟩
      · wp_walk using q1
        exact ⟨_, rfl, h⟩
    · wp_walk using q1
      exact ⟨_, rfl, h⟩
theorem enum1_begins {prog : Program} {w : World} {A : Around} {E : Value → Shared → Prop} {s : Shared} {v : Value} {o : Obj} {H : Heap → Prop} {Q : Value → Shared → Prop} (B : Begins v o H) (h1 : H s.heap)
    (h : ∀ h', IsEnum h' (s.heap.objs.size + 1) s.heap.objs.size 0 .none → h'.get? s.heap.objs.size = some o → h'.objs.size = s.heap.objs.size + 2 →
      (∀ b o, s.heap.get? b = some o → h'.get? b = some o) → Q (.ref (s.heap.objs.size + 1)) { s with heap := h' }) :
    wpAny (model prog w) A (call (.type "enumerate") [v]) Q E s := by
  refine callType_new F.called_enumerate (by decide) (F.typeCall_enumerate_1 _) (F.newCall_enumerate_1 _) (fun obj => F.args_object_init_2 obj _) F.entry_enumerate_new
    (meets_enum1B B) ⟨h1, ?_⟩
  have hz : (s.heap.push o).objs.size = s.heap.objs.size + 1 := Heap.size_push ..
  show _ ∧ _
  rw [hz]
  have he : IsEnum ((s.heap.push o).push { cls := .type "enumerate", data := .fields #[.none, .bool false, .ref s.heap.objs.size, rawInt 0, .none, .none] }) (s.heap.objs.size + 1) s.heap.objs.size 0 .none := by
    have := Heap.get?_push_size (s.heap.push o) (o := { cls := .type "enumerate", data := .fields #[.none, .bool false, .ref s.heap.objs.size, rawInt 0, .none, .none] }) rfl
    rw [hz] at this; exact this
  refine ⟨⟨_, he, rfl⟩, h _ he (Heap.get?_push_of_some _ (Heap.get?_push_size _ B.free)) (by rw [Heap.size_push, hz]) fun b o x => Heap.get?_push_of_some _ (Heap.get?_push_of_some _ x)⟩
def iEnB (K : PySem.W.Frag) (ta : TA) : TI := fun σ H R => ta σ H fun vs H1 => ∃ b a xs, vs = [.ref a] ∧ SqB b K H1 a xs ∧ R (IteB b K a) H1
theorem pi_enumB {X : Cx} {e : Expr} {ta : TA} {y : Str} {p pos tpos : Pos} {elts : List Expr} {kk : Nat} (hg : Gl X y) (hm : X.mg y = none) (hv : bootBuiltins y = some (.type "enumerate")) (hn : y ≠ "__name__") (hdb : (y == ("__debug__" : Str)) = false) (ha : PA X [e] ta) (hs : starEach [e] X.env = (false, eval e X.env) :: starEach [] X.env) :
    PI X (.Tuple elts kk tpos) (.Call (.Name y p) [e] [] pos) (iEnB X.K ta) := by
  refine ⟨fun pins s σ H R I h => ?_⟩
  refine Call_ (ld_blt I hg hm hv (PyProof.Rows.callWith_type1 (thn (ha.run pos pins s σ H _ I h) fun us s1 ⟨vs, H1, I1, r1, q1⟩ => ?_) hs rfl) hn hdb)
  obtain ⟨b, a, xs, ex, hq, q⟩ := q1
  subst ex
  cases r1 with
  | cons r rr =>
    cases rr
    cases r
    obtain ⟨its, rv, p', hz⟩ := sqB_get I1 hq
    refine enum1_begins (begB b a its.toArray) p' fun h' he hit hsz hk => wpAny_pyIter_enum he ?_
    have I2 : L2.Inv X pins σ H1 { s1 with heap := h' } := I1.kept (t' := s1.toks) hk
    refine ⟨s1.heap.objs.size + 1, [s1.heap.objs.size + 1, s1.heap.objs.size], _, _, H1, rfl, I2, turn_enumB b a (s1.heap.objs.size + 1) s1.heap.objs.size, ⟨⟨.none, he⟩, itB_new hit, Nat.succ_ne_self _⟩, fun b hb => ?_, q⟩
    have e' : b = s1.heap.objs.size + 1 ∨ b = s1.heap.objs.size := by simpa using hb
    have hle : s1.heap.objs.size ≤ b := by
      rcases e' with z | z
      · rw [z]; exact Nat.le_add_right _ _
      · rw [z]; exact Nat.le_refl _
    exact I1.fpOk hle (I1.hok.fresh hle)
end Ev

/-! Ev13: zip over lists and tuples in any mix. -/
namespace Ev
open PySem PySem.Spec PyProof.Rows L2
def ItzB (b1 b2 : Bool) (K : PySem.W.Frag) (a b : Addr) : L2.It :=
  ⟨fun i H => ∃ (xs ys : List V) (x y : V), SqB b1 K H a xs ∧ SqB b2 K H b ys ∧ xs[i]? = some x ∧ ys[i]? = some y,
    fun i H v H' => ∃ T x y, v = .ref T ∧ H T = none ∧ H' = upd H T (.tup [x, y]) ∧ (∀ xs, SqB b1 K H a xs → xs[i]? = some x) ∧ ∀ ys, SqB b2 K H b ys → ys[i]? = some y,
    fun i H => ∃ xs ys : List V, SqB b1 K H a xs ∧ SqB b2 K H b ys ∧ i ≤ xs.length ∧ i ≤ ys.length ∧ (i = xs.length ∨ i = ys.length)⟩
theorem ItB.ne {b c : Bool} {h : Heap} {it a t : Addr} {i : Nat} {its : Array Value} (x : ItB b h it t i) (y : PlB c h a its) : a ≠ it := fun z => by
  obtain ⟨oi, hoi, _, hci⟩ := x.obj
  obtain ⟨oa, hoa, hca⟩ := y.obj
  subst z
  rw [hoa] at hoi
  cases hoi
  rcases hci with h | h <;> rcases hca with h' | h' <;> (rw [h] at h'; injection h' with h'; exact absurd h' (by decide))
theorem turn_zipB {P : Program} {w : World} {K : PySem.W.Frag} {elts : List Expr} {kk : Nat} {tpos : Pos} (b1 b2 : Bool) {a b z TI TO i1 i2 : Addr} (D : ZipSep2 z TI TO i1 i2 [i1, a] [i2, b]) :
    Turn P w K (.Tuple elts kk tpos) (ItzB b1 b2 K a b) [z, TI, TO, i1, i2] z (fun i h => IsZip h z TI TO .none ∧ IsTupOf2 h TI (.ref i1) (.ref i2) ∧ (∃ x y, IsTupOf2 h TO x y) ∧ ItB b1 h i1 a i ∧ ItB b2 h i2 b i) where
  mem := by simp
  obj := fun i h st c hc => by
    obtain ⟨hz, hTI, ⟨x, y, hTO⟩, h1, h2⟩ := st
    obtain ⟨o1, e1, d1, _⟩ := h1.obj
    obtain ⟨o2, e2, d2, _⟩ := h2.obj
    have e' : c = z ∨ c = TI ∨ c = TO ∨ c = i1 ∨ c = i2 := by simpa using hc
    rcases e' with q | q | q | q | q
    · rw [q]; exact ⟨_, hz, fun v q => nomatch q⟩
    · rw [q]; exact ⟨_, hTI, fun v q => nomatch q⟩
    · rw [q]; exact ⟨_, hTO, fun v q => nomatch q⟩
    · rw [q]; exact ⟨o1, e1, d1⟩
    · rw [q]; exact ⟨o2, e2, d2⟩
  keep := fun i h h' st k => by
    obtain ⟨hz, hTI, ⟨x, y, hTO⟩, h1, h2⟩ := st
    exact ⟨k z (by simp) _ hz, k TI (by simp) _ hTI, ⟨x, y, k TO (by simp) _ hTO⟩, h1.at fun o q => k i1 (by simp) o q, h2.at fun o q => k i2 (by simp) o q⟩
  item := by
    intro X hP hw hK hc i pins s σ H E I hf st hg
    subst hP hw hK
    obtain ⟨hz, hTI, ⟨x0, y0, hTO⟩, h1, h2⟩ := st
    obtain ⟨xs, ys, x, y, hqx, hqy, hx, hy⟩ := hg
    obtain ⟨its, rv, p, _⟩ := sqB_get I hqx
    obtain ⟨its2, rv2, p2, _⟩ := sqB_get I hqy
    obtain ⟨u, hu, ru⟩ := rv.get hx
    obtain ⟨u2, hu2, ru2⟩ := rv2.get hy
    have hzl : z < s.heap.objs.size := Heap.lt_size hz
    have hlt1 : i < its.toArray.size := by
      have := (List.getElem?_eq_some_iff.mp hu).1
      simpa using this
    have hlt2 : i < its2.toArray.size := by
      have := (List.getElem?_eq_some_iff.mp hu2).1
      simpa using this
    have D1 := drawB (prog := X.prog) (w := X.w) (A := X.A.in1) b1 (I.ok.hd hc) i1 a (h1.ne p) its.toArray
    have D2 := drawB (prog := X.prog) (w := X.w) (A := X.A.in1) b2 (I.ok.hd hc) i2 b (h2.ne p2) its2.toArray
    refine wpAny_pyNext_zipD2_item D D1 D2 hz hTI hTO ⟨h1, p⟩ ⟨h2, p2⟩ hlt1 hlt2 fun x1 x2 h' tk hP1 hP2 hz' hTO' hst1 hst2 hT hsz hk => ?_
    have ex1 : x1 = u := by
      have hP : its.toArray[i]? = some x1 := hP1
      have : its[i]? = some x1 := by simpa using hP
      rw [hu] at this
      exact (Option.some.inj this).symm
    have ex2 : x2 = u2 := by
      have hP : its2.toArray[i]? = some x2 := hP2
      have : its2[i]? = some x2 := by simpa using hP
      rw [hu2] at this
      exact (Option.some.inj this).symm
    subst ex1 ex2
    refine ⟨_, rfl, wpAny_letOwnedTupleGo_zip (s := { s with heap := h', toks := tk }) hz' fun h'' z'' sb => ?_⟩
    have hT2 : h''.get? s.heap.objs.size = some { cls := .type "tuple", data := .seq #[x1, x2] } := (sb.2 _ (Nat.ne_of_gt hzl)).trans hT
    have new : ObjOk X.prog X.w (upd H s.heap.objs.size (.tup [x, y])) h'' s.heap.objs.size (.tup [x, y]) :=
      ⟨by show 2 ≤ sizeLine; decide, [x1, x2], .cons ru (.cons ru2 .nil), ⟨_, hT2, rfl, _, rfl⟩⟩
    have I1 : L2.Inv X pins σ (upd H s.heap.objs.size (.tup [x, y])) { s with heap := h'', toks := tk } :=
      I.turnedNew (t' := tk) (ch := [z, TI, TO, i1, i2]) (fun c o hb q => (sb.2 c (fun q' => hb (by simp [q']))).trans (hk c o (fun q' => hb (by simp [q'])) (fun q' => hb (by simp [q'])) (fun q' => hb (by simp [q'])) (fun q' => hb (by simp [q'])) q)) hf (Nat.le_refl _) new
    have TIi2 := D.TIi2
    have TIi1 := D.TIi1
    refine ⟨.ref s.heap.objs.size, _, I1, rfl, ⟨_, x, y, rfl, I.hok.fresh (Nat.le_refl _), rfl, fun l hl => by rw [sqB_inj I hl hqx]; exact hx, fun l hl => by rw [sqB_inj I hl hqy]; exact hy⟩, ⟨z'', ?_, ⟨x1, x2, ?_⟩, ?_, ?_⟩, fun c hcm => ?_⟩
    · exact (sb.2 _ D.TIz).trans (hk _ _ D.TIz D.TITO D.TIi1 D.TIi2 hTI)
    · exact (sb.2 _ D.TOz).trans hTO'
    · exact ItB.at hst1.1 fun o q => (sb.2 _ (Ne.symm D.zi1)).trans q
    · exact ItB.at hst2.1 fun o q => (sb.2 _ (Ne.symm D.zi2)).trans q
    · obtain ⟨o1, e1, _⟩ := h1.obj
      obtain ⟨o2, e2, _⟩ := h2.obj
      have hlt : c < s.heap.objs.size := by
        have e' : c = z ∨ c = TI ∨ c = TO ∨ c = i1 ∨ c = i2 := by simpa using hcm
        rcases e' with q | q | q | q | q
        · rw [q]; exact hzl
        · rw [q]; exact Heap.lt_size hTI
        · rw [q]; exact Heap.lt_size hTO
        · rw [q]; exact Heap.lt_size e1
        · rw [q]; exact Heap.lt_size e2
      rw [upd_ne (Nat.ne_of_lt hlt)]
      exact (hf c hcm).1
  done := by
    intro X hP hw hK hc i pins s σ H E I hf st hg
    subst hP hw hK
    obtain ⟨hz, hTI, ⟨x0, y0, hTO⟩, h1, h2⟩ := st
    obtain ⟨xs, ys, hqx, hqy, hl1, hl2, hend⟩ := hg
    obtain ⟨its, rv, p, _⟩ := sqB_get I hqx
    obtain ⟨its2, rv2, p2, _⟩ := sqB_get I hqy
    have l1 := rv.length
    have l2 := rv2.length
    have D1 := drawB (prog := X.prog) (w := X.w) (A := X.A.in1) b1 (I.ok.hd hc) i1 a (h1.ne p) its.toArray
    have D2 := drawB (prog := X.prog) (w := X.w) (A := X.A.in1) b2 (I.ok.hd hc) i2 b (h2.ne p2) its2.toArray
    refine wpAny_pyNext_zipD2_end D D1 D2 hz hTI hTO ⟨h1, p⟩ ⟨h2, p2⟩ (by simp; omega) (by simp; omega) (by simp; omega) fun h' tk hk => ⟨rfl, I.turnedL (t' := tk) (ch := [z, TI, TO, i1, i2]) (fun c o hb q =>
      hk c o (fun q' => hb (by simp [q'])) (fun q' => hb (by simp [q'])) (fun q' => hb (by simp [q'])) (fun q' => hb (by simp [q'])) q) hf⟩
  self := fun A i s Q E st h => wpAny_pyIter_zip st.1 h
theorem walk_zipB {b1 b2 : Bool} {K : PySem.W.Frag} {a b : Addr} {xs ys : List V} {n : Nat} (hn : n = min xs.length ys.length) : Walk (ItzB b1 b2 K a b) n (fun H => SqB b1 K H a xs ∧ SqB b2 K H b ys) (YPair (fun i => xs[i]?) (fun i => ys[i]?)) := by
  subst hn
  refine ⟨fun i _ hi q => ?_, fun _ q => ⟨xs, ys, q.1, q.2, by omega, by omega, by omega⟩, fun i H v H' _ q y => ?_⟩
  · have h1 : i < xs.length := by omega
    have h2 : i < ys.length := by omega
    exact ⟨xs, ys, xs[i], ys[i], q.1, q.2, by simp [h1], by simp [h2]⟩
  · obtain ⟨T, x, z, h1, h2, h3, h4, h5⟩ := y
    exact ⟨T, x, z, h1, h2, h3, h4 xs q.1, h5 ys q.2⟩
def iZpB (K : PySem.W.Frag) (ta : TA) : TI := fun σ H R => ta σ H fun vs H1 => ∃ b1 b2 a b xs ys, vs = [.ref a, .ref b] ∧ SqB b1 K H1 a xs ∧ SqB b2 K H1 b ys ∧ R (ItzB b1 b2 K a b) H1
theorem pi_zipB {X : Cx} {e e2 : Expr} {ta : TA} {y : Str} {p pos tpos : Pos} {elts : List Expr} {kk : Nat} (hg : Gl X y) (hm : X.mg y = none) (hv : bootBuiltins y = some (.type "zip")) (hn : y ≠ "__name__") (hdb : (y == ("__debug__" : Str)) = false) (ha : PA X [e, e2] ta)
    (hs : starEach [e, e2] X.env = (false, eval e X.env) :: starEach [e2] X.env) (hpl : (backTo pos (starEach [e2] X.env)).any (·.1) = false) :
    PI X (.Tuple elts kk tpos) (.Call (.Name y p) [e, e2] [] pos) (iZpB X.K ta) := by
  refine ⟨fun pins s σ H R I h => ?_⟩
  refine Call_ (ld_blt I hg hm hv (PyProof.Rows.callWith_type1 (thn (ha.run pos pins s σ H _ I h) fun us s1 ⟨vs, H1, I1, r1, q1⟩ => ?_) hs hpl) hn hdb)
  obtain ⟨b1, b2, a, b, xs, ys, ex, hqx, hqy, q⟩ := q1
  subst ex
  cases r1 with
  | cons r rr =>
    cases rr with
    | cons r' rr =>
      cases rr
      cases r
      cases r'
      have fresh5 : ∀ c, c ∈ [s1.heap.objs.size + 4, s1.heap.objs.size + 2, s1.heap.objs.size + 3, s1.heap.objs.size, s1.heap.objs.size + 1] → FpOk X pins H1 c := fun c hcm => by
        have e' : c = s1.heap.objs.size + 4 ∨ c = s1.heap.objs.size + 2 ∨ c = s1.heap.objs.size + 3 ∨ c = s1.heap.objs.size ∨ c = s1.heap.objs.size + 1 := by simpa using hcm
        have hle : s1.heap.objs.size ≤ c := by
          rcases e' with z | z | z | z | z
          · rw [z]; exact Nat.le_add_right _ _
          · rw [z]; exact Nat.le_add_right _ _
          · rw [z]; exact Nat.le_add_right _ _
          · rw [z]; exact Nat.le_refl _
          · rw [z]; exact Nat.le_add_right _ _
        exact I1.fpOk hle (I1.hok.fresh hle)
      obtain ⟨its, rv, p1, _⟩ := sqB_get I1 hqx
      obtain ⟨its2, rv2, p2, _⟩ := sqB_get I1 hqy
      obtain ⟨o1, ho1, _⟩ := p1.obj
      obtain ⟨o2, ho2, _⟩ := p2.obj
      refine zip_begins2 (begB b1 a its.toArray) (begB b2 b its2.toArray) p1 p2 fun h' hz hTI hTO h1 h2 hsz hk => wpAny_pyIter_zip hz ?_
      have I2 : L2.Inv X pins σ H1 { s1 with heap := h' } := I1.kept (t' := s1.toks) hk
      have S : ZipSep2 (s1.heap.objs.size + 4) (s1.heap.objs.size + 2) (s1.heap.objs.size + 3) s1.heap.objs.size (s1.heap.objs.size + 1) [s1.heap.objs.size, a] [s1.heap.objs.size + 1, b] :=
        zip_sep2 (fun c hc => by rw [List.mem_singleton.mp hc]; exact Heap.lt_size ho1) (fun c hc => by rw [List.mem_singleton.mp hc]; exact Heap.lt_size ho2)
      exact ⟨s1.heap.objs.size + 4, [s1.heap.objs.size + 4, s1.heap.objs.size + 2, s1.heap.objs.size + 3, s1.heap.objs.size, s1.heap.objs.size + 1], _, _, H1, rfl, I2, turn_zipB b1 b2 S, ⟨hz, hTI, ⟨_, _, hTO⟩, itB_new h1, itB_new h2⟩, fresh5, q⟩
/-- a list, a tuple or a text -/
def iSq (K : PySem.W.Frag) (tl : TE) : TI := fun σ H R => tl σ H fun x H1 => (∃ a, x = .ref a ∧ (∃ xs, SqL K H1 a xs) ∧ R (Itl K a) H1) ∨ (∃ a, x = .ref a ∧ (∃ xs, SqT K H1 a xs) ∧ R (Itt K a) H1)
theorem pi_sq {X : Cx} {tg l : Expr} {tl : TE} (hl : PE X l tl) : PI X tg l (iSq X.K tl) := by
  refine ⟨fun pins s σ H R I h => ?_⟩
  refine thn (hl.run pins s σ H _ I h) fun v s1 ⟨x, H1, I1, r1, q1⟩ => ?_
  rcases q1 with q1 | q1
  · obtain ⟨a, e, ⟨xs, hq⟩, q⟩ := q1
    subst e
    cases r1
    obtain ⟨its, rv, p, hz⟩ := I1.list hq
    refine wpAny_pyIter_list p.isList ?_
    refine ⟨s1.heap.objs.size, [s1.heap.objs.size], _, _, H1, rfl, I1.kept (t' := s1.toks) fun b o e => Heap.get?_push_of_some _ e, turn_list a _, ⟨_, Heap.get?_push_size _ rfl, rfl, rfl⟩, fun b hb => ?_, q⟩
    have e : b = s1.heap.objs.size := by simpa using hb
    subst e
    exact I1.fpOk (Nat.le_refl _) (I1.hok.fresh (Nat.le_refl _))
  · obtain ⟨a, e, ⟨xs, hq⟩, q⟩ := q1
    subst e
    cases r1
    obtain ⟨its, rv, p, hz⟩ := I1.tuple hq
    refine wpAny_pyIter_tuple (show s1.heap.IsTuple a its.toArray from p) ?_
    refine ⟨s1.heap.objs.size, [s1.heap.objs.size], _, _, H1, rfl, I1.kept (t' := s1.toks) fun b o e => Heap.get?_push_of_some _ e, turn_tuple a _, ⟨_, Heap.get?_push_size _ rfl, rfl, rfl⟩, fun b hb => ?_, q⟩
    have e : b = s1.heap.objs.size := by simpa using hb
    subst e
    exact I1.fpOk (Nat.le_refl _) (I1.hok.fresh (Nat.le_refl _))
end Ev

/-! Ev14: what is walked; targets. -/
namespace Ev
open PySem PySem.Spec PyProof.Rows L2
section
variable {D : Dom} {W : WX} {Z Z' Z2 : Addr → Prop} {ρ ρ' ρ1 ρ2 : Env} {σ σ' σ2 : St} {H H' H1 H2 : Hp} {r : R}
/-- kept by all that writes nothing that is written -/
def KW (H0 : Hp) (Z : Addr → Prop) (H : Hp) (r : R) (ρ : Env) (σ : St) (H' : Hp) : Prop := ∀ a o, H a = some o → ¬ Wr (lockR r ρ) σ a → (Z a ∨ Ow ρ σ a ∨ H0 a = none ∨ ∀ ys, o ≠ .lst ys) → H' a = some o
theorem wr_lock {a : Addr} (h : Wr (lockR r ρ) σ a) : Wr ρ σ a := by
  cases r with
  | val v => exact h
  | fresh v => exact h
  | slot i =>
    obtain ⟨j, h1, h2⟩ := h
    simp only [lockR] at h1
    cases g : get ρ i with
    | ow lk vs =>
      rw [g] at h1
      rcases get_put ρ i j (.rd lk vs) with ⟨e, ⟨g', _⟩ | ⟨g', _⟩⟩ | ⟨ne, g'⟩
      · rw [g'] at h1; cases h1
      · rw [g'] at h1; cases h1
      · rw [g'] at h1; exact ⟨j, h1, h2⟩
    | _ => rw [g] at h1; exact ⟨j, h1, h2⟩
theorem seq_keptV {H0 : Hp} {v : Val} {x : V} {vs : List Val} (h : Rep D Z H v x) (rl : Rl D Z ρ σ H) (e : seqOf v = some vs) : ∃ b a xs, x = .ref a ∧ SqB b D.K H a xs ∧ Reps D Z H vs xs ∧ ∀ H', KW H0 Z H r ρ σ H' → SqB b D.K H' a xs := by
  have nw : ∀ {a : Addr} {o : HO}, H a = some o → (Z a ∨ ∀ ys, o ≠ .lst ys) → ¬ Wr (lockR r ρ) σ a := fun {a o} e h w => by
    obtain ⟨nz, xs, hx⟩ := rl.own (wr_lock w).ow
    rcases h with h | h
    · exact nz h
    · rw [e] at hx
      exact h xs (Option.some.inj hx)
  cases h with
  | tup h rp =>
    cases e
    refine ⟨false, _, _, rfl, h.sq, rp, fun H' k => ?_⟩
    exact (tupAt_at h fun o e n => k _ o e (nw e (.inr n)) (.inr (.inr (.inr n)))).sq
  | lst z h rp =>
    cases e
    refine ⟨true, _, _, rfl, (.of h : SqL _ _ _ _), rp, fun H' k => ?_⟩
    exact (.of (k _ _ h (nw h (.inl z)) (.inl z)) : SqL _ _ _ _)
  | scr z h =>
    cases e
    exact ⟨true, _, _, rfl, h, .ints, fun H' k => sqL_at h fun o e => k _ o e (nw e (.inl z)) (.inl z)⟩
  | scrK h =>
    cases e
    exact ⟨true, _, _, rfl, h H, .ints, fun H' k => h H'⟩
  | _ => cases e
theorem seq_kept {H0 : Hp} {x : V} {v : Val} {vs : List Val} (h : relE D σ H0 Z H ρ r x) (rl : Rl D Z ρ σ H) (e1 : peek r ρ = some v) (e2 : seqOf v = some vs) :
    ∃ b a xs, x = .ref a ∧ SqB b D.K H a xs ∧ Reps D Z H vs xs ∧ ∀ H', KW H0 Z H r ρ σ H' → SqB b D.K H' a xs := by
  obtain ⟨h, fresh⟩ := h
  cases r with
  | val w =>
    cases e1
    exact seq_keptV h rl e2
  | fresh ws =>
    cases e1
    cases e2
    obtain ⟨a, xs, e, nz, no, ha, q⟩ := h
    exact ⟨true, a, xs, e, (.of ha : SqL _ _ _ _), q, fun H' k => (.of (k _ _ ha (fun w => no (wr_lock w).ow) (.inr (.inr (.inl (fresh a e))))) : SqL _ _ _ _)⟩
  | slot i =>
    have s := rl.slot i
    obtain ⟨_, h⟩ := h
    simp only [Ev.peek] at e1
    cases g : get ρ i with
    | no => rw [g] at e1; cases e1
    | sh l w =>
      rw [g] at e1 s
      cases e1
      obtain ⟨y, e3, q⟩ := s
      rw [h] at e3
      cases e3
      exact seq_keptV q rl e2
    | ow l ws =>
      rw [g] at e1 s
      cases e1
      cases e2
      obtain ⟨a, xs, e3, nz, ha, q⟩ := s
      rw [h] at e3
      cases e3
      refine ⟨true, a, xs, rfl, (.of ha : SqL _ _ _ _), q, fun H' k => (.of (k _ _ ha (fun w => ?_) (.inr (.inl ⟨i, by rw [g]; rfl, h⟩))) : SqL _ _ _ _)⟩
      obtain ⟨j, h1, h2⟩ := w
      simp only [lockR, g] at h1
      rcases get_put ρ i j (.rd l vs) with ⟨e, ⟨g', _⟩ | ⟨g', _⟩⟩ | ⟨ne, g'⟩
      · rw [g'] at h1; cases h1
      · rw [g'] at h1; cases h1
      · rw [g'] at h1
        exact ne (rl.apart j i a ⟨writes_owns h1, h2⟩ ⟨by rw [g]; rfl, h⟩)
    | rd l ws =>
      rw [g] at e1 s
      cases e1
      cases e2
      obtain ⟨a, xs, e3, nz, ha, q⟩ := s
      rw [h] at e3
      cases e3
      have e4 : lockR (.slot i) ρ = ρ := by simp only [lockR, g]
      refine ⟨true, a, xs, rfl, (.of ha : SqL _ _ _ _), q, fun H' k => (.of (k _ _ ha (fun w => ?_) (.inr (.inl ⟨i, by rw [g]; rfl, h⟩))) : SqL _ _ _ _)⟩
      rw [e4] at w
      obtain ⟨j, h1, h2⟩ := w
      have e5 := rl.apart j i a ⟨writes_owns h1, h2⟩ ⟨by rw [g]; rfl, h⟩
      subst e5
      rw [g] at h1
      cases h1

/-! ### items -/
def ItemOk (pr : Bool) (D : Dom) (Z : Addr → Prop) (H : Hp) (v : Val) (x : V) (H' : Hp) : Prop :=
  (H' = H ∧ Rep D Z H v x) ∨ pr = true ∧ ∃ T a b va vb, x = .ref T ∧ H T = none ∧ H' = upd H T (.tup [a, b]) ∧ v = .tup [va, vb] ∧ Rep D Z H va a ∧ Rep D Z H vb b
def relI (pr : Bool) (D : Dom) (σ : St) (H0 : Hp) (Z : Addr → Prop) (H : Hp) (ρ : Env) (p : R × List Val) (J : L2.It) : Prop :=
  ∃ G Y, Walk J p.2.length G Y ∧ G H ∧ (∀ H', KW H0 Z H p.1 ρ σ H' → G H') ∧
    ∀ i x Hc H', G Hc → Y i Hc x H' → ∃ v, p.2[i]? = some v ∧ ∀ Zc, (∀ a, Z a → Zc a) → Kp Z H Hc → ItemOk pr D Zc Hc v x H'
abbrev RdI (pr : Bool) (D : Dom) (W : WX) (f : Ic) : TI := Rd D W (relI pr D) f
structure IOk (pr : Bool) (D : Dom) (X : Cx) (tg it : Expr) (f : Ic) : Prop where
  pi : ∀ W, Takes X W → PI X tg it (RdI pr D W f)
  fold : ∀ env x, foldedSetIterable it env x = pure x
end
section
variable {D : Dom} {W : WX} {Z Z' Z2 : Addr → Prop} {ρ ρ' ρ1 ρ2 : Env} {σ σ' σ2 : St} {H H' H1 H2 : Hp} {r : R}
theorem relI_seq {H0 : Hp} {b pr : Bool} {a : Addr} {xs : List V} {vs : List Val} (hs : SqB b D.K H a xs) (rp : Reps D Z H vs xs) (k : ∀ H', KW H0 Z H r ρ σ H' → SqB b D.K H' a xs) : relI pr D σ H0 Z H ρ (r, vs) (if b then Itl D.K a else Itt D.K a) := by
  have hl : vs.length = xs.length := by rw [← len_eq]; exact rp.len
  have fin : ∀ (i : Nat) (x : V) (Hc H' : Hp), YAt xs i Hc x H' → ∃ v, vs[i]? = some v ∧ ∀ Zc, (∀ a, Z a → Zc a) → Kp Z H Hc → ItemOk pr D Zc Hc v x H' := fun i x Hc H' ⟨e, hx⟩ => by
    obtain ⟨v, e1, q⟩ := rp.get hx
    rw [nth_eq] at e1
    exact ⟨v, e1, fun Zc hz hk => .inl ⟨e, q.mono hz hk⟩⟩
  cases b
  · refine ⟨fun H => SqT D.K H a xs, YAt xs, ?_, hs, k, fun i x Hc H' _ y => fin i x Hc H' y⟩
    rw [show (r, vs).2.length = xs.length from hl]
    exact walk_tup
  · refine ⟨fun H => SqL D.K H a xs, YAt xs, ?_, hs, k, fun i x Hc H' _ y => fin i x Hc H' y⟩
    rw [show (r, vs).2.length = xs.length from hl]
    exact walk_list
end
section
variable {D : Dom} {X : Cx} {tg e a b : Expr} {f g : Ec} {p pos tpos : Pos} {y : Str} {es : List Expr}
/-- no set display, which is folded -/
def noSetX : Expr → Bool
  | .Set _ _ _ => false
  | _ => true
theorem iok_seq (hK : D.K = X.K) (ha : EOk D X e f) (hf : ∀ env x, foldedSetIterable e env x = pure x) : IOk false D X tg e (iSeq f) := by
  refine ⟨fun W tk => ⟨fun pins s σ H R I h => (pi_sq (ha.pe W tk)).run pins s σ H R I ?_⟩, hf⟩
  obtain ⟨Z, ρ, rl, h⟩ := h
  refine ⟨Z, ρ, rl, Post.bind h fun ra ρ1 x Z1 H1 _ rl1 st1 lv1 q1 h => ?_⟩
  cases e1 : peek ra ρ1 with
  | none => rw [e1] at h; exact h.elim
  | some v =>
    cases e2 : seqOf v with
    | none => simp only [e1, Option.bind_some, e2] at h; exact h.elim
    | some vs =>
      simp only [e1, Option.bind_some, e2, Option.map_some] at h
      obtain ⟨b, a, xs, rfl, hs, rp, k⟩ := seq_kept q1 rl1 e1 e2
      have z := h _ Z1 H1 rl1 st1 lv1 (relI_seq hs rp k)
      rw [hK] at hs z
      cases b
      · exact .inr ⟨a, rfl, ⟨xs, hs⟩, z⟩
      · exact .inl ⟨a, rfl, ⟨xs, hs⟩, z⟩
theorem range1_nth : ∀ (n : Nat) (lo : Int) (i : Nat), i < n → (range1 n lo)[i]? = some (.int (lo + i))
  | 0, _, _, h => absurd h (Nat.not_lt_zero _)
  | n + 1, lo, 0, _ => by simp [range1]
  | n + 1, lo, i + 1, h => by
    show (range1 n (lo + 1))[i]? = _
    rw [range1_nth n (lo + 1) i (by omega)]
    congr 2
    push_cast
    omega
theorem range1_len : ∀ (n : Nat) (lo : Int), (range1 n lo).length = n
  | 0, _ => rfl
  | n + 1, lo => congrArg (· + 1) (range1_len n (lo + 1))
theorem rangeS_nth : ∀ (n : Nat) (lo d : Int) (i : Nat), i < n → (rangeS n lo d)[i]? = some (.int (lo + i * d))
  | 0, _, _, _, h => absurd h (Nat.not_lt_zero _)
  | n + 1, lo, d, 0, _ => by simp [rangeS]
  | n + 1, lo, d, i + 1, h => by
    show (rangeS n (lo + d) d)[i]? = _
    rw [rangeS_nth n (lo + d) d i (by omega)]
    congr 2
    push_cast
    rw [Int.add_mul, Int.one_mul]
    omega
theorem rangeS_len : ∀ (n : Nat) (lo d : Int), (rangeS n lo d).length = n
  | 0, _, _ => rfl
  | n + 1, lo, d => congrArg (· + 1) (rangeS_len n (lo + d) d)
theorem smallR_of {i : Int} (h : smallR i = true) : -(2 ^ 62) ≤ i ∧ i < 2 ^ 62 := by
  have h : i.natAbs < 4611686018427387904 := of_decide_eq_true h
  omega
theorem relI_rng {pr : Bool} {D : Dom} {σ : St} {H0 H : Hp} {Z : Addr → Prop} {ρ : Env} {n : Nat} {lo : Int} : relI pr D σ H0 Z H ρ (.val .non, range1 n lo) (Itr lo n) := by
  refine ⟨fun _ => True, fun i H v H' => i < n ∧ H' = H ∧ v = .int (lo + i), ?_, trivial, fun _ _ => trivial, fun i x Hc H' _ ⟨hi, e, ex⟩ => ⟨_, range1_nth n lo i hi, fun Zc _ _ => .inl ⟨e, ex ▸ .int _⟩⟩⟩
  rw [show (R.val Val.non, range1 n lo).2.length = n from range1_len n lo]
  exact walk_range.mono (fun _ h => h) fun i H x H' hi _ y => ⟨hi, y.1, y.2⟩
theorem relI_rngS {pr : Bool} {D : Dom} {σ : St} {H0 H : Hp} {Z : Addr → Prop} {ρ : Env} {n : Nat} {lo d : Int} : relI pr D σ H0 Z H ρ (.val .non, rangeS n lo d) (Itc lo d n) := by
  refine ⟨fun _ => True, fun i H v H' => i < n ∧ H' = H ∧ v = .int (lo + i * d), ?_, trivial, fun _ _ => trivial, fun i x Hc H' _ ⟨hi, e, ex⟩ => ⟨_, rangeS_nth n lo d i hi, fun Zc _ _ => .inl ⟨e, ex ▸ .int _⟩⟩⟩
  rw [show (R.val Val.non, rangeS n lo d).2.length = n from rangeS_len n lo d]
  exact walk_rangeC.mono (fun _ h => h) fun i H x H' hi _ y => ⟨hi, y.1, y.2⟩
/-- the range's operands, in the end -/
theorem rd_rng {W : WX} {g : Vc} {σ : St} {H : Hp} {R : L2.It → Hp → Prop} (h : RdI false D W (iRng g) σ H R) : RdV D W g σ H fun xs H1 => ∃ Z ρ vs its, Reps D Z H1 vs xs ∧ rangeOf vs = some its ∧ ∀ J, relI false D σ H Z H1 ρ (.val .non, its) J → R J H1 := by
  obtain ⟨Z, ρ, rl, h⟩ := h
  refine ⟨Z, ρ, rl, Post.bind h fun vs ρ1 xs Z1 H1 _ rl1 st1 lv1 q1 h => ?_⟩
  cases e1 : rangeOf vs with
  | none => rw [e1] at h; exact h.elim
  | some its =>
    rw [e1] at h
    exact ⟨Z1, ρ1, vs, its, q1, e1, fun J hJ => h J Z1 H1 rl1 st1 lv1 hJ⟩
def iRgA (ta : TA) : TI := fun σ H R => ta σ H fun vs H1 => (∃ j : Int, vs = [.int j] ∧ (-(2 ^ 62) ≤ j ∧ j < 2 ^ 62) ∧ R (Itr 0 j.toNat) H1) ∨
  (∃ i j : Int, vs = [.int i, .int j] ∧ (-(2 ^ 62) ≤ i ∧ i < 2 ^ 62 ∧ -(2 ^ 62) ≤ j ∧ j < 2 ^ 62) ∧ R (Itr i (j - i).toNat) H1) ∨ ∃ (i j c : Int) (n : Nat), vs = [.int i, .int j, .int c] ∧ RgC i j c n ∧ R (Itc i c n) H1
theorem pi_rgA {ta : TA} (hg : Gl X y) (hm : X.mg y = none) (hv : bootBuiltins y = some (.type "range")) (hn : y ≠ "__name__") (hdb : (y == ("__debug__" : Str)) = false) (ha : PA X (e :: es) ta)
    (hs : starEach (e :: es) X.env = (false, eval e X.env) :: starEach es X.env) (hpl : (backTo pos (starEach es X.env)).any (·.1) = false) : PI X tg (.Call (.Name y p) (e :: es) [] pos) (iRgA ta) := by
  refine ⟨fun pins s σ H R I h => ?_⟩
  refine Call_ (ld_blt I hg hm hv (PyProof.Rows.callWith_type1 (thn (ha.run pos pins s σ H _ I h) fun us s1 ⟨vs, H1, I1, r1, q1⟩ => ?_) hs hpl) hn hdb)
  rcases q1 with ⟨j, e, ⟨h1, h2⟩, q⟩ | ⟨i, j, e, ⟨h1, h2, h3, h4⟩, q⟩ | ⟨i, j, k, n, e, ⟨c0, c1, c2, c3⟩, q⟩
  · subst e
    cases r1 with
    | cons r rr =>
      cases rr
      obtain ⟨t, rfl⟩ := r
      exact call_range_1 (range_it I1 (by omega) (by omega) h1 h2 (by simpa using q))
  · subst e
    cases r1 with
    | cons r rr =>
      cases rr with
      | cons r' rr =>
        cases rr
        obtain ⟨t, rfl⟩ := r
        obtain ⟨t', rfl⟩ := r'
        exact call_range_2 (range_it I1 h1 h2 h3 h4 q)
  · subst e
    cases r1 with
    | cons r rr =>
      cases rr with
      | cons r' rr =>
        cases rr with
        | cons r'' rr =>
          cases rr
          obtain ⟨t, rfl⟩ := r
          obtain ⟨t', rfl⟩ := r'
          obtain ⟨t'', rfl⟩ := r''
          refine call_range_3 c0 ?_ (.inl (PyProof.noPylong_small c1))
          refine wpAny_pyIter_range (IsRange.new ..) c2 ?_
          have I2 : L2.Inv X pins σ H1 { s1 with heap := s1.heap.push { cls := .type "range", data := .fields #[.int i t, .int j t', .int k t''] } } := I1.kept (t' := s1.toks) fun b o e => Heap.get?_push_of_some _ e
          refine pi_one (tk := s1.toks) I2 _ (turn_rangeC _ i k n) ?_ q
          have e1 : i + ((0 : Nat) : Int) * k = i := by simp
          have e2 : (n : Int) - ((0 : Nat) : Int) = Builtin.Range.rangeSize i j k := by rw [c3]; simp
          show IsRangeIter _ _ (i + ((0 : Nat) : Int) * k) ((n : Int) - ((0 : Nat) : Int)) k
          rw [e1, e2]
          exact Heap.get?_push_size _ rfl
theorem Reps.int1 {Z : Addr → Prop} {H : Hp} {i : Int} {vs : List Val} {xs : List V} (h : Reps D Z H (.int i :: vs) xs) : ∃ ys, xs = .int i :: ys ∧ Reps D Z H vs ys := by
  cases h with
  | cons h t =>
    cases h
    exact ⟨_, rfl, t⟩
theorem Reps.nil1 {Z : Addr → Prop} {H : Hp} {xs : List V} (h : Reps D Z H [] xs) : xs = [] := by cases h; rfl
theorem iok_rng (hg : Gl X y) (hm : X.mg y = none) (hv : bootBuiltins y = some (.type "range")) (hn : y ≠ "__name__") (hdb : (y == ("__debug__" : Str)) = false) {g : Vc} (ha : VOk D X (e :: es) g) : IOk false D X tg (.Call (.Name y p) (e :: es) [] pos) (iRng g) := by
  have ns : noStar e = true ∧ noStars es = true := by simpa [noStars, Bool.and_eq_true] using ha.ns
  refine ⟨fun W tk => ⟨fun pins s σ H R I h => (pi_rgA hg hm hv hn hdb (ha.pa W tk) (star_cons ns.1) (star_any ns.2)).run pins s σ H R I ?_⟩, fun _ _ => rfl⟩
  obtain ⟨Z, ρ, rl, h⟩ := rd_rng h
  refine ⟨Z, ρ, rl, Post.imp h fun xs H1 ⟨Z1, ρ1, vs, its, rp, e, k⟩ => ?_⟩
  unfold rangeOf at e
  split at e
  · rename_i j
    split at e
    · rename_i hs
      cases e
      obtain ⟨ys1, rfl, rp1⟩ := rp.int1
      cases rp1.nil1
      exact .inl ⟨j, rfl, smallR_of hs, k _ relI_rng⟩
    · cases e
  · rename_i i j
    split at e
    · rename_i hs
      cases e
      obtain ⟨ys1, rfl, rp1⟩ := rp.int1
      obtain ⟨ys2, rfl, rp2⟩ := rp1.int1
      cases rp2.nil1
      rw [Bool.and_eq_true] at hs
      exact .inr (.inl ⟨i, j, rfl, ⟨(smallR_of hs.1).1, (smallR_of hs.1).2, (smallR_of hs.2).1, (smallR_of hs.2).2⟩, k _ relI_rng⟩)
    · cases e
  · rename_i i j
    split at e
    · rename_i hs
      cases e
      obtain ⟨ys1, rfl, rp1⟩ := rp.int1
      obtain ⟨ys2, rfl, rp2⟩ := rp1.int1
      obtain ⟨ys3, rfl, rp3⟩ := rp2.int1
      cases rp3.nil1
      rw [Bool.and_eq_true] at hs
      exact .inr (.inr ⟨i, j, -1, _, rfl, .neg (smallR_of hs.1).1 (smallR_of hs.1).2 (smallR_of hs.2).1 (smallR_of hs.2).2, k _ relI_rngS⟩)
    · cases e
  · cases e
theorem enumL_nth : ∀ (vs : List Val) (k : Int) (i : Nat) (v : Val), vs[i]? = some v → (enumL k vs)[i]? = some (.tup [.int (k + i), v])
  | [], _, _, _, h => by simp at h
  | w :: vs, k, 0, v, h => by
    simp at h
    subst h
    simp [enumL]
  | w :: vs, k, i + 1, v, h => by
    show (enumL (k + 1) vs)[i]? = _
    rw [enumL_nth vs (k + 1) i v (by simpa using h)]
    congr 4
    push_cast
    omega
theorem enumL_len : ∀ (vs : List Val) (k : Int), (enumL k vs).length = vs.length
  | [], _ => rfl
  | w :: vs, k => congrArg (· + 1) (enumL_len vs (k + 1))
theorem zipL_nth : ∀ (vs ws : List Val) (i : Nat) (v w : Val), vs[i]? = some v → ws[i]? = some w → (zipL vs ws)[i]? = some (.tup [v, w])
  | [], _, _, _, _, h, _ => by simp at h
  | _ :: _, [], _, _, _, _, h => by simp at h
  | v :: vs, w :: ws, 0, v', w', h, h' => by
    simp at h h'
    subst h h'
    simp [zipL]
  | _ :: vs, _ :: ws, i + 1, v', w', h, h' => by
    show (zipL vs ws)[i]? = _
    exact zipL_nth vs ws i v' w' (by simpa using h) (by simpa using h')
theorem zipL_len : ∀ (vs ws : List Val), (zipL vs ws).length = min vs.length ws.length
  | [], _ => by simp [zipL]
  | _ :: _, [] => by simp [zipL]
  | v :: vs, w :: ws => by
    show (zipL vs ws).length + 1 = _
    rw [zipL_len vs ws, List.length_cons, List.length_cons]
    omega
theorem iok_enum (hK : D.K = X.K) {elts : List Expr} {kk : Nat} (hg : Gl X y) (hm : X.mg y = none) (hv : bootBuiltins y = some (.type "enumerate")) (hn : y ≠ "__name__") (hdb : (y == ("__debug__" : Str)) = false) (ha : EOk D X e f) : IOk true D X (.Tuple elts kk tpos) (.Call (.Name y p) [e] [] pos) (iEnum f) := by
  refine ⟨fun W tk => ⟨fun pins s σ H R I h => (pi_enumB hg hm hv hn hdb (pa_cons (ha.pe W tk) pa_nil (star_cons ha.ns)) (star_cons ha.ns)).run pins s σ H R I ?_⟩, fun _ _ => rfl⟩
  obtain ⟨Z, ρ, rl, h⟩ := h
  refine ⟨Z, ρ, rl, Post.bind h fun ra ρ1 x Z1 H1 _ rl1 st1 lv1 q1 h => ?_⟩
  cases e1 : peek ra ρ1 with
  | none => rw [e1] at h; exact h.elim
  | some v =>
    cases e2 : seqOf v with
    | none => simp only [e1, Option.bind_some, e2] at h; exact h.elim
    | some vs =>
      simp only [e1, Option.bind_some, e2, Option.map_some] at h
      obtain ⟨b, a, xs, rfl, hs, rp, k⟩ := seq_kept q1 rl1 e1 e2
      have hl : vs.length = xs.length := by rw [← len_eq]; exact rp.len
      have z := h (IteB b D.K a) Z1 H1 rl1 st1 lv1 ⟨fun H => SqB b D.K H a xs, _, by rw [show (ra, enumL 0 vs).2.length = xs.length from (enumL_len vs 0).trans hl]; exact walk_enumB, hs, k, fun i x Hc H' _ y => by
        obtain ⟨T, x1, x2, h1, h2, h3, h4, h5⟩ := y
        obtain ⟨v2, e3, r2⟩ := rp.get h5
        rw [nth_eq] at e3
        refine ⟨_, enumL_nth vs 0 i v2 e3, fun Zc hz hk => .inr ⟨rfl, T, x1, x2, .int (0 + i), v2, h1, h2, h3, rfl, ?_, r2.mono hz hk⟩⟩
        rw [Int.zero_add]
        cases h4
        exact .int _⟩
      rw [hK] at hs z
      exact ⟨b, a, xs, rfl, hs, z⟩
theorem iok_zip (hK : D.K = X.K) {elts : List Expr} {kk : Nat} (hg : Gl X y) (hm : X.mg y = none) (hv : bootBuiltins y = some (.type "zip")) (hn : y ≠ "__name__") (hdb : (y == ("__debug__" : Str)) = false) {g : Vc} (ha : VOk D X [a, b] g) : IOk true D X (.Tuple elts kk tpos) (.Call (.Name y p) [a, b] [] pos) (iZip g) := by
  have ns : noStar a = true ∧ noStars [b] = true := by simpa [noStars, Bool.and_eq_true] using ha.ns
  refine ⟨fun W tk => ⟨fun pins s σ H R I h => (pi_zipB hg hm hv hn hdb (ha.pa W tk) (star_cons ns.1) (star_any ns.2)).run pins s σ H R I ?_⟩, fun _ _ => rfl⟩
  obtain ⟨Z, ρ, rl, h⟩ := h
  refine ⟨Z, ρ, rl, Post.bind h fun vs ρ1 xs Z1 H1 _ rl1 st1 lv1 q1 h => ?_⟩
  cases e1 : zipOf vs with
  | none => rw [e1] at h; exact h.elim
  | some its =>
    rw [e1] at h
    unfold zipOf at e1
    split at e1
    · rename_i v w
      obtain ⟨vs, e2, e1⟩ := Option.bind_eq_some_iff.mp e1
      obtain ⟨ws, e3, e1⟩ := Option.map_eq_some_iff.mp e1
      subst e1
      cases q1 with
      | cons h1 t =>
        cases t with
        | cons h2 t =>
          cases t
          obtain ⟨b1, a1, xs, rfl, hs1, rp1, k1⟩ := seq_keptV (H0 := H) (r := .val .non) h1 rl1 e2
          obtain ⟨b2, a2, ys, rfl, hs2, rp2, k2⟩ := seq_keptV (H0 := H) (r := .val .non) h2 rl1 e3
          have l1 : vs.length = xs.length := by rw [← len_eq]; exact rp1.len
          have l2 : ws.length = ys.length := by rw [← len_eq]; exact rp2.len
          have z := h (ItzB b1 b2 D.K a1 a2) Z1 H1 rl1 st1 lv1 ⟨fun H => SqB b1 D.K H a1 xs ∧ SqB b2 D.K H a2 ys, _, by rw [show (Ev.R.val Val.non, zipL vs ws).2.length = min xs.length ys.length from (zipL_len vs ws).trans (by rw [l1, l2])]; exact walk_zipB rfl, ⟨hs1, hs2⟩, fun H' k => ⟨k1 H' k, k2 H' k⟩, fun i x Hc H' _ y => by
            obtain ⟨T, x1, x2, h1, h2, h3, h4, h5⟩ := y
            obtain ⟨v1, e4, r1⟩ := rp1.get h4
            obtain ⟨v2, e5, r2⟩ := rp2.get h5
            rw [nth_eq] at e4 e5
            exact ⟨_, zipL_nth vs ws i v1 v2 e4 e5, fun Zc hz hk => .inr ⟨rfl, T, x1, x2, v1, v2, h1, h2, h3, rfl, r1.mono hz hk, r2.mono hz hk⟩⟩⟩
          rw [hK] at hs1 hs2 z
          exact ⟨b1, b2, a1, a2, xs, ys, rfl, hs1, hs2, z⟩
    · cases e1
theorem Reps.one {Z : Addr → Prop} {H : Hp} {vs : List Val} {x : V} (h : Reps D Z H vs [x]) : ∃ v, vs = [v] ∧ Rep D Z H v x := by
  cases h with
  | cons h t => cases t; exact ⟨_, rfl, h⟩
end
/-! ### targets -/
section
variable {D : Dom} {Z Z' Z2 : Addr → Prop} {ρ ρ' ρ1 ρ2 : Env} {σ σ' σ2 : St} {H H' H1 H2 : Hp}
theorem sto_free {ρ ρ' : Env} {i : Nat} {s : Sl} (h : sto ρ i s = some ρ') : locked (get ρ i) = false ∧ ρ' = put ρ i s := by
  unfold sto at h
  split at h <;> first | (rename_i e; rw [e]; cases h; exact ⟨rfl, rfl⟩) | cases h
/-- a value stored -/
theorem Stp.sto {i : Nat} {v : Val} {x : V} (h : sto ρ i (.sh false v) = some ρ') : Stp Z ρ σ H Z ρ' (σ.set i (some x)) H := by
  obtain ⟨hl, rfl⟩ := sto_free h
  have own : ∀ j a, OwnAt (put ρ i (.sh false v)) (σ.set i (some x)) j a → OwnAt ρ σ j a := fun j a ⟨h1, h2⟩ => by
    rcases get_put ρ i j (.sh false v) with ⟨e, ⟨g, _⟩ | ⟨g, _⟩⟩ | ⟨e, g⟩
    · rw [g] at h1; cases h1
    · rw [g] at h1; cases h1
    · rw [g] at h1
      rw [List.getElem?_set_ne (Ne.symm e)] at h2
      exact ⟨h1, h2⟩
  have lk : ∀ j, locked (get (put ρ i (.sh false v)) j) = locked (get ρ j) := fun j => lock_put hl.symm
  refine ⟨fun _ h => h, fun _ h => .inl h, fun _ _ h _ => h, fun _ h => h, fun j a h => .inl (own j a h), fun a ⟨j, h1, h2⟩ => ?_, fun j h => ⟨by rw [lk]; exact h, ?_⟩, fun j h => by rw [lk] at h; exact h⟩
  · rcases get_put ρ i j (.sh false v) with ⟨e, ⟨g, _⟩ | ⟨g, _⟩⟩ | ⟨e, g⟩
    · rw [g] at h1; cases h1
    · rw [g] at h1; cases h1
    · rw [g] at h1
      rw [List.getElem?_set_ne (Ne.symm e)] at h2
      exact .inl ⟨j, h1, h2⟩
  · refine List.getElem?_set_ne fun e => ?_
    subst e
    rw [h] at hl
    cases hl
theorem Rl.sto {i : Nat} {v : Val} {x : V} (rl : Rl D Z ρ σ H) (q : Rep D Z H v x) (h : sto ρ i (.sh false v) = some ρ') : Rl D Z ρ' (σ.set i (some x)) H := by
  obtain ⟨hl, rfl⟩ := sto_free h
  exact rl.set ⟨x, rfl, q⟩ (fun z => nomatch z)
/-- the target's stores as a whole -/
def setAll : List Nat → List V → St → St
  | i :: is, x :: xs, σ => setAll is xs (σ.set i (some x))
  | _, _, σ => σ
theorem stoAll_ok : ∀ {is : List Nat} {vs : List Val} {xs : List V} {ρ ρ' : Env} {σ : St}, stoAll is vs ρ = some ρ' → Reps D Z H vs xs → Rl D Z ρ σ H → Rl D Z ρ' (setAll is xs σ) H ∧ Stp Z ρ σ H Z ρ' (setAll is xs σ) H ∧ is.length = xs.length
  | [], [], _, _, _, _, h, .nil, rl => by
    cases h
    exact ⟨rl, .refl, rfl⟩
  | i :: is, v :: vs, _, ρ, ρ', σ, h, .cons q t, rl => by
    obtain ⟨ρ1, e, h⟩ := Option.bind_eq_some_iff.mp h
    obtain ⟨a, b, c⟩ := stoAll_ok h t (rl.sto q e)
    exact ⟨a, (Stp.sto e).trans b, by simp [c]⟩
  | [], _ :: _, _, _, _, _, h, _, _ => by cases h
  | _ :: _, [], _, _, _, _, h, _, _ => by cases h
end
section
variable {X : Cx} {pos : Pos}
def gTL (K : PySem.W.Frag) (n : Nat) (t : TGs) : TG := fun v σ H Q => ∃ b a xs, v = .ref a ∧ SqB b K H a xs ∧ xs.length = n ∧ t xs σ H Q
theorem pg_tl {es : List Expr} {k : Nat} {t : TGs} {n : Nat} (hc : X.calm = true) (h : PGs X es t) (hn : (assignEach es X.env).length = n) (hst : (assignEach es X.env).findIdx? (·.1) = none) : PG X (.Tuple es k pos) (gTL X.K n t) := by
  refine ⟨fun pins s σ H v u Q I r hw => ?_⟩
  obtain ⟨b, a, xs, e1, hq, hl, hw⟩ := hw
  cases b
  · exact (pg_tup (k := k) (pos := pos) hc h hn hst).run pins s σ H v u Q I r ⟨a, xs, e1, hq, hl, hw⟩
  · exact (pg_lst (k := k) (pos := pos) hc h hn hst).run pins s σ H v u Q I r ⟨a, xs, e1, hq, hl, hw⟩
/-- a name as a target -/
structure NmOk (X : Cx) (e : Expr) (i : Nat) : Prop where
  pg : PG X e (gName i)
  asg : (assignEach [e] X.env).map (·.2) = [assign e X.env]
  star : (assignEach [e] X.env).findIdx? (·.1) = none
inductive NmsOk (X : Cx) : List Expr → List Nat → Prop where
  | nil : NmsOk X [] []
  | cons {x : Str} {p : Pos} {i : Nat} {es : List Expr} {is : List Nat} (h : PG X (.Name x p) (gName i)) (t : NmsOk X es is) : NmsOk X (.Name x p :: es) (i :: is)
def gNames : List Nat → TGs
  | [] => gNil
  | i :: is => gCons (gName i) (gNames is)
theorem NmsOk.pgs {es : List Expr} {is : List Nat} (h : NmsOk X es is) : PGs X es (gNames is) := by
  induction h with
  | nil => exact pgs_nil
  | cons h t ih => exact pgs_cons h ih rfl
theorem NmsOk.len {es : List Expr} {is : List Nat} (h : NmsOk X es is) : (assignEach es X.env).length = is.length := by
  induction h with
  | nil => rfl
  | @cons x p i es is h t ih =>
    show (assignEach es X.env).length + 1 = _
    rw [ih]
    rfl
theorem NmsOk.star {es : List Expr} {is : List Nat} (h : NmsOk X es is) : (assignEach es X.env).findIdx? (·.1) = none := by
  induction h with
  | nil => rfl
  | @cons x p i es is h t ih =>
    show List.findIdx? (·.1) ((false, _) :: assignEach es X.env) = none
    rw [List.findIdx?_cons, ih]
    rfl
inductive TgOk (X : Cx) : Expr → Tg → Prop where
  | one {x : Str} {p : Pos} {i : Nat} (h : PG X (.Name x p) (gName i)) : TgOk X (.Name x p) (.one i)
  | tup {es : List Expr} {is : List Nat} {k : Nat} {p : Pos} (h : NmsOk X es is) : TgOk X (.Tuple es k p) (.tup is)
def gTg (K : PySem.W.Frag) : Tg → TG
  | .one i => gName i
  | .tup is => gTL K is.length (gNames is)
theorem TgOk.pg {e : Expr} {t : Tg} (h : TgOk X e t) (hc : X.calm = true) : PG X e (gTg X.K t) := by
  cases h with
  | one h => exact h
  | tup h => exact pg_tl hc h.pgs h.len h.star
theorem gNames_ok : ∀ {is : List Nat} {xs : List V} {σ : St} {H : Hp} {Q : St → Hp → Prop}, is.length = xs.length → Q (setAll is xs σ) H → gNames is xs σ H Q
  | [], [], _, _, _, _, q => ⟨rfl, q⟩
  | i :: is, x :: xs, _, _, _, e, q => ⟨x, xs, rfl, gNames_ok (by simpa using e) q⟩
  | [], _ :: _, _, _, _, e, _ => by simp at e
  | _ :: _, [], _, _, _, e, _ => by simp at e
end
section
variable {D : Dom} {Z : Addr → Prop} {ρ ρ' : Env} {σ : St} {H H' : Hp} {v : Val} {x : V} {t : Tg} {K : PySem.W.Frag}
/-- what the slots that a target stores into hold -/
def tgSet (is : List Nat) (σ σ' : St) : Prop := σ'.length = σ.length ∧ ∀ j, j ∉ is → σ'[j]? = σ[j]?
theorem setAll_set : ∀ {is : List Nat} {xs : List V} {σ : St}, tgSet is σ (setAll is xs σ)
  | [], _, _ => ⟨rfl, fun _ _ => rfl⟩
  | _ :: _, [], _ => ⟨rfl, fun _ _ => rfl⟩
  | i :: is, x :: xs, σ => by
    obtain ⟨a, b⟩ := setAll_set (is := is) (xs := xs) (σ := σ.set i (some x))
    refine ⟨by show (setAll is xs (σ.set i (some x))).length = _; rw [a, List.length_set], fun j h => ?_⟩
    have h1 : i ≠ j := fun e => h (by rw [e]; exact .head _)
    show (setAll is xs (σ.set i (some x)))[j]? = _
    rw [b j fun m => h (.tail _ m), List.getElem?_set_ne h1]
/-- a pair that a walk has made, or what stood there -/
theorem tg_ok {pr : Bool} (hK : D.K = K) (it : ItemOk pr D Z H v x H') (e : tgt t v ρ = some ρ') (one : pr = true → ∃ is, t = .tup is) (rl : Rl D Z ρ σ H) {Q : St → Hp → Prop}
    (k : ∀ σ2, tgSet (tgs t) σ σ2 → Rl D Z ρ' σ2 H' → Stp Z ρ σ H Z ρ' σ2 H' → Q σ2 H') : gTg K t x σ H' Q := by
  subst hK
  cases t with
  | one i =>
    obtain ⟨rfl, q⟩ : H' = H ∧ Rep D Z H v x := by
      rcases it with h | ⟨h, _⟩
      · exact h
      · obtain ⟨is, z⟩ := one h
        cases z
    exact k _ (setAll_set (is := [i]) (xs := [x])) (rl.sto q e) (Stp.sto e)
  | tup is =>
    have seq : ∀ {b : Bool} {a : Addr} {xs : List V} {vs : List Val}, x = .ref a → SqB b D.K H' a xs → Reps D Z H' vs xs → Rl D Z ρ σ H' → Stp Z ρ σ H Z ρ σ H' → stoAll is vs ρ = some ρ' → gTg D.K (.tup is) x σ H' Q := fun {b a xs vs} ex hs rp rl' st' e => by
      obtain ⟨h1, h2, h3⟩ := stoAll_ok e rp rl'
      exact ⟨b, a, xs, ex, hs, h3.symm, gNames_ok h3 (k _ setAll_set h1 (st'.trans h2))⟩
    rcases it with ⟨rfl, q⟩ | ⟨_, T, a, b, va, vb, rfl, n, rfl, rfl, qa, qb⟩
    · cases q with
      | tup h r => exact seq (b := false) rfl h.sq r rl .refl e
      | lst z h r => exact seq (b := true) rfl (.of h : SqL _ _ _ _) r rl .refl e
      | _ => cases e
    · have g := Grow.upd (H := H) (p := T) (o := .tup [a, b]) n
      exact seq (b := false) rfl (.inl (.inl upd_same) : SqT _ _ _ _) (.cons (qa.mono (fun _ h => h) g.kp) (.cons (qb.mono (fun _ h => h) g.kp) .nil)) (rl.grow g) (.grow g) e
end
end Ev

/-! Ev15: comprehensions. -/
namespace Ev
open PySem PySem.Spec PyProof.Rows L2
section
variable {D : Dom} {W : WX} {Z Z' Z2 : Addr → Prop} {ρ ρ' ρ1 ρ2 : Env} {σ σ' σ2 : St} {H H' H1 H2 : Hp} {r : R} {is vs : List Nat}
theorem get_wipes : ∀ {is : List Nat} {ρ : Env} {j : Nat}, get (wipes is ρ) j = if j ∈ is then .no else get ρ j
  | [], _, _ => by simp [wipes]
  | i :: r, ρ, j => by
    show get (put (wipes r ρ) i .no) j = _
    rcases get_put (wipes r ρ) i j .no with ⟨e, ⟨g, _⟩ | ⟨g, _⟩⟩ | ⟨e, g⟩
    · rw [g, e, if_pos (.head _)]
    · rw [g, e, if_pos (.head _)]
    · rw [g, get_wipes]
      simp [List.mem_cons, e]
theorem wipes_len : ∀ {is : List Nat} {ρ : Env}, (wipes is ρ).length = ρ.length
  | [], _ => rfl
  | i :: r, ρ => by
    show (put (wipes r ρ) i .no).length = _
    rw [put_length, wipes_len]
theorem backs_len : ∀ {is : List Nat} {ρ0 ρ : Env}, (backs is ρ0 ρ).length = ρ.length
  | [], _, _ => rfl
  | i :: r, ρ0, ρ => by
    show (put (backs r ρ0 ρ) i (get ρ0 i)).length = _
    rw [put_length, backs_len]
theorem get_backs : ∀ {is : List Nat} {ρ0 ρ : Env} {j : Nat}, ρ0.length = ρ.length → get (backs is ρ0 ρ) j = if j ∈ is then get ρ0 j else get ρ j
  | [], _, _, _, _ => by simp [backs]
  | i :: r, ρ0, ρ, j, h => by
    show get (put (backs r ρ0 ρ) i (get ρ0 i)) j = _
    rcases get_put (backs r ρ0 ρ) i j (get ρ0 i) with ⟨e, ⟨g, _⟩ | ⟨g, hl⟩⟩ | ⟨e, g⟩
    · rw [g, e, if_pos (.head _)]
    · rw [g, e, if_pos (.head _), get_big (by rw [h]; rw [backs_len] at hl; exact hl)]
    · rw [g, get_backs h]
      simp [List.mem_cons, e]
theorem wipe_get : ∀ {vs : List Nat} {σ : St} {j : Nat}, (wipe σ vs)[j]? = if j ∈ vs ∧ j < σ.length then some none else σ[j]?
  | [], _, _ => by simp [wipe]
  | i :: r, σ, j => by
    show ((wipe σ r).set i none)[j]? = _
    by_cases e : i = j
    · subst e
      by_cases hl : i < σ.length
      · rw [List.getElem?_set_self (by rw [wipe_length]; exact hl), if_pos ⟨.head _, hl⟩]
      · rw [List.getElem?_eq_none (by rw [List.length_set, wipe_length]; omega), if_neg (fun h => hl h.2), List.getElem?_eq_none (by omega)]
    · rw [List.getElem?_set_ne e, wipe_get]
      have : j ∈ i :: r ↔ j ∈ r := by
        rw [List.mem_cons]
        exact ⟨fun h => h.elim (fun z => absurd z.symm e) id, .inr⟩
      simp only [this]
theorem wipe_eq (hset : ∀ i, i ∈ vs ↔ i ∈ is) (h : tgSet is (wipe σ vs) σ2) : wipe σ2 vs = wipe σ vs := by
  obtain ⟨hl, h⟩ := h
  rw [wipe_length] at hl
  refine List.ext_getElem? fun j => ?_
  rw [wipe_get, wipe_get]
  by_cases hj : j ∈ vs
  · rw [hl]
    by_cases hb : j < σ.length
    · rw [if_pos ⟨hj, hb⟩, if_pos ⟨hj, hb⟩]
    · rw [if_neg (fun z => hb z.2), if_neg (fun z => hb z.2), List.getElem?_eq_none (by omega), List.getElem?_eq_none (by omega)]
  · rw [if_neg (fun z => hj z.1), if_neg (fun z => hj z.1), h j fun m => hj ((hset j).mpr m), wipe_get, if_neg (fun z => hj z.1)]
theorem Rl.wipes (rl : Rl D Z ρ σ H) (hset : ∀ i, i ∈ vs ↔ i ∈ is) : Rl D Z (wipes is ρ) (wipe σ vs) H := by
  have own : ∀ j a, OwnAt (Ev.wipes is ρ) (wipe σ vs) j a → OwnAt ρ σ j a := fun j a ⟨h1, h2⟩ => by
    rw [get_wipes] at h1
    by_cases hj : j ∈ is
    · rw [if_pos hj] at h1; cases h1
    · rw [if_neg hj] at h1
      rw [wipe_get, if_neg (fun z => hj ((hset j).mp z.1))] at h2
      exact ⟨h1, h2⟩
  refine ⟨fun j => ?_, fun i j a h1 h2 => rl.apart i j a (own i a h1) (own j a h2), by rw [wipes_len, wipe_length]; exact rl.len, rl.zt⟩
  rw [get_wipes]
  by_cases hj : j ∈ is
  · rw [if_pos hj]; trivial
  · rw [if_neg hj, wipe_get, if_neg (fun z => hj ((hset j).mp z.1))]
    exact rl.slot j
theorem own_wipes {a : Addr} {j : Nat} (hset : ∀ i, i ∈ vs ↔ i ∈ is) (h : OwnAt (wipes is ρ) (wipe σ vs) j a) : OwnAt ρ σ j a ∧ j ∉ is := by
  obtain ⟨h1, h2⟩ := h
  rw [get_wipes] at h1
  by_cases hj : j ∈ is
  · rw [if_pos hj] at h1; cases h1
  · rw [if_neg hj] at h1
    rw [wipe_get, if_neg (fun z => hj ((hset j).mp z.1))] at h2
    exact ⟨⟨h1, h2⟩, hj⟩
theorem wr_wipes {a : Addr} (hset : ∀ i, i ∈ vs ↔ i ∈ is) (h : Wr (wipes is ρ) (wipe σ vs) a) : Wr ρ σ a := by
  obtain ⟨j, h1, h2⟩ := h
  rw [get_wipes] at h1
  by_cases hj : j ∈ is
  · rw [if_pos hj] at h1; cases h1
  · rw [if_neg hj] at h1
    rw [wipe_get, if_neg (fun z => hj ((hset j).mp z.1))] at h2
    exact ⟨j, h1, h2⟩
/-- locked: the slots' marks alone -/
theorem get_lock {j : Nat} : get (lockR r ρ) j = get ρ j ∨ ∃ lk ws, r = .slot j ∧ get ρ j = .ow lk ws ∧ get (lockR r ρ) j = .rd lk ws := by
  cases r with
  | val v => exact .inl rfl
  | fresh v => exact .inl rfl
  | slot i =>
    simp only [lockR]
    cases g : get ρ i with
    | ow lk ws =>
      rcases get_put ρ i j (.rd lk ws) with ⟨e, ⟨g', _⟩ | ⟨g', hl⟩⟩ | ⟨ne, g'⟩
      · subst e
        exact .inr ⟨lk, ws, rfl, g, g'⟩
      · subst e
        rw [get_big hl] at g
        cases g
      · exact .inl g'
    | _ => exact .inl rfl
theorem lockR_len : (lockR r ρ).length = ρ.length := by
  cases r with
  | slot i =>
    simp only [lockR]
    split
    · exact put_length
    · rfl
  | _ => rfl
theorem Rl.lock (rl : Rl D Z ρ σ H) : Rl D Z (lockR r ρ) σ H := by
  have ow : ∀ j, owns (get (lockR r ρ) j) = true → owns (get ρ j) = true := fun j h => by
    rcases get_lock (r := r) (ρ := ρ) (j := j) with e | ⟨lk, ws, _, e, e'⟩
    · rw [e] at h; exact h
    · rw [e]; rfl
  refine ⟨fun j => ?_, fun i j a h1 h2 => rl.apart i j a ⟨ow i h1.1, h1.2⟩ ⟨ow j h2.1, h2.2⟩, by rw [lockR_len]; exact rl.len, rl.zt⟩
  have s := rl.slot j
  rcases get_lock (r := r) (ρ := ρ) (j := j) with e | ⟨lk, ws, _, e, e'⟩
  · rw [e]; exact s
  · rw [e']
    rw [e] at s
    exact s
theorem own_lock {j : Nat} {a : Addr} (h : OwnAt (lockR r ρ) σ j a) : OwnAt ρ σ j a := by
  rcases get_lock (r := r) (ρ := ρ) (j := j) with e | ⟨lk, ws, _, e, e'⟩
  · exact ⟨by rw [← e]; exact h.1, h.2⟩
  · exact ⟨by rw [e]; rfl, h.2⟩
theorem live_lock {j : Nat} : live (get (lockR r ρ) j) = live (get ρ j) := by
  rcases get_lock (r := r) (ρ := ρ) (j := j) with e | ⟨lk, ws, _, e, e'⟩
  · rw [e]
  · rw [e, e']; rfl
theorem locked_lock {j : Nat} : locked (get (lockR r ρ) j) = locked (get ρ j) := by
  rcases get_lock (r := r) (ρ := ρ) (j := j) with e | ⟨lk, ws, _, e, e'⟩
  · rw [e]
  · rw [e, e']; rfl
theorem Stp.lock : Stp Z ρ σ H Z (lockR r ρ) σ H := by
  refine ⟨fun _ h => h, fun _ h => .inl h, fun _ _ h _ => h, fun _ h => h, fun j a h => .inl (own_lock h), fun a h => .inl (wr_lock h), fun j h => ⟨by rw [locked_lock]; exact h, rfl⟩, fun j h => by rw [locked_lock] at h; exact h⟩
/-- unlocked -/
theorem get_unlock {ρ0 : Env} {j : Nat} : get (unlockR r ρ0 ρ) j = get ρ j ∨ ∃ l0 w0 lk ws, r = .slot j ∧ get ρ0 j = .ow l0 w0 ∧ get ρ j = .rd lk ws ∧ get (unlockR r ρ0 ρ) j = .ow lk ws := by
  cases r with
  | val v => exact .inl rfl
  | fresh v => exact .inl rfl
  | slot i =>
    simp only [unlockR]
    cases g0 : get ρ0 i with
    | ow l0 w0 =>
      cases g : get ρ i with
      | rd lk ws =>
        rcases get_put ρ i j (.ow lk ws) with ⟨e, ⟨g', _⟩ | ⟨g', hl⟩⟩ | ⟨ne, g'⟩
        · subst e
          exact .inr ⟨l0, w0, lk, ws, rfl, g0, g, g'⟩
        · subst e
          rw [get_big hl] at g
          cases g
        · exact .inl g'
      | _ => exact .inl rfl
    | _ => exact .inl rfl
theorem unlockR_len {ρ0 : Env} : (unlockR r ρ0 ρ).length = ρ.length := by
  cases r with
  | slot i =>
    simp only [unlockR]
    split
    · exact put_length
    · rfl
  | _ => rfl
theorem Rl.unlock {ρ0 : Env} (rl : Rl D Z ρ σ H) : Rl D Z (unlockR r ρ0 ρ) σ H := by
  have ow : ∀ j, owns (get (unlockR r ρ0 ρ) j) = true → owns (get ρ j) = true := fun j h => by
    rcases get_unlock (r := r) (ρ := ρ) (ρ0 := ρ0) (j := j) with e | ⟨_, _, lk, ws, _, _, e, e'⟩
    · rw [e] at h; exact h
    · rw [e]; rfl
  refine ⟨fun j => ?_, fun i j a h1 h2 => rl.apart i j a ⟨ow i h1.1, h1.2⟩ ⟨ow j h2.1, h2.2⟩, by rw [unlockR_len]; exact rl.len, rl.zt⟩
  have s := rl.slot j
  rcases get_unlock (r := r) (ρ := ρ) (ρ0 := ρ0) (j := j) with e | ⟨_, _, lk, ws, _, _, e, e'⟩
  · rw [e]; exact s
  · rw [e']
    rw [e] at s
    exact s
theorem own_unlock {ρ0 : Env} {j : Nat} {a : Addr} (h : OwnAt (unlockR r ρ0 ρ) σ j a) : OwnAt ρ σ j a := by
  rcases get_unlock (r := r) (ρ := ρ) (ρ0 := ρ0) (j := j) with e | ⟨_, _, lk, ws, _, _, e, e'⟩
  · exact ⟨by rw [← e]; exact h.1, h.2⟩
  · exact ⟨by rw [e]; rfl, h.2⟩
theorem live_unlock {ρ0 : Env} {j : Nat} : live (get (unlockR r ρ0 ρ) j) = live (get ρ j) := by
  rcases get_unlock (r := r) (ρ := ρ) (ρ0 := ρ0) (j := j) with e | ⟨_, _, lk, ws, _, _, e, e'⟩
  · rw [e]
  · rw [e, e']; rfl
theorem locked_unlock {ρ0 : Env} {j : Nat} : locked (get (unlockR r ρ0 ρ) j) = locked (get ρ j) := by
  rcases get_unlock (r := r) (ρ := ρ) (ρ0 := ρ0) (j := j) with e | ⟨_, _, lk, ws, _, _, e, e'⟩
  · rw [e]
  · rw [e, e']; rfl
/-- from the start of a walk to its end -/
theorem Stp.unlock {ρ0 : Env} (st : Stp Z ρ0 σ H Z' ρ' σ' H') (lk : ∀ j a, OwnAt ρ' σ' j a → OwnAt (lockR r ρ0) σ j a ∨ H a = none) : Stp Z ρ0 σ H Z' (unlockR r ρ0 ρ') σ' H' := by
  refine ⟨st.z, st.zz, st.fr, st.tr, fun j a h => st.ow1 j a (own_unlock h), fun a ⟨j, h1, h2⟩ => ?_, fun j h => ⟨by rw [locked_unlock]; exact (st.lk j h).1, (st.lk j h).2⟩, fun j h => by rw [locked_unlock] at h; exact st.lk2 j h⟩
  rcases get_unlock (r := r) (ρ := ρ') (ρ0 := ρ0) (j := j) with e | ⟨l0, w0, lk', ws, _, e0, e, e'⟩
  · exact st.wr a ⟨j, by rw [← e]; exact h1, h2⟩
  · rcases lk j a ⟨by rw [e]; rfl, h2⟩ with h | h
    · exact .inl ⟨j, by rw [e0]; rfl, h.2⟩
    · exact .inr h
/-- a comprehension's end, in the def's own frame -/
theorem comp_exit (rl1 : Rl D Z ρ1 σ H1) (rl' : Rl D Z' ρ' (wipe σ vs) H') (st : Stp Z (wipes is (lockR r ρ1)) (wipe σ vs) H1 Z' ρ' (wipe σ vs) H') (lv : Lv (wipes is (lockR r ρ1)) ρ') (hset : ∀ i, i ∈ vs ↔ i ∈ is) :
    Rl D Z' (unlockR r ρ1 (backs is ρ1 ρ')) σ H' ∧ Stp Z ρ1 σ H1 Z' (unlockR r ρ1 (backs is ρ1 ρ')) σ H' ∧ Lv ρ1 (unlockR r ρ1 (backs is ρ1 ρ')) ∧ ∀ a, Ow (unlockR r ρ1 (backs is ρ1 ρ')) σ a → Ow ρ1 σ a ∨ Ow ρ' (wipe σ vs) a := by
  have hlen : ρ1.length = ρ'.length := by
    have a := rl1.len
    have b := rl'.len
    rw [wipe_length] at b
    rw [a, b]
  have gb := fun j => get_backs (is := is) (j := j) hlen
  have out : ∀ j, j ∉ is → (wipe σ vs)[j]? = σ[j]? := fun j hj => by rw [wipe_get, if_neg (fun z => hj ((hset j).mp z.1))]
  have nwr : ∀ a, Wr (wipes is (lockR r ρ1)) (wipe σ vs) a → Wr ρ1 σ a := fun a h => wr_lock (wr_wipes hset h)
  have now : ∀ j a, OwnAt (wipes is (lockR r ρ1)) (wipe σ vs) j a → OwnAt ρ1 σ j a ∧ j ∉ is := fun j a h => let ⟨h1, h2⟩ := own_wipes hset h; ⟨own_lock h1, h2⟩
  have kp : Kp Z H1 H' := fun a o e h => st.fr a o e fun w => by
    obtain ⟨nz, xs, hx⟩ := rl1.own (nwr a w).ow
    rcases h with h | h
    · exact nz h
    · rw [e] at hx
      exact h xs (Option.some.inj hx)
  have ownb : ∀ j a, OwnAt (backs is ρ1 ρ') σ j a → (j ∈ is ∧ OwnAt ρ1 σ j a) ∨ (j ∉ is ∧ OwnAt ρ' (wipe σ vs) j a) := fun j a ⟨h1, h2⟩ => by
    rw [gb] at h1
    by_cases hj : j ∈ is
    · rw [if_pos hj] at h1
      exact .inl ⟨hj, h1, h2⟩
    · rw [if_neg hj] at h1
      exact .inr ⟨hj, h1, by rw [out j hj]; exact h2⟩
  -- a list of a target's slot stays as it was
  have keep : ∀ {j a xs}, j ∈ is → OwnAt ρ1 σ j a → H1 a = some (.lst xs) → ¬ Z' a ∧ H' a = some (.lst xs) ∧ ¬ Ow ρ' (wipe σ vs) a := fun {j a xs} hj ho ha => by
    have nw : ¬ Ow (wipes is (lockR r ρ1)) (wipe σ vs) a := fun ⟨k, hk⟩ => by
      obtain ⟨h1, h2⟩ := now k a hk
      exact h2 ((rl1.apart k j a h1 ho) ▸ hj)
    refine ⟨fun z => ?_, st.fr a _ ha fun w => nw w.ow, fun z => ?_⟩
    · rcases st.zz a z with z | z | z
      · exact (rl1.own ⟨j, ho⟩).1 z
      · exact nw z
      · rw [ha] at z; cases z
    · rcases st.ow a z with z | z
      · exact nw z
      · rw [ha] at z; cases z
  have rlb : Rl D Z' (backs is ρ1 ρ') σ H' := by
    refine ⟨fun j => ?_, fun i j a h1 h2 => ?_, by rw [backs_len, ← hlen]; exact rl1.len, rl'.zt⟩
    · rw [gb]
      by_cases hj : j ∈ is
      · rw [if_pos hj]
        have s := rl1.slot j
        cases g : get ρ1 j with
        | no => trivial
        | sh l v =>
          rw [g] at s
          obtain ⟨x, e, q⟩ := s
          exact ⟨x, e, q.mono st.z kp⟩
        | ow l ws =>
          rw [g] at s
          obtain ⟨a, xs, e, nz, ha, q⟩ := s
          obtain ⟨h1, h2, _⟩ := keep hj ⟨by rw [g]; rfl, e⟩ ha
          exact ⟨a, xs, e, h1, h2, q.mono st.z kp⟩
        | rd l ws =>
          rw [g] at s
          obtain ⟨a, xs, e, nz, ha, q⟩ := s
          obtain ⟨h1, h2, _⟩ := keep hj ⟨by rw [g]; rfl, e⟩ ha
          exact ⟨a, xs, e, h1, h2, q.mono st.z kp⟩
      · rw [if_neg hj]
        have s := rl'.slot j
        rw [out j hj] at s
        exact s
    · rcases ownb i a h1 with ⟨i1, o1⟩ | ⟨i1, o1⟩ <;> rcases ownb j a h2 with ⟨i2, o2⟩ | ⟨i2, o2⟩
      · exact rl1.apart i j a o1 o2
      · obtain ⟨_, xs, hx⟩ := rl1.own ⟨i, o1⟩
        exact absurd ⟨j, o2⟩ (keep i1 o1 hx).2.2
      · obtain ⟨_, xs, hx⟩ := rl1.own ⟨j, o2⟩
        exact absurd ⟨i, o1⟩ (keep i2 o2 hx).2.2
      · exact rl'.apart i j a o1 o2
  have stb : Stp Z ρ1 σ H1 Z' (backs is ρ1 ρ') σ H' := by
    refine ⟨st.z, fun a h => ?_, fun a o e n => st.fr a o e fun w => n (nwr a w), st.tr, fun j a h => ?_, fun a ⟨j, h1, h2⟩ => ?_, fun j h => ⟨?_, rfl⟩, fun j h => ?_⟩
    · rcases st.zz a h with h | ⟨k, h⟩ | h
      · exact .inl h
      · exact .inr (.inl ⟨k, (now k a h).1⟩)
      · exact .inr (.inr h)
    · rcases ownb j a h with ⟨_, h⟩ | ⟨_, h⟩
      · exact .inl h
      · exact (st.ow1 j a h).elim (fun h => .inl (now j a h).1) .inr
    · rw [gb] at h1
      by_cases hj : j ∈ is
      · rw [if_pos hj] at h1
        exact .inl ⟨j, h1, h2⟩
      · rw [if_neg hj] at h1
        exact (st.wr a ⟨j, h1, by rw [out j hj]; exact h2⟩).elim (fun h => .inl (nwr a h)) .inr
    · rw [gb]
      by_cases hj : j ∈ is
      · rw [if_pos hj]; exact h
      · rw [if_neg hj]
        exact (st.lk j (by rw [get_wipes, if_neg hj, locked_lock]; exact h)).1
    · rw [gb] at h
      by_cases hj : j ∈ is
      · rw [if_pos hj] at h; exact h
      · rw [if_neg hj] at h
        have z := st.lk2 j h
        rw [get_wipes, if_neg hj, locked_lock] at z
        exact z
  refine ⟨rlb.unlock, ?_, fun j h => ?_, fun a ⟨j, h⟩ => ?_⟩
  · refine ⟨stb.z, stb.zz, stb.fr, stb.tr, fun j a h => stb.ow1 j a (own_unlock h), fun a ⟨j, h1, h2⟩ => ?_, fun j h => ⟨by rw [locked_unlock]; exact (stb.lk j h).1, rfl⟩, fun j h => by rw [locked_unlock] at h; exact stb.lk2 j h⟩
    rcases get_unlock (r := r) (ρ := backs is ρ1 ρ') (ρ0 := ρ1) (j := j) with e | ⟨l0, w0, lk', ws, _, e0, e, e'⟩
    · exact stb.wr a ⟨j, by rw [← e]; exact h1, h2⟩
    · exact .inl ⟨j, by rw [e0]; rfl, h2⟩
  · rw [live_unlock, gb]
    by_cases hj : j ∈ is
    · rw [if_pos hj]; exact h
    · rw [if_neg hj]
      exact lv j (by rw [get_wipes, if_neg hj, live_lock]; exact h)
  · rcases ownb j a (own_unlock h) with ⟨_, h⟩ | ⟨_, h⟩
    · exact .inl ⟨j, h⟩
    · exact .inr ⟨j, h⟩
/-- a new list is written further -/
theorem Rl.list {L : Addr} {acc ys : List V} (rl : Rl D Z ρ σ H) (nz : ¬ Z L) (no : ¬ Ow ρ σ L) (hl : H L = some (.lst acc)) : Rl D Z ρ σ (upd H L (.lst ys)) ∧ Kp Z H (upd H L (.lst ys)) := by
  have kp : Kp Z H (upd H L (.lst ys)) := fun a o e h => by
    by_cases ea : a = L
    · subst ea
      rw [hl] at e
      cases e
      rcases h with h | h
      · exact absurd h nz
      · exact absurd rfl (h acc)
    · rw [upd_ne ea]; exact e
  refine ⟨⟨fun j => ?_, rl.apart, rl.len, fun a z => ?_⟩, kp⟩
  · have s := rl.slot j
    cases g : get ρ j with
    | no => trivial
    | sh l v =>
      rw [g] at s
      obtain ⟨x, e, q⟩ := s
      exact ⟨x, e, q.mono (fun _ h => h) kp⟩
    | ow l ws =>
      rw [g] at s
      obtain ⟨a, xs, e, nza, ha, q⟩ := s
      have ne : a ≠ L := fun z => no ⟨j, by rw [g]; rfl, z ▸ e⟩
      exact ⟨a, xs, e, nza, by rw [upd_ne ne]; exact ha, q.mono (fun _ h => h) kp⟩
    | rd l ws =>
      rw [g] at s
      obtain ⟨a, xs, e, nza, ha, q⟩ := s
      have ne : a ≠ L := fun z => no ⟨j, by rw [g]; rfl, z ▸ e⟩
      exact ⟨a, xs, e, nza, by rw [upd_ne ne]; exact ha, q.mono (fun _ h => h) kp⟩
  · by_cases ea : a = L
    · rw [ea, upd_same]; exact fun z => nomatch z
    · rw [upd_ne ea]; exact rl.zt a z
theorem Stp.updNew {L : Addr} {o : HO} (st : Stp Z ρ σ H Z' ρ' σ' H') (n : H L = none) : Stp Z ρ σ H Z' ρ' σ' (upd H' L o) := by
  refine ⟨st.z, st.zz, fun a u e w => ?_, fun a h => ?_, st.ow1, st.wr, st.lk, st.lk2⟩
  · rw [upd_ne (ne_of_none e n)]; exact st.fr a u e w
  · by_cases ea : a = L
    · rw [ea, upd_same] at h; cases h
    · rw [upd_ne ea] at h; exact st.tr a h
/-- the turn's names forgotten -/
theorem Stp.wipes {σ0 : St} {ρ0 : Env} {H0 : Hp} {Z0 : Addr → Prop} (st : Stp Z0 ρ0 σ0 H0 Z ρ σ H) (h : ∀ i ∈ is, get ρ0 i = .no) (hset : ∀ i, i ∈ vs ↔ i ∈ is) : Stp Z0 ρ0 σ0 H0 Z (wipes is ρ) (wipe σ vs) H := by
  refine ⟨st.z, st.zz, st.fr, st.tr, fun j a h => st.ow1 j a (own_wipes hset h).1, fun a h => st.wr a (wr_wipes hset h), fun j hl => ?_, fun j hl => ?_⟩
  · have nj : j ∉ is := fun m => by rw [h j m] at hl; cases hl
    rw [get_wipes, if_neg nj, wipe_get, if_neg (fun z => nj ((hset j).mp z.1))]
    exact st.lk j hl
  · rw [get_wipes] at hl
    by_cases hj : j ∈ is
    · rw [if_pos hj] at hl; cases hl
    · rw [if_neg hj] at hl
      exact st.lk2 j hl
end
/-- a walk, whatever a turn does -/
theorem it_gen {J : L2.It} {n : Nat} {G : Hp → Prop} {Y : Nat → Hp → V → Hp → Prop} (w : Walk J n G Y) {B : V → Hp → (Hp → Prop) → Prop} {Qd : Hp → Prop} {H0 : Hp} (Pv : Nat → Hp → Prop) (h0 : Pv 0 H0) (hG : ∀ i H, i ≤ n → Pv i H → G H)
    (hs : ∀ i x H H', i < n → Pv i H → Y i H x H' → B x H' (Pv (i + 1))) (hd : ∀ H, Pv n H → Qd H) :
    ∃ W : Nat → Nat → Hp → Prop, (∃ m, W 0 m H0) ∧ ∀ i m H, W i m H → (J.stop i H ∧ Qd H) ∨ (J.go i H ∧ ∃ Nx : Hp → Prop, (∀ H', Nx H' → ∃ m', m' < m ∧ W (i + 1) m' H') ∧ ∀ x H', J.yld i H x H' → B x H' Nx) := by
  refine ⟨fun i m H => m = n - i ∧ i ≤ n ∧ Pv i H, ⟨n, by simp, Nat.zero_le _, h0⟩, ?_⟩
  rintro i m H ⟨rfl, hi, p⟩
  have q := hG i H hi p
  by_cases hlt : i < n
  · exact .inr ⟨w.goes i H hlt q, Pv (i + 1), fun H' p' => ⟨n - (i + 1), by omega, rfl, hlt, p'⟩, fun x H' y => hs i x H H' hlt p (w.yields i H x H' hlt q y)⟩
  · have e : i = n := by omega
    subst e
    exact .inl ⟨w.stops H q, hd H p⟩
end Ev

/-! Ev16: comprehensions of one clause. -/
namespace Ev
open PySem PySem.Spec PyProof.Rows L2
abbrev WF : WX := fun _ _ _ _ => False
/-- tests of a clause -/
structure COk (D : Dom) (X : Cx) (ifs : List Expr) (f : Cc) : Prop where
  pt : ∀ W, Takes X W → PTs X ifs (Rd D W relQ f)
theorem cok_no {D : Dom} {X : Cx} : COk D X [] tNo := ⟨fun W tk => ⟨fun pins s σ H Q I h => pts_nil.run pins s σ H Q I (by
  obtain ⟨Z, ρ, rl, h⟩ := h
  exact h true Z H rl .refl .refl rfl)⟩⟩
theorem cok_yes {D : Dom} {X : Cx} {c : Expr} {f : Ec} (h : EOk D X c f) : COk D X [c] (tYes f) := ⟨fun W tk => pts_one (h.pt W tk)⟩
section
variable {D : Dom} {W : WX} {Z Z' Z2 : Addr → Prop} {ρ ρ' ρ1 ρ2 : Env} {σ σ' σ2 : St} {H H' H1 H2 : Hp} {r : R} {is vs : List Nat}
theorem get_tgt : ∀ {t : Tg} {v : Val} {ρ ρ' : Env} {j : Nat}, tgt t v ρ = some ρ' → j ∉ tgs t → get ρ' j = get ρ j := by
  have all : ∀ {is : List Nat} {vs : List Val} {ρ ρ' : Env} {j : Nat}, stoAll is vs ρ = some ρ' → j ∉ is → get ρ' j = get ρ j := by
    intro is
    induction is with
    | nil =>
      intro vs ρ ρ' j h _
      cases vs with
      | nil => cases h; rfl
      | cons v vs => cases h
    | cons i is ih =>
      intro vs ρ ρ' j h n
      cases vs with
      | nil => cases h
      | cons v vs =>
        obtain ⟨ρ1, e, h⟩ := Option.bind_eq_some_iff.mp h
        rw [ih h fun m => n (.tail _ m)]
        obtain ⟨_, rfl⟩ := sto_free e
        exact get_put_ne fun z => n (z ▸ .head _)
  intro t v ρ ρ' j h n
  cases t with
  | one i =>
    obtain ⟨_, rfl⟩ := sto_free h
    exact get_put_ne fun z => n (z ▸ .head _)
  | tup is =>
    cases v with
    | tup vs => exact all h n
    | lst vs => exact all h n
    | _ => cases h
theorem lv_tgt {t : Tg} {v : Val} {ρ ρ' : Env} (h : tgt t v ρ = some ρ') : Lv ρ ρ' := by
  have one : ∀ {ρ ρ' : Env} {i : Nat} {v : Val}, sto ρ i (.sh false v) = some ρ' → Lv ρ ρ' := fun {ρ ρ' i v} h => by
    obtain ⟨_, rfl⟩ := sto_free h
    exact .put fun _ => rfl
  have all : ∀ {is : List Nat} {vs : List Val} {ρ ρ' : Env}, stoAll is vs ρ = some ρ' → Lv ρ ρ' := by
    intro is
    induction is with
    | nil =>
      intro vs ρ ρ' h
      cases vs with
      | nil => cases h; exact .refl
      | cons v vs => cases h
    | cons i is ih =>
      intro vs ρ ρ' h
      cases vs with
      | nil => cases h
      | cons v vs =>
        obtain ⟨ρ1, e, h⟩ := Option.bind_eq_some_iff.mp h
        exact (one e).trans (ih h)
  cases t with
  | one i => exact one h
  | tup is =>
    cases v with
    | tup vs => exact all h
    | lst vs => exact all h
    | _ => cases h
variable {t : Tg} {fi : Ic} {fc : Cc} {fe : Ec} {pr : Bool} {K : PySem.W.Frag} {Q : VK} {rs : List Val}
/-- what stands between turns: the new list at L -/
structure Turned (D : Dom) (Z1 : Addr → Prop) (ρw : Env) (σw : St) (H1 : Hp) (L : Addr) (accv : List Val) (acc : List V) (Zc : Addr → Prop) (ρc : Env) (σc : St) (Hc : Hp) : Prop where
  rl : Rl D Zc ρc σc Hc
  st : Stp Z1 ρw σw H1 Zc ρc σc Hc
  lv : Lv ρw ρc
  hL : Hc L = some (.lst acc)
  nz : ¬ Zc L
  nw : ¬ Ow ρc σc L
  rp : Reps D Zc Hc accv acc
section
variable {Z1 Zc Z5 : Addr → Prop} {ρw ρc ρ5 : Env} {σw σc σ5 : St} {Hc H5 : Hp} {L : Addr} {accv : List Val} {acc : List V}
theorem Turned.start (rl : Rl D Z ρ σ H) (hL : H L = none) : Turned D Z ρ σ H L [] [] Z ρ σ (upd H L (.lst [])) := by
  refine ⟨rl.grow (Grow.upd hL), .grow (Grow.upd hL), .refl, upd_same, fun z => rl.zt L z hL, fun w => ?_, .nil⟩
  obtain ⟨_, xs, hx⟩ := rl.own w
  rw [hL] at hx
  cases hx
/-- a step within -/
theorem Turned.go (T : Turned D Z1 ρw σw H1 L accv acc Zc ρc σc Hc) (rl : Rl D Z5 ρ5 σ5 H5) (st : Stp Zc ρc σc Hc Z5 ρ5 σ5 H5) (lv : Lv ρc ρ5) : Turned D Z1 ρw σw H1 L accv acc Z5 ρ5 σ5 H5 := by
  refine ⟨rl, T.st.trans st, T.lv.trans lv, st.fr L _ T.hL fun w => T.nw w.ow, fun z => ?_, fun z => ?_, T.rp.stp T.rl st⟩
  · rcases st.zz L z with z | z | z
    · exact T.nz z
    · exact T.nw z
    · rw [T.hL] at z; cases z
  · rcases st.ow L z with z | z
    · exact T.nw z
    · rw [T.hL] at z; cases z
/-- a turn's names forgotten -/
theorem Turned.wip (T : Turned D Z1 ρw σw H1 L accv acc Zc ρc σc Hc) (no : ∀ i ∈ is, get ρw i = .no) (hset : ∀ i, i ∈ vs ↔ i ∈ is) : Turned D Z1 ρw σw H1 L accv acc Zc (wipes is ρc) (wipe σc vs) Hc := by
  refine ⟨T.rl.wipes hset, T.st.wipes no hset, fun j h => ?_, T.hL, T.nz, fun ⟨j, h⟩ => T.nw ⟨j, (own_wipes hset h).1⟩, T.rp⟩
  have nj : j ∉ is := fun m => by rw [no j m] at h; cases h
  rw [get_wipes, if_neg nj]
  exact T.lv j h
theorem Turned.push {w : Val} {y : V} (T : Turned D Z1 ρw σw H1 L accv acc Zc ρc σc Hc) (hn : H1 L = none) (q : Rep D Zc Hc w y) :
    Turned D Z1 ρw σw H1 L (accv ++ [w]) (acc ++ [y]) Zc ρc σc (upd Hc L (.lst (acc ++ [y]))) := by
  obtain ⟨a, b⟩ := T.rl.list (ys := acc ++ [y]) T.nz T.nw T.hL
  exact ⟨a, T.st.updNew hn, T.lv, upd_same, T.nz, T.nw, (T.rp.mono (fun _ h => h) b).app (.cons (q.mono (fun _ h => h) b) .nil)⟩
end
theorem drop_at {α : Type} {l : List α} {i : Nat} {v : α} (h : l[i]? = some v) : l.drop i = v :: l.drop (i + 1) := by
  obtain ⟨hi, e⟩ := List.getElem?_eq_some_iff.mp h
  rw [List.drop_eq_getElem_cons hi, e]
theorem Res.bind_ok {α β : Type} {x : Res α} {f : α → Env → Res β} {b : β} {ρ : Env} (h : x.bind f = .ok b ρ) : ∃ a ρ1, x = .ok a ρ1 ∧ f a ρ1 = .ok b ρ := by
  cases x with
  | ok a ρ1 => exact ⟨a, ρ1, rfl, h⟩
  | exc k p ρ1 => cases h
  | stuck => cases h
theorem acc_room {accv rest : List Val} {acc : List V} {ws : List Val} {w : Val} {Zc : Addr → Prop} {Hc : Hp} (rp : Reps D Zc Hc accv acc) (e : ws = accv ++ w :: rest) (hl : len ws ≤ line) : acc.length < sizeLine := by
  rw [← rp.len, len_eq]
  rw [len_eq, e, List.length_append, List.length_cons] at hl
  have : line < sizeLine := by decide
  omega
theorem comp_core (hK : D.K = K) (hp : pr = true → ∃ is, t = .tup is) (hset : ∀ i, i ∈ vs ↔ i ∈ tgs t) (h : RdE D W (cComp t fi fc fe) σ H Q) : tLc (RdI pr D W fi) (gTg K t) (Rd D WF relQ fc) (RdE D WF fe) vs σ H Q := by
  obtain ⟨Z, ρ, rl, h⟩ := h
  refine ⟨Z, ρ, rl, Post.bind h fun p ρ1 J Z1 H1 _ rl1 st1 lv1 hJ h => ?_⟩
  obtain ⟨G, Y, w, hG, kG, items⟩ := hJ
  intro L hL
  split at h
  rotate_left
  · exact h.elim
  cases hc : compLoop (compBody t fc fe) p.2 (wipes (tgs t) (lockR p.1 ρ1)) with
  | stuck => rw [hc] at h; exact h.elim
  | exc k e ρ' => rw [hc] at h; exact h.elim
  | ok ws ρ' =>
    rw [hc] at h
    simp only [Res.held, Res.bind] at h
    by_cases hl : len ws ≤ line
    · rw [if_pos hl] at h
      have rw1 : Rl D Z1 (wipes (tgs t) (lockR p.1 ρ1)) (wipe σ vs) H1 := (rl1.lock (r := p.1)).wipes hset
      have no0 : ∀ j ∈ tgs t, get (wipes (tgs t) (lockR p.1 ρ1)) j = .no := fun j hj => by rw [get_wipes, if_pos hj]
      refine it_gen w (fun i Hc => ∃ acc accv Zc ρc, Turned D Z1 (wipes (tgs t) (lockR p.1 ρ1)) (wipe σ vs) H1 L accv acc Zc ρc (wipe σ vs) Hc ∧ ∃ rest, compLoop (compBody t fc fe) (p.2.drop i) ρc = .ok rest ρ' ∧ ws = accv ++ rest)
        ⟨[], [], Z1, _, .start rw1 hL, ws, hc, rfl⟩ (fun i Hc _ ⟨acc, accv, Zc, ρc, T, _⟩ => kG Hc fun a o e nw _ => T.st.fr a o e fun w => nw (wr_wipes hset w)) ?_ ?_
      · intro i x Hc Hx hi ⟨acc, accv, Zc, ρc, T, rest, er, ea⟩ y
        have hGc : G Hc := kG Hc fun a o e nw _ => T.st.fr a o e fun w => nw (wr_wipes hset w)
        obtain ⟨v, hv, it⟩ := items i x Hc Hx hGc y
        rw [drop_at hv] at er
        obtain ⟨o, ρd, e1, er⟩ := Res.bind_ok er
        obtain ⟨rest', ρe, e2, er⟩ := Res.bind_ok er
        cases er
        unfold compBody at e1
        cases et : tgt t v ρc with
        | none => rw [et] at e1; cases e1
        | some ρ2 =>
          rw [et] at e1
          obtain ⟨k, ρ3, e3, e1⟩ := Res.bind_ok e1
          refine tg_ok hK (it Zc T.st.z (T.st.kp rw1)) et hp T.rl fun σ2 tset rl2 st2 => ?_
          have ew := wipe_eq hset tset
          refine ⟨ew, Zc, ρ2, rl2, ?_⟩
          rw [e3]
          intro b Z3 H3 rl3 st3 lv3 eb
          cases eb
          have T3 := T.go rl3 (st2.trans st3) ((lv_tgt et).trans lv3)
          cases k with
          | false =>
            cases e1
            have T' := T3.wip no0 hset
            rw [ew] at T'
            exact ⟨acc, accv, Z3, _, T', rest', e2, ea⟩
          | true =>
            rw [if_pos rfl] at e1
            rw [if_pos rfl]
            obtain ⟨r, ρ4, e4, e1⟩ := Res.bind_ok e1
            refine ⟨Z3, ρ3, rl3, ?_⟩
            rw [e4]
            intro y Z4 H4 rl4 st4 lv4 q4
            cases ef : frz r ρ4 with
            | none => rw [ef] at e1; cases e1
            | some pq =>
              obtain ⟨w', ρ5⟩ := pq
              rw [ef] at e1
              cases e1
              obtain ⟨Z5, _, rl5, st5, lv5, rp5⟩ := frz_ok st4 q4.2 q4.1 rl4 ef
              have T' := (T3.go rl5 st5 (lv4.trans lv5)).wip no0 hset
              rw [ew] at T'
              refine ⟨acc, T'.hL, acc_room T'.rp ea hl, acc ++ [y], accv ++ [w'], Z5, _, T'.push hL rp5, rest', e2, ?_⟩
              rw [ea, List.append_assoc]
              rfl
      · intro Hc ⟨acc, accv, Zc, ρc, T, rest, er, ea⟩
        rw [List.drop_length] at er
        cases er
        rw [List.append_nil] at ea
        subst ea
        obtain ⟨rlf, stf, lvf, owf⟩ := comp_exit (r := p.1) rl1 T.rl T.st T.lv hset
        refine h (.ref L) Zc Hc rlf (st1.trans stf) (lv1.trans lvf) ⟨⟨L, acc, rfl, T.nz, fun o => ?_, T.hL, T.rp⟩, fun a e => by cases e; exact st1.tr L hL⟩
        rcases owf L o with o | o
        · obtain ⟨_, xs, hx⟩ := rl1.own o
          rw [hL] at hx
          cases hx
        · exact T.nw o
    · rw [if_neg hl] at h
      exact h.elim
variable {t2 : Tg} {fi2 : Ic} {fc2 : Cc} {pr2 : Bool}
theorem no_of (rl : Rl D Z ρ σ H) (h : ∀ j ∈ is, ∀ x, σ[j]? ≠ some (some x)) : ∀ j ∈ is, get ρ j = .no := fun j hj => by
  have s := rl.slot j
  cases g : get ρ j with
  | no => rfl
  | sh l v =>
    rw [g] at s
    obtain ⟨x, e, _⟩ := s
    exact absurd e (h j hj x)
  | ow l v =>
    rw [g] at s
    obtain ⟨a, xs, e, _⟩ := s
    exact absurd e (h j hj _)
  | rd l v =>
    rw [g] at s
    obtain ⟨a, xs, e, _⟩ := s
    exact absurd e (h j hj _)
def delL (H : Hp) (L : Addr) : Hp := fun a => if a = L then none else H a
theorem delL_ne {H : Hp} {L a : Addr} (h : a ≠ L) : delL H L a = H a := if_neg h
theorem delL_same {H : Hp} {L : Addr} : delL H L L = none := if_pos rfl
theorem delL_grow {H : Hp} {L : Addr} : Grow (delL H L) H := fun a o e => by
  by_cases h : a = L
  · rw [h, delL_same] at e; cases e
  · rw [delL_ne h] at e; exact e
theorem tgSet.mono {is' : List Nat} (h : tgSet is σ σ') (k : ∀ i ∈ is, i ∈ is') : tgSet is' σ σ' := ⟨h.1, fun j n => h.2 j fun m => n (k j m)⟩
/-- two clauses -/
theorem comp2_core (hK : D.K = K) (hp : pr = true → ∃ is, t = .tup is) (hp2 : pr2 = true → ∃ is, t2 = .tup is) (hset : ∀ i, i ∈ vs ↔ i ∈ tgs t ++ tgs t2) (apart : ∀ i ∈ tgs t2, i ∉ tgs t) (h : RdE D W (cComp2 t fi fc t2 fi2 fc2 fe) σ H Q) :
    tLc2 (RdI pr D W fi) (gTg K t) (Rd D WF relQ fc) (RdI pr2 D WF fi2) (gTg K t2) (Rd D WF relQ fc2) (RdE D WF fe) vs (tgs t2) σ H Q := by
  obtain ⟨Z, ρ, rl, h⟩ := h
  refine ⟨Z, ρ, rl, Post.bind h fun p ρ1 J Z1 H1 _ rl1 st1 lv1 hJ h => ?_⟩
  obtain ⟨G, Y, w, hG, kG, items⟩ := hJ
  intro L hL
  split at h
  rotate_left
  · exact h.elim
  cases hc : compLoop2 (compBody2 t fc t2 fi2 fc2 fe) p.2 (wipes (tgs t ++ tgs t2) (lockR p.1 ρ1)) with
  | stuck => rw [hc] at h; exact h.elim
  | exc k e ρ' => rw [hc] at h; exact h.elim
  | ok ws ρ' =>
    rw [hc] at h
    simp only [Res.held, Res.bind] at h
    by_cases hl : len ws ≤ line
    · rw [if_pos hl] at h
      have rw1 : Rl D Z1 (wipes (tgs t ++ tgs t2) (lockR p.1 ρ1)) (wipe σ vs) H1 := (rl1.lock (r := p.1)).wipes hset
      have no0 : ∀ j ∈ tgs t ++ tgs t2, get (wipes (tgs t ++ tgs t2) (lockR p.1 ρ1)) j = .no := fun j hj => by rw [get_wipes, if_pos hj]
      have no1 : ∀ j ∈ tgs t, get (wipes (tgs t ++ tgs t2) (lockR p.1 ρ1)) j = .no := fun j hj => no0 j (List.mem_append_left _ hj)
      have no2 : ∀ j ∈ tgs t2, get (wipes (tgs t ++ tgs t2) (lockR p.1 ρ1)) j = .no := fun j hj => no0 j (List.mem_append_right _ hj)
      -- forgetting the first target's names is all, where the second's are forgotten already
      have wip1 : ∀ {accv acc Zc ρc σ2 Hc}, Turned D Z1 (wipes (tgs t ++ tgs t2) (lockR p.1 ρ1)) (wipe σ vs) H1 L accv acc Zc ρc σ2 Hc → tgSet (tgs t) (wipe σ vs) σ2 → Turned D Z1 (wipes (tgs t ++ tgs t2) (lockR p.1 ρ1)) (wipe σ vs) H1 L accv acc Zc (wipes (tgs t) ρc) (wipe σ vs) Hc := fun {accv acc Zc ρc σ2 Hc} T ts => by
        have T' := T.wip (vs := tgs t) no1 fun i => .rfl
        have e : wipe σ2 (tgs t) = wipe σ vs := by
          refine List.ext_getElem? fun j => ?_
          rw [wipe_get]
          have hlen : σ2.length = σ.length := by rw [ts.1, wipe_length]
          by_cases hj : j ∈ tgs t
          · rw [wipe_get]
            by_cases hb : j < σ.length
            · rw [if_pos ⟨hj, by omega⟩, if_pos ⟨(hset j).mpr (List.mem_append_left _ hj), hb⟩]
            · rw [if_neg (fun z => hb (by omega)), if_neg (fun z => hb z.2), List.getElem?_eq_none (by omega), List.getElem?_eq_none (by omega)]
          · rw [if_neg (fun z => hj z.1), ts.2 j hj]
        rw [e] at T'
        exact T'
      refine it_gen w (fun i Hc => ∃ acc accv Zc ρc, Turned D Z1 (wipes (tgs t ++ tgs t2) (lockR p.1 ρ1)) (wipe σ vs) H1 L accv acc Zc ρc (wipe σ vs) Hc ∧ ∃ rest, compLoop2 (compBody2 t fc t2 fi2 fc2 fe) (p.2.drop i) ρc = .ok rest ρ' ∧ ws = accv ++ rest)
        ⟨[], [], Z1, _, .start rw1 hL, ws, hc, rfl⟩ (fun i Hc _ ⟨acc, accv, Zc, ρc, T, _⟩ => kG Hc fun a o e nw _ => T.st.fr a o e fun w => nw (wr_wipes hset w)) ?_ ?_
      · intro i x Hc Hx hi ⟨acc, accv, Zc, ρc, T, rest, er, ea⟩ y
        have hGc : G Hc := kG Hc fun a o e nw _ => T.st.fr a o e fun w => nw (wr_wipes hset w)
        obtain ⟨v, hv, it⟩ := items i x Hc Hx hGc y
        rw [drop_at hv] at er
        obtain ⟨o, ρd, e1, er⟩ := Res.bind_ok er
        obtain ⟨rest', ρe, e2, er⟩ := Res.bind_ok er
        cases er
        unfold compBody2 at e1
        cases et : tgt t v ρc with
        | none => rw [et] at e1; cases e1
        | some ρ2 =>
          rw [et] at e1
          obtain ⟨k, ρ3, e3, e1⟩ := Res.bind_ok e1
          refine tg_ok hK (it Zc T.st.z (T.st.kp rw1)) et hp T.rl fun σ2 tset rl2 st2 => ?_
          have ew := wipe_eq hset (tset.mono fun i hi => List.mem_append_left _ hi)
          refine ⟨ew, Zc, ρ2, rl2, ?_⟩
          rw [e3]
          intro b Z3 H3 rl3 st3 lv3 eb
          cases eb
          have T3 := T.go rl3 (st2.trans st3) ((lv_tgt et).trans lv3)
          cases k with
          | false =>
            cases e1
            exact ⟨acc, accv, Z3, _, wip1 T3 tset, rest', e2, ea⟩
          | true =>
            rw [if_pos rfl] at e1
            rw [if_pos rfl]
            obtain ⟨p2, ρ4, e4, e1⟩ := Res.bind_ok e1
            obtain ⟨ws2, ρ9, e5, e1⟩ := Res.bind_ok e1
            cases e1
            refine ⟨Z3, ρ3, rl3, ?_⟩
            rw [e4]
            intro J1 Z4 H4 rl4 st4 lv4 hJ1
            obtain ⟨G1, Y1, w1, hG1, kG1, items1⟩ := hJ1
            have T4 := T3.go rl4 st4 lv4
            have T4l := T4.go (rl4.lock (r := p2.1)) .lock (fun j h => by rw [live_lock]; exact h)
            -- the second target's names are forgotten there
            have e20 : wipe σ2 (tgs t2) = σ2 := by
              refine List.ext_getElem? fun j => ?_
              rw [wipe_get]
              by_cases hj : j ∈ tgs t2 ∧ j < σ2.length
              · rw [if_pos hj, tset.2 j (apart j hj.1), wipe_get, if_pos ⟨(hset j).mpr (List.mem_append_right _ hj.1), by have := tset.1; rw [wipe_length] at this; omega⟩]
              · rw [if_neg hj]
            have no20 : ∀ j ∈ tgs t2, get (lockR p2.1 ρ4) j = .no := no_of T4l.rl fun j hj x hx => by
              rw [tset.2 j (apart j hj), wipe_get] at hx
              split at hx
              · cases hx
              · rename_i hn
                have hb : σ.length ≤ j := by
                  by_cases hb : j < σ.length
                  · exact absurd ⟨(hset j).mpr (List.mem_append_right _ hj), hb⟩ hn
                  · omega
                rw [List.getElem?_eq_none hb] at hx
                cases hx
            have Tin : Turned D Z4 (lockR p2.1 ρ4) σ2 (delL H4 L) L accv acc Z4 (lockR p2.1 ρ4) σ2 H4 := ⟨T4l.rl, .grow (delL_grow), .refl, T4l.hL, T4l.nz, T4l.nw, T4l.rp⟩
            have kG1' : ∀ {accv acc Zi ρi Hi}, Turned D Z4 (lockR p2.1 ρ4) σ2 (delL H4 L) L accv acc Zi ρi σ2 Hi → G1 Hi := fun T => kG1 _ fun a o e nw hh => by
              refine T.st.fr a o ?_ nw
              by_cases ea : a = L
              · subst ea
                rcases hh with h | h | h | h
                · exact absurd h T4.nz
                · exact absurd h T4.nw
                · rw [T3.hL] at h; cases h
                · rw [T4.hL] at e
                  exact absurd (Option.some.inj e).symm (h acc)
              · rw [delL_ne ea]; exact e
            refine it_gen w1 (fun j Hi => ∃ acc' accv' Zi ρi, Turned D Z1 (wipes (tgs t ++ tgs t2) (lockR p.1 ρ1)) (wipe σ vs) H1 L accv' acc' Zi ρi σ2 Hi ∧ Turned D Z4 (lockR p2.1 ρ4) σ2 (delL H4 L) L accv' acc' Zi ρi σ2 Hi ∧
                ∃ rest2, compLoop (compBody t2 fc2 fe) (p2.2.drop j) ρi = .ok rest2 ρ9 ∧ accv ++ o = accv' ++ rest2)
              ⟨acc, accv, Z4, _, T4l, Tin, o, e5, rfl⟩ (fun j Hi _ ⟨acc', accv', Zi, ρi, _, T', _⟩ => kG1' T') ?_ ?_
            · intro j x2 Hi Hx2 hj ⟨acc', accv', Zi, ρi, To, Ti, rest2, er2, ea2⟩ y2
              obtain ⟨v2, hv2, it2⟩ := items1 j x2 Hi Hx2 (kG1' Ti) y2
              rw [drop_at hv2] at er2
              obtain ⟨o2, ρd2, e12, er2⟩ := Res.bind_ok er2
              obtain ⟨rest3, ρe2, e22, er2⟩ := Res.bind_ok er2
              cases er2
              unfold compBody at e12
              cases et2 : tgt t2 v2 ρi with
              | none => rw [et2] at e12; cases e12
              | some ρ5 =>
                rw [et2] at e12
                obtain ⟨k2, ρ6, e32, e12⟩ := Res.bind_ok e12
                have kp : Kp Z4 H4 Hi := fun a u e h => by
                  have ne : a ≠ L := fun q => by
                    subst q
                    rcases h with h | h
                    · exact T4.nz h
                    · rw [T4.hL] at e
                      exact h acc (Option.some.inj e).symm
                  refine Ti.st.fr a u (by rw [delL_ne ne]; exact e) fun w => ?_
                  obtain ⟨nz, xs, hx⟩ := T4l.rl.own w.ow
                  rcases h with h | h
                  · exact nz h
                  · rw [e] at hx
                    exact h xs (Option.some.inj hx)
                rw [e20]
                refine tg_ok hK (it2 Zi Ti.st.z kp) et2 hp2 To.rl fun σ3 tset2 rl5 st5 => ?_
                have ew2 : wipe σ3 (tgs t2) = wipe σ2 (tgs t2) := wipe_eq (fun i => .rfl) (by rw [e20]; exact tset2)
                have ew3 : wipe σ3 (tgs t2) = σ2 := ew2.trans e20
                refine ⟨ew3, Zi, ρ5, rl5, ?_⟩
                rw [e32]
                intro b Z6 H6 rl6 st6 lv6 eb
                cases eb
                have To6 := To.go rl6 (st5.trans st6) ((lv_tgt et2).trans lv6)
                have Ti6 := Ti.go rl6 (st5.trans st6) ((lv_tgt et2).trans lv6)
                cases k2 with
                | false =>
                  cases e12
                  have To' := To6.wip (vs := tgs t2) no2 fun i => .rfl
                  have Ti' := Ti6.wip (vs := tgs t2) no20 fun i => .rfl
                  rw [ew3] at To' Ti'
                  exact ⟨acc', accv', Z6, _, To', Ti', rest3, e22, ea2⟩
                | true =>
                  rw [if_pos rfl] at e12
                  rw [if_pos rfl]
                  obtain ⟨r7, ρ7, e42, e12⟩ := Res.bind_ok e12
                  refine ⟨Z6, ρ6, rl6, ?_⟩
                  rw [e42]
                  intro y7 Z7 H7 rl7 st7 lv7 q7
                  cases ef : frz r7 ρ7 with
                  | none => rw [ef] at e12; cases e12
                  | some pq =>
                    obtain ⟨w', ρ8⟩ := pq
                    rw [ef] at e12
                    cases e12
                    obtain ⟨Z8, _, rl8, st8, lv8, rp8⟩ := frz_ok st7 q7.2 q7.1 rl7 ef
                    have To' := (To6.go rl8 st8 (lv7.trans lv8)).wip (vs := tgs t2) no2 fun i => .rfl
                    have Ti' := (Ti6.go rl8 st8 (lv7.trans lv8)).wip (vs := tgs t2) no20 fun i => .rfl
                    rw [ew3] at To' Ti'
                    have room : acc'.length < sizeLine := acc_room (rest := rest3 ++ rest') To'.rp (by rw [ea, ← List.append_assoc, ea2, List.append_assoc]; rfl) hl
                    refine ⟨acc', To'.hL, room, acc' ++ [y7], accv' ++ [w'], Z8, _, To'.push hL rp8, Ti'.push delL_same rp8, rest3, e22, ?_⟩
                    rw [ea2, List.append_assoc]
                    rfl
            · intro Hi ⟨acc', accv', Zi, ρi, To, _, rest2, er2, ea2⟩
              rw [List.drop_length] at er2
              cases er2
              rw [List.append_nil] at ea2
              refine ⟨acc', accv', Zi, _, wip1 To tset, rest', e2, ?_⟩
              rw [ea, ← List.append_assoc, ea2]
      · intro Hc ⟨acc, accv, Zc, ρc, T, rest, er, ea⟩
        rw [List.drop_length] at er
        cases er
        rw [List.append_nil] at ea
        subst ea
        obtain ⟨rlf, stf, lvf, owf⟩ := comp_exit (r := p.1) rl1 T.rl T.st T.lv hset
        refine h (.ref L) Zc Hc rlf (st1.trans stf) (lv1.trans lvf) ⟨⟨L, acc, rfl, T.nz, fun o => ?_, T.hL, T.rp⟩, fun a e => by cases e; exact st1.tr L hL⟩
        rcases owf L o with o | o
        · obtain ⟨_, xs, hx⟩ := rl1.own o
          rw [hL] at hx
          cases hx
        · exact T.nw o
    · rw [if_neg hl] at h
      exact h.elim
end
section
variable {D : Dom} {X : Cx} {elt tg iter : Expr} {ifs : List Expr} {scope : Scope} {own : List (Str × Nat)} {pos : Pos} {t : Tg} {fi : Ic} {fc : Cc} {fe : Ec} {pr : Bool}
/-- a comprehension's clause and element, in its block -/
structure BlOk (D : Dom) (X : Cx) (elt tg : Expr) (ifs : List Expr) (scope : Scope) (t : Tg) (fc : Cc) (fe : Ec) : Prop where
  tg : ∀ (s : Shared) (H : Hp) (C : Addr) (cl : List (Str × Addr)) (fp : List Addr), TgOk (X.blk s H scope (compEnvC scope cl C X.env) fp) tg t
  ifs : ∀ (s : Shared) (H : Hp) (C : Addr) (cl : List (Str × Addr)) (fp : List Addr), COk D (X.blk s H scope (compEnvC scope cl C X.env) fp) ifs fc
  elt : ∀ (s : Shared) (H : Hp) (C : Addr) (cl : List (Str × Addr)) (fp : List Addr), EOk D (X.blk s H scope (compEnvC scope cl C X.env) fp) elt fe
theorem ok_comp (hK : D.K = X.K) (hc : X.calm = true) (hN : X.N.Nodup) (ok : BlkOk X.N X.env.scope scope own) (hset : ∀ i, i ∈ own.map (·.2) ↔ i ∈ tgs t) (hp : pr = true → ∃ is, t = .tup is) (hi : IOk pr D X tg iter fi) (hb : BlOk D X elt tg ifs scope t fc fe) :
    EOk D X (.ListComp elt [⟨tg, iter, ifs, 0⟩] scope pos) (cComp t fi fc fe) :=
  .mk' (fun W tk => ⟨fun pins s σ H Q I h => (pe_lc hc hN (hi.pi W tk) ok (fun s H C cl fp => (hb.tg s H C cl fp).pg hc) (fun s H C cl fp => (hb.ifs s H C cl fp).pt _ takes0) (fun s H C cl fp => (hb.elt s H C cl fp).pe _ takes0) (hi.fold X.env)).run pins s σ H Q I (comp_core hK hp hset h)⟩) rfl (fun _ => rfl)
variable {tg1 iter1 : Expr} {ifs1 : List Expr} {t2 : Tg} {fi2 : Ic} {fc2 : Cc} {pr2 : Bool}
theorem ok_comp2 (hK : D.K = X.K) (hc : X.calm = true) (hN : X.N.Nodup) (ok : BlkOk X.N X.env.scope scope own) (hset : ∀ i, i ∈ own.map (·.2) ↔ i ∈ tgs t ++ tgs t2) (apart : ∀ i ∈ tgs t2, i ∉ tgs t) (hp : pr = true → ∃ is, t = .tup is) (hp2 : pr2 = true → ∃ is, t2 = .tup is)
    (hi : IOk pr D X tg iter fi) (hb : BlOk D X elt tg ifs scope t fc fe) (hb2 : BlOk D X elt tg1 ifs1 scope t2 fc2 fe) (hi1 : ∀ (s : Shared) (H : Hp) (C : Addr) (cl : List (Str × Addr)) (fp : List Addr), IOk pr2 D (X.blk s H scope (compEnvC scope cl C X.env) fp) tg1 iter1 fi2)
    (hf : ∀ env x, foldedSetIterable iter1 env x = pure x) :
    EOk D X (.ListComp elt [⟨tg, iter, ifs, 0⟩, ⟨tg1, iter1, ifs1, 0⟩] scope pos) (cComp2 t fi fc t2 fi2 fc2 fe) :=
  .mk' (fun W tk => ⟨fun pins s σ H Q I h => (pe_lc2 hc hN (hi.pi W tk) ok (fun i hi => (hset i).mpr (List.mem_append_right _ hi)) (fun s H C cl fp => (hb.tg s H C cl fp).pg hc) (fun s H C cl fp => (hb.ifs s H C cl fp).pt _ takes0)
    (fun s H C cl fp => (hi1 s H C cl fp).pi _ takes0) (fun s H C cl fp => (hb2.tg s H C cl fp).pg hc) (fun s H C cl fp => (hb2.ifs s H C cl fp).pt _ takes0) (fun s H C cl fp => (hb.elt s H C cl fp).pe _ takes0) (hi.fold X.env) hf).run pins s σ H Q I (comp2_core hK hp hp2 hset apart h)⟩) rfl (fun _ => rfl)
end
end Ev

/-! Ev17: statements. -/
namespace Ev
open PySem PySem.Spec PyProof.Rows L2
/-- a new list was none's, or a local's own -/
def FreshO (H : Hp) (ρ : Env) (σ : St) (r : R) (x : V) : Prop := match r with
  | .fresh _ => ∀ a, x = .ref a → H a = none ∨ ∃ i, OwnAt ρ σ i a ∧ locked (get ρ i) = false
  | _ => True
theorem FreshO.back {Z Z' : Addr → Prop} {ρ ρ1 : Env} {σ σ1 : St} {H H1 : Hp} {r : R} {x : V} (h : FreshO H1 ρ1 σ1 r x) (st : Stp Z ρ σ H Z' ρ1 σ1 H1) : FreshO H ρ σ r x := by
  cases r with
  | fresh vs =>
    intro a e
    rcases h a e with h | ⟨i, h, hl⟩
    · exact .inl (st.tr a h)
    · rcases st.ow1 i a h with h | h
      · refine .inr ⟨i, h, ?_⟩
        cases q : locked (get ρ i) with
        | false => rfl
        | true =>
          rw [(st.lk i q).1] at hl
          cases hl
      · exact .inl h
  | _ => trivial
theorem Fresh.o {ρ : Env} {σ : St} {H : Hp} {r : R} {x : V} (h : Fresh H r x) : FreshO H ρ σ r x := by
  cases r with
  | fresh vs => exact fun a e => .inl (h a e)
  | _ => trivial
def PostS (D : Dom) (W : WX) (Z : Addr → Prop) (ρ : Env) (σ : St) (H : Hp) (r : SRes) (E : Ends) : Prop :=
  match r with
  | .next ρ' => ∀ σ' Z' H', Rl D Z' ρ' σ' H' → Stp Z ρ σ H Z' ρ' σ' H' → E.nx σ' H'
  | .ret r ρ' => ∀ x σ' Z' H', Rl D Z' ρ' σ' H' → Stp Z ρ σ H Z' ρ' σ' H' → RRel D Z' H' ρ' σ' r x → FreshO H ρ σ r x → (∀ i, r ≠ .slot i) → E.rt x H'
  | .exc k p ρ' => ∀ cls d σ' Z' H', Rl D Z' ρ' σ' H' → Stp Z ρ σ H Z' ρ' σ' H' → XR D Z' H' k p cls d → W cls d σ' H'
  | .stuck => False
def RdS (D : Dom) (W : WX) (f : Sc) : TS := fun E σ H => ∃ Z ρ, Rl D Z ρ σ H ∧ PostS D W Z ρ σ H (f ρ) E
structure SOk (D : Dom) (X : Cx) (st : Stmt) (f : Sc) : Prop where
  ps : ∀ W, Takes X W → PassesOwn (model X.prog X.w) X.A X.env X.xe → PS X st (RdS D W f)
structure SsOk (D : Dom) (X : Cx) (sts : List Stmt) (f : Sc) : Prop where
  ps : ∀ W, Takes X W → PassesOwn (model X.prog X.w) X.A X.env X.xe → PSs X sts (RdS D W f)
section
variable {D : Dom} {W : WX} {Z Z' Z2 : Addr → Prop} {ρ ρ' ρ1 ρ2 : Env} {σ σ' σ1 σ2 : St} {H H' H1 H2 : Hp} {r : R} {E : Ends} {res : SRes}
theorem PostS.on (h : PostS D W Z ρ σ H res E) (st : Stp Z ρ σ H Z' ρ1 σ1 H1) : PostS D W Z' ρ1 σ1 H1 res E := by
  cases res with
  | next ρ' => exact fun σ' Z' H' rl s => h σ' Z' H' rl (st.trans s)
  | ret r ρ' => exact fun x σ' Z' H' rl s q f n => h x σ' Z' H' rl (st.trans s) q (f.back st) n
  | exc k p ρ' => exact fun cls d σ' Z' H' rl s x => h cls d σ' Z' H' rl (st.trans s) x
  | stuck => exact h
/-- an expression ahead -/
theorem PostS.then {α β : Type} {rel : Hp → (Addr → Prop) → Hp → Env → α → β → Prop} {x : Res α} {f : α → Env → SRes} {Q : β → Hp → Prop} (h : PostS D W Z ρ σ H (x.then f) E)
    (k : ∀ a ρ1 b Z1 H1, x = .ok a ρ1 → Rl D Z1 ρ1 σ H1 → Stp Z ρ σ H Z1 ρ1 σ H1 → Lv ρ ρ1 → rel H Z1 H1 ρ1 a b → PostS D W Z ρ σ H (f a ρ1) E → Q b H1) : Post D W Z ρ σ H rel x Q := by
  cases x with
  | ok a ρ1 => exact fun b Z1 H1 rl st lv r => k a ρ1 b Z1 H1 rfl rl st lv r h
  | exc kk p ρ1 => exact fun cls d Z' H' rl st lv x => h cls d σ Z' H' rl st x
  | stuck => exact h
theorem rd_cons {f g : Sc} (h : RdS D W (sCons f g) E σ H) : tSeq (RdS D W f) (RdS D W g) E σ H := by
  obtain ⟨Z, ρ, rl, h⟩ := h
  refine ⟨Z, ρ, rl, ?_⟩
  simp only [sCons] at h
  cases e : f ρ with
  | next ρ1 =>
    rw [e] at h
    exact fun σ' Z' H' rl' st => ⟨Z', ρ1, rl', PostS.on h st⟩
  | ret r ρ1 => rw [e] at h; exact h
  | exc k p ρ1 => rw [e] at h; exact h
  | stuck => rw [e] at h; exact h
end
section
variable {D : Dom} {X : Cx} {st : Stmt} {sts : List Stmt} {f g : Sc}
theorem ss_nil : SsOk D X [] sNil := ⟨fun W tk hp => ⟨fun pins s σ H E I h => pss_nil.run pins s σ H E I (by
  obtain ⟨Z, ρ, rl, h⟩ := h
  exact h σ Z H rl .refl)⟩⟩
theorem ss_cons (h : SOk D X st f) (t : SsOk D X sts g) : SsOk D X (st :: sts) (sCons f g) := ⟨fun W tk hp => ⟨fun pins s σ H E I q => (pss_cons (h.ps W tk hp) (t.ps W tk hp)).run pins s σ H E I (rd_cons q)⟩⟩
end
/-! ### stores -/
section
variable {D : Dom} {W : WX} {Z Z' Z2 : Addr → Prop} {ρ ρ' ρ1 ρ2 ρ3 : Env} {σ σ' σ1 σ2 : St} {H H' H1 H2 : Hp} {r : R} {E : Ends} {x : V} {i : Nat} {s : Sl}
/-- what is to be stored, beside the state that it leaves -/
inductive Sto1 (D : Dom) (H0 : Hp) (Z : Addr → Prop) (ρ : Env) (σ : St) (H : Hp) : Sl → V → Prop where
  | sh {v : Val} {x : V} (q : Rep D Z H v x) : Sto1 D H0 Z ρ σ H (.sh false v) x
  | ow {vs : List Val} {xs : List V} {a : Addr} (nz : ¬ Z a) (no : ¬ Ow ρ σ a) (n : H0 a = none) (h : H a = some (.lst xs)) (q : Reps D Z H vs xs) : Sto1 D H0 Z ρ σ H (.ow false vs) (.ref a)
theorem toSl_ok {Z0 : Addr → Prop} {ρ0 : Env} {H0 : Hp} (st : Stp Z0 ρ0 σ H0 Z ρ σ H) (q : relE D σ H0 Z H ρ r x) (rl : Rl D Z ρ σ H) (e : toSl r ρ = some (s, ρ')) :
    ∃ Z', (∀ a, Z a → Z' a) ∧ Rl D Z' ρ' σ H ∧ Stp Z0 ρ0 σ H0 Z' ρ' σ H ∧ Lv ρ ρ' ∧ Sto1 D H0 Z' ρ' σ H s x := by
  cases r with
  | val v =>
    cases e
    exact ⟨Z, fun _ h => h, rl, st, .refl, .sh q.1⟩
  | fresh vs =>
    cases e
    obtain ⟨⟨a, xs, rfl, nz, no, ha, rp⟩, fr⟩ := q
    exact ⟨Z, fun _ h => h, rl, st, .refl, .ow nz no (fr a rfl) ha rp⟩
  | slot j =>
    obtain ⟨⟨v, ρ2⟩, e1, e⟩ := Option.map_eq_some_iff.mp e
    cases e
    obtain ⟨Z', a, b, c, d, rp⟩ := frz_ok st q.2 q.1 rl e1
    exact ⟨Z', a, b, c, d, .sh rp⟩
/-- the store itself -/
theorem sto_ok {Z0 : Addr → Prop} {ρ0 : Env} {H0 : Hp} {σ0 : St} (st : Stp Z0 ρ0 σ0 H0 Z ρ σ H) (rl : Rl D Z ρ σ H) (q : Sto1 D H0 Z ρ σ H s x) (e : sto ρ i s = some ρ') :
    Rl D Z ρ' (σ.set i (some x)) H ∧ Stp Z0 ρ0 σ0 H0 Z ρ' (σ.set i (some x)) H := by
  cases q with
  | sh q => exact ⟨rl.sto q e, st.trans (Stp.sto e)⟩
  | @ow vs xs a nz no n ha rp =>
    obtain ⟨hl, rfl⟩ := sto_free e
    have key : ∀ j b, owns (get (put ρ i (.ow false vs)) j) = true → (σ.set i (some (.ref a)))[j]? = some (some (.ref b)) → (j = i ∧ b = a) ∨ (j ≠ i ∧ get (put ρ i (.ow false vs)) j = get ρ j ∧ σ[j]? = some (some (.ref b))) := fun j b h1 h2 => by
      rcases get_put ρ i j (.ow false vs) with ⟨e, ⟨g, hl⟩ | ⟨g, _⟩⟩ | ⟨e, g⟩
      · rw [e, List.getElem?_set_self (by rw [← rl.len]; exact hl)] at h2
        cases h2
        exact .inl ⟨e, rfl⟩
      · rw [g] at h1; cases h1
      · rw [List.getElem?_set_ne (Ne.symm e)] at h2
        exact .inr ⟨e, g, h2⟩
    refine ⟨rl.set ⟨a, xs, rfl, nz, ha, rp⟩ fun _ b eb j _ h => ?_, ⟨st.z, st.zz, st.fr, st.tr, fun j b ⟨h1, h2⟩ => ?_, fun b ⟨j, h1, h2⟩ => ?_, fun j h => ⟨?_, ?_⟩, fun j h => ?_⟩⟩
    · cases eb
      exact no ⟨j, h⟩
    · rcases key j b h1 h2 with ⟨_, rfl⟩ | ⟨_, g, h2'⟩
      · exact .inr n
      · rw [g] at h1
        exact st.ow1 j b ⟨h1, h2'⟩
    · rcases key j b (writes_owns h1) h2 with ⟨_, rfl⟩ | ⟨_, g, h2'⟩
      · exact .inr n
      · rw [g] at h1
        exact st.wr b ⟨j, h1, h2'⟩
    · rw [lock_put (s := Sl.ow false vs) hl.symm]
      exact (st.lk j h).1
    · rw [List.getElem?_set_ne (fun e => ?_)]
      · exact (st.lk j h).2
      · subst e
        rw [(st.lk i h).1] at hl
        cases hl
    · rw [lock_put (s := Sl.ow false vs) hl.symm] at h
      exact st.lk2 j h
theorem rd_set {f : Ec} (h : RdS D W (sSet i f) E σ H) : tAsg (RdE D W f) (gName i) E σ H := by
  obtain ⟨Z, ρ, rl, h⟩ := h
  refine ⟨Z, ρ, rl, PostS.then h fun r ρ1 x Z1 H1 _ rl1 st1 lv1 q1 h => ?_⟩
  cases e1 : toSl r ρ1 with
  | none => rw [e1] at h; exact h.elim
  | some p =>
    obtain ⟨s, ρ2⟩ := p
    rw [e1] at h
    simp only [Option.bind_some] at h
    cases e2 : sto ρ2 i s with
    | none => rw [e2] at h; exact h.elim
    | some ρ3 =>
      rw [e2] at h
      obtain ⟨Z2, _, rl2, st2, _, q⟩ := toSl_ok st1 q1 rl1 e1
      obtain ⟨rl3, st3⟩ := sto_ok st2 rl2 q e2
      exact h _ Z2 H1 rl3 st3
end
section
variable {D : Dom} {X : Cx} {e : Expr} {f : Ec} {i : Nat} {x : Str} {p pos : Pos}
/-- a name that may be stored into -/
structure StOk (X : Cx) (i : Nat) (x : Str) : Prop where
  nd : X.N.Nodup
  ix : X.N[i]? = some x
  loc : Loc X.env.scope x
  fn : X.fn x = true ∨ X.env.scope.names.lookup x = some .local
theorem st_set (hn : StOk X i x) (he : EOk D X e f) (hs : swapsWith e (some (.Name x p)) pos.line X.env = pure false) : SOk D X (.Assign [.Name x p] e pos) (sSet i f) :=
  ⟨fun W tk hp => ⟨fun pins s σ H E I h => (ps_set hn.nd hn.ix hn.loc (he.pe W tk) hs hn.fn).run pins s σ H E I (rd_set h)⟩⟩
/-- name = [..] on one line -/
theorem st_setLc {elt tg iter : Expr} {ifs : List Expr} {scope : Scope} {own : List (Str × Nat)} {t : Tg} {fi : Ic} {fc : Cc} {fe : Ec} {pr : Bool} {cpos : Pos} (hK : D.K = X.K) (hc : X.calm = true) (hn : StOk X i x) (hl : X.env.scope.names.lookup x = some .local)
    (hsw : swapsWith (.ListComp elt [⟨tg, iter, ifs, 0⟩] scope cpos) (some (.Name x p)) pos.line X.env = pure true) (ok : BlkOk X.N X.env.scope scope own) (hset : ∀ i, i ∈ own.map (·.2) ↔ i ∈ tgs t) (hp : pr = true → ∃ is, t = .tup is) (hi : IOk pr D X tg iter fi) (hb : BlOk D X elt tg ifs scope t fc fe) :
    SOk D X (.Assign [.Name x p] (.ListComp elt [⟨tg, iter, ifs, 0⟩] scope cpos) pos) (sSet i (cComp t fi fc fe)) :=
  ⟨fun W tk _ => ⟨fun pins s σ H E I h => (ps_setLc hc hn.nd hn.ix hl hsw (hi.pi W tk) ok (fun s H C cl fp => (hb.tg s H C cl fp).pg hc) (fun s H C cl fp => (hb.ifs s H C cl fp).pt _ takes0) (fun s H C cl fp => (hb.elt s H C cl fp).pe _ takes0) (hi.fold X.env)).run pins s σ H E I
    (comp_core hK hp hset (rd_set h))⟩⟩
theorem st_setLc2 {elt tg iter : Expr} {ifs : List Expr} {scope : Scope} {own : List (Str × Nat)} {t : Tg} {fi : Ic} {fc : Cc} {fe : Ec} {pr : Bool} {cpos : Pos} {tg1 iter1 : Expr} {ifs1 : List Expr} {t2 : Tg} {fi2 : Ic} {fc2 : Cc} {pr2 : Bool} (hK : D.K = X.K) (hc : X.calm = true) (hn : StOk X i x) (hl : X.env.scope.names.lookup x = some .local)
    (hsw : swapsWith (.ListComp elt [⟨tg, iter, ifs, 0⟩, ⟨tg1, iter1, ifs1, 0⟩] scope cpos) (some (.Name x p)) pos.line X.env = pure true) (ok : BlkOk X.N X.env.scope scope own) (hset : ∀ i, i ∈ own.map (·.2) ↔ i ∈ tgs t ++ tgs t2) (apart : ∀ i ∈ tgs t2, i ∉ tgs t) (hp : pr = true → ∃ is, t = .tup is) (hp2 : pr2 = true → ∃ is, t2 = .tup is)
    (hi : IOk pr D X tg iter fi) (hb : BlOk D X elt tg ifs scope t fc fe) (hb2 : BlOk D X elt tg1 ifs1 scope t2 fc2 fe) (hi1 : ∀ (s : Shared) (H : Hp) (C : Addr) (cl : List (Str × Addr)) (fp : List Addr), IOk pr2 D (X.blk s H scope (compEnvC scope cl C X.env) fp) tg1 iter1 fi2)
    (hf : ∀ env x, foldedSetIterable iter1 env x = pure x) :
    SOk D X (.Assign [.Name x p] (.ListComp elt [⟨tg, iter, ifs, 0⟩, ⟨tg1, iter1, ifs1, 0⟩] scope cpos) pos) (sSet i (cComp2 t fi fc t2 fi2 fc2 fe)) :=
  ⟨fun W tk _ => ⟨fun pins s σ H E I h => (ps_setLc2 hc hn.nd hn.ix hl hsw (hi.pi W tk) ok (fun i hi => (hset i).mpr (List.mem_append_right _ hi)) (fun s H C cl fp => (hb.tg s H C cl fp).pg hc) (fun s H C cl fp => (hb.ifs s H C cl fp).pt _ takes0)
    (fun s H C cl fp => (hi1 s H C cl fp).pi _ takes0) (fun s H C cl fp => (hb2.tg s H C cl fp).pg hc) (fun s H C cl fp => (hb2.ifs s H C cl fp).pt _ takes0) (fun s H C cl fp => (hb.elt s H C cl fp).pe _ takes0) (hi.fold X.env) hf).run pins s σ H E I
    (comp2_core hK hp hp2 hset apart (rd_set h))⟩⟩
end
/-! ### control -/
section
variable {D : Dom} {W : WX} {Z Z' Z2 : Addr → Prop} {ρ ρ' ρ1 ρ2 ρ3 : Env} {σ σ' σ1 σ2 : St} {H H' H1 H2 : Hp} {r : R} {E : Ends} {x : V}
theorem PostS.imp {E' : Ends} {res : SRes} (h : PostS D W Z ρ σ H res E) (k : ∀ σ' H', E.nx σ' H' → E'.nx σ' H') (kr : ∀ x H', E.rt x H' → E'.rt x H') : PostS D W Z ρ σ H res E' := by
  cases res with
  | next ρ' => exact fun σ' Z' H' rl s => k _ _ (h σ' Z' H' rl s)
  | ret r ρ' => exact fun x σ' Z' H' rl s q f n => kr _ _ (h x σ' Z' H' rl s q f n)
  | exc k p ρ' => exact h
  | stuck => exact h
theorem rd_if {fc : Ec} {fa fb : Sc} (h : RdS D W (sIf fc fa fb) E σ H) : tIfS (RdT D W fc) (RdS D W fa) (RdS D W fb) E σ H := by
  obtain ⟨Z, ρ, rl, h⟩ := h
  refine ⟨Z, ρ, rl, PostS.then h fun b ρ1 b' Z1 H1 _ rl1 st1 lv1 q1 h => ?_⟩
  cases q1
  cases b with
  | true => exact ⟨Z1, ρ1, rl1, PostS.on h st1⟩
  | false => exact ⟨Z1, ρ1, rl1, PostS.on h st1⟩
theorem rd_ex {f : Ec} (h : RdS D W (sEx f) E σ H) : tDrop (RdE D W f) E σ H := by
  obtain ⟨Z, ρ, rl, h⟩ := h
  exact ⟨Z, ρ, rl, PostS.then h fun r ρ1 x Z1 H1 _ rl1 st1 lv1 q1 h => h σ Z1 H1 rl1 st1⟩
/-- a list of its own goes with the def's end -/
theorem retR_ok {Z0 : Addr → Prop} {ρ0 : Env} {H0 : Hp} {r' : R} (st : Stp Z0 ρ0 σ H0 Z ρ σ H) (q : relE D σ H0 Z H ρ r x) (rl : Rl D Z ρ σ H) (e : retR r ρ = some (r', ρ')) :
    ∃ Z', Rl D Z' ρ' σ H ∧ Stp Z0 ρ0 σ H0 Z' ρ' σ H ∧ RRel D Z' H ρ' σ r' x ∧ FreshO H0 ρ0 σ r' x ∧ ∀ i, r' ≠ .slot i := by
  cases r with
  | val v =>
    cases e
    exact ⟨Z, rl, st, q.1, trivial, fun _ z => nomatch z⟩
  | fresh vs =>
    cases e
    exact ⟨Z, rl, st, q.1, Fresh.o q.2, fun _ z => nomatch z⟩
  | slot i =>
    obtain ⟨⟨lv, hx⟩, fr⟩ := q
    have s := rl.slot i
    simp only [retR] at e
    -- handed out
    have out : ∀ {vs : List Val}, owns (get ρ i) = true → locked (get ρ i) = false → (∃ a xs, σ[i]? = some (some (.ref a)) ∧ ¬ Z a ∧ H a = some (.lst xs) ∧ Reps D Z H vs xs) →
        ∃ Z', Rl D Z' (put ρ i .no) σ H ∧ Stp Z0 ρ0 σ H0 Z' (put ρ i .no) σ H ∧ RRel D Z' H (put ρ i .no) σ (.fresh vs) x ∧ FreshO H0 ρ0 σ (.fresh vs) x ∧ ∀ j, R.fresh vs ≠ .slot j := fun {vs} ho hl ⟨a, xs, e1, nz, ha, rp⟩ => by
      rw [hx] at e1
      cases e1
      have no1 : ¬ Ow (put ρ i .no) σ a := fun ⟨j, h1, h2⟩ => by
        rcases get_put ρ i j .no with ⟨e, ⟨g, _⟩ | ⟨g, _⟩⟩ | ⟨ne, g⟩
        · rw [g] at h1; cases h1
        · rw [g] at h1; cases h1
        · rw [g] at h1
          exact ne (rl.apart j i a ⟨h1, h2⟩ ⟨ho, hx⟩)
      refine ⟨Z, rl.put trivial (fun z => nomatch z), st.trans (.mark (fun _ h => h) (fun _ h => .inl h) (fun z => nomatch z) (fun z => nomatch z) hl.symm), ⟨a, xs, rfl, nz, no1, ha, rp⟩, fun b eb => ?_, fun _ z => nomatch z⟩
      cases eb
      rcases st.ow1 i a ⟨ho, hx⟩ with h | h
      · refine .inr ⟨i, h, ?_⟩
        cases q : locked (get ρ0 i) with
        | false => rfl
        | true => rw [(st.lk i q).1] at hl; cases hl
      · exact .inl h
    have frozen : ∀ {lk : Bool} {vs : List Val}, frz (.slot i) ρ = some (.lst vs, put ρ i (.sh lk (.lst vs))) → ∃ Z', Rl D Z' (put ρ i (.sh lk (.lst vs))) σ H ∧ Stp Z0 ρ0 σ H0 Z' (put ρ i (.sh lk (.lst vs))) σ H ∧ RRel D Z' H (put ρ i (.sh lk (.lst vs))) σ (.val (.lst vs)) x ∧ FreshO H0 ρ0 σ (.val (.lst vs)) x ∧ ∀ j, R.val (.lst vs) ≠ .slot j := fun {lk vs} e => by
      obtain ⟨Z', _, a, b, _, rp⟩ := frz_ok (r := .slot i) st trivial ⟨lv, hx⟩ rl e
      exact ⟨Z', a, b, rp, trivial, fun _ z => nomatch z⟩
    cases g : get ρ i with
    | no => rw [g] at e; cases e
    | sh l w =>
      rw [g] at e s
      cases e
      obtain ⟨y, e1, q⟩ := s
      rw [hx] at e1
      cases e1
      exact ⟨Z, rl, st, q, trivial, fun _ z => nomatch z⟩
    | ow l vs =>
      rw [g] at e s
      cases l with
      | false =>
        cases e
        exact out (by rw [g]; rfl) (by rw [g]; rfl) s
      | true =>
        cases e
        exact frozen (by simp only [frz, g])
    | rd l vs =>
      rw [g] at e s
      cases l with
      | false =>
        cases e
        exact out (by rw [g]; rfl) (by rw [g]; rfl) s
      | true =>
        cases e
        exact frozen (by simp only [frz, g])
theorem rd_ret {f : Ec} (h : RdS D W (sRet f) E σ H) : tRet (RdE D W f) E σ H := by
  obtain ⟨Z, ρ, rl, h⟩ := h
  refine ⟨Z, ρ, rl, PostS.then h fun r ρ1 x Z1 H1 _ rl1 st1 lv1 q1 h => ?_⟩
  cases e1 : retR r ρ1 with
  | none => rw [e1] at h; exact h.elim
  | some p =>
    obtain ⟨r', ρ2⟩ := p
    rw [e1] at h
    obtain ⟨Z2, rl2, st2, rr, fo, ns⟩ := retR_ok st1 q1 rl1 e1
    exact h x σ Z2 H1 rl2 st2 rr fo ns
theorem rd_while {fc : Ec} {fb : Sc} (h : RdS D W (sWhile fc fb) E σ H) : tWhile (RdT D W fc) (RdS D W fb) E σ H := by
  obtain ⟨Z, ρ, rl, h⟩ := h
  simp only [sWhile] at h
  refine ⟨fun m σ H => ∃ Z ρ, Rl D Z ρ σ H ∧ PostS D W Z ρ σ H (whileLoop (tYes fc) fb m ρ) E, ⟨wfuel, Z, ρ, rl, h⟩, ?_⟩
  rintro m σ H ⟨Z, ρ, rl, h⟩
  cases m with
  | zero => exact h.elim
  | succ m =>
    refine ⟨Z, ρ, rl, PostS.then h fun b ρ1 b' Z1 H1 _ rl1 st1 lv1 q1 h => ?_⟩
    cases q1
    cases b with
    | false => exact h σ Z1 H1 rl1 st1
    | true =>
      rw [if_pos rfl] at h
      rw [if_pos rfl]
      refine ⟨fun σ' H' => ∃ Z ρ, Rl D Z ρ σ' H' ∧ PostS D W Z ρ σ' H' (whileLoop (tYes fc) fb m ρ) E, fun σ' H' q => ⟨m, Nat.lt_succ_self m, q⟩, Z1, ρ1, rl1, ?_⟩
      cases eb : fb ρ1 with
      | next ρ2 =>
        rw [eb] at h
        exact fun σ' Z' H' rl' st' => ⟨Z', ρ2, rl', PostS.on h (st1.trans st')⟩
      | ret r ρ2 =>
        rw [eb] at h
        exact PostS.on (W := W) (res := .ret r ρ2) (E := E) h st1
      | exc k p ρ2 =>
        rw [eb] at h
        exact PostS.on (W := W) (res := .exc k p ρ2) (E := E) h st1
      | stuck => rw [eb] at h; exact h
variable {K : PySem.W.Frag} {pr : Bool} {t : Tg} {fi : Ic} {fb : Sc}
theorem kw_lock {H0 : Hp} {Z0 : Addr → Prop} (st : Stp Z (lockR r ρ) σ H Z' ρ' σ' H') : KW H0 Z0 H r ρ σ H' := fun a o e nw _ => st.fr a o e nw
/-- a loop: what a turn leaves -/
theorem rd_for (hK : D.K = K) (hp : pr = true → ∃ is, t = .tup is) (h : RdS D W (sFor t fi fb) E σ H) : tFor (RdI pr D W fi) (gTg K t) (RdS D W fb) E σ H := by
  obtain ⟨Z, ρ, rl, h⟩ := h
  refine ⟨Z, ρ, rl, PostS.then h fun p ρ1 J Z1 H1 _ rl1 st1 lv1 hJ h => ?_⟩
  obtain ⟨G, Y, w, hG, kG, items⟩ := hJ
  -- the loop's end, unlocked
  have fin : ∀ {res : SRes}, PostS D W Z ρ σ H (res.unlock p.1 ρ1) E → ∀ {Zc ρc σc Hc}, Rl D Zc ρc σc Hc → Stp Z1 (lockR p.1 ρ1) σ H1 Zc ρc σc Hc → PostS D W Zc ρc σc Hc res E := fun {res} h {Zc ρc σc Hc} rlc stc => by
    cases res with
    | next ρ' =>
      intro σ' Z' H' rl' st'
      have s1 : Stp Z1 (lockR p.1 ρ1) σ H1 Z' ρ' σ' H' := stc.trans st'
      exact h σ' Z' H' rl'.unlock (st1.trans ((Stp.lock.trans s1).unlock s1.ow1))
    | ret r ρ' => exact PostS.on (res := .ret r ρ') (E := E) h ((st1.trans .lock).trans stc)
    | exc k q ρ' => exact PostS.on (res := .exc k q ρ') (E := E) h ((st1.trans .lock).trans stc)
    | stuck => exact h
  refine for_it w (fun i σc Hc => ∃ Zc ρc, Rl D Zc ρc σc Hc ∧ Stp Z1 (lockR p.1 ρ1) σ H1 Zc ρc σc Hc ∧ PostS D W Z ρ σ H ((forLoop (forBody t fb) (p.2.drop i) ρc).unlock p.1 ρ1) E)
    ⟨Z1, _, rl1.lock, .refl, h⟩ (fun i σc Hc _ ⟨Zc, ρc, _, stc, _⟩ => kG Hc (kw_lock stc)) ?_ ?_
  · intro i x σc Hc Hx hi ⟨Zc, ρc, rlc, stc, hc⟩ y
    obtain ⟨v, hv, it⟩ := items i x Hc Hx (kG Hc (kw_lock stc)) y
    rw [drop_at hv] at hc
    simp only [forLoop, forBody] at hc
    cases et : tgt t v ρc with
    | none => rw [et] at hc; exact hc.elim
    | some ρ2 =>
      rw [et] at hc
      simp only at hc
      refine tg_ok hK (it Zc stc.z (stc.kp rl1.lock)) et hp rlc fun σ2 _ rl2 st2 => ?_
      refine ⟨Zc, ρ2, rl2, ?_⟩
      have st3 := stc.trans st2
      cases eb : fb ρ2 with
      | next ρ3 =>
        rw [eb] at hc
        exact fun σ' Z' H' rl' st' => ⟨Z', ρ3, rl', st3.trans st', hc⟩
      | ret r ρ3 =>
        rw [eb] at hc
        exact fun x' σ' Z' H' rl' st' rr fo ns => fin (res := .ret r ρ3) hc rl2 st3 x' σ' Z' H' rl' st' rr fo ns
      | exc k q ρ3 =>
        rw [eb] at hc
        exact fun cls d σ' Z' H' rl' st' xr => fin (res := .exc k q ρ3) hc rl2 st3 cls d σ' Z' H' rl' st' xr
      | stuck => rw [eb] at hc; exact hc
  · intro σc Hc ⟨Zc, ρc, rlc, stc, hc⟩
    rw [List.drop_length] at hc
    exact fin (res := .next ρc) hc rlc stc σc Zc Hc rlc .refl
end
end Ev

/-! Ev18: statements that write; the statements' rules. -/
namespace Ev
open PySem PySem.Spec PyProof.Rows L2
section
variable {D : Dom} {W : WX} {Z Z' Z2 : Addr → Prop} {ρ ρ' ρ1 ρ2 ρ3 : Env} {σ σ' σ1 σ2 : St} {H H' H1 H2 : Hp} {r : R} {E : Ends} {x : V} {i : Nat}
theorem ownS_inv {k : SRes} (h : PostS D W Z ρ σ H (ownS i ρ2 k) E) : ∃ lk vs, get ρ2 i = .ow lk vs ∧ PostS D W Z ρ σ H k E := by
  unfold ownS at h
  split at h
  · rename_i lk vs e
    exact ⟨lk, vs, e, h⟩
  · exact h.elim
/-- an own list is written -/
theorem Rl.write {lk : Bool} {vs ws : List Val} {a : Addr} {xs ys : List V} (rl : Rl D Z ρ σ H) (g : get ρ i = .ow lk vs) (hx : σ[i]? = some (some (.ref a))) (ha : H a = some (.lst xs)) (nz : ¬ Z a) (rp : Reps D Z H ws ys) : Rl D Z (Ev.put ρ i (.ow lk ws)) σ (upd H a (.lst ys)) := by
  have kp : Kp Z H (upd H a (.lst ys)) := fun b o e h => by
    by_cases eb : b = a
    · subst eb
      rw [ha] at e
      cases e
      rcases h with h | h
      · exact absurd h nz
      · exact absurd rfl (h xs)
    · rw [upd_ne eb]; exact e
  have own : ∀ j b, OwnAt (Ev.put ρ i (.ow lk ws)) σ j b → OwnAt ρ σ j b := fun j b ⟨h1, h2⟩ => by
    rcases get_put ρ i j (.ow lk ws) with ⟨e, ⟨g', _⟩ | ⟨g', _⟩⟩ | ⟨_, g'⟩
    · exact ⟨by rw [e, g]; rfl, h2⟩
    · rw [g'] at h1; cases h1
    · rw [g'] at h1; exact ⟨h1, h2⟩
  refine ⟨fun j => ?_, fun j k b h1 h2 => rl.apart j k b (own j b h1) (own k b h2), by rw [put_length]; exact rl.len, fun b z => ?_⟩
  · rcases get_put ρ i j (.ow lk ws) with ⟨e, ⟨g', _⟩ | ⟨g', _⟩⟩ | ⟨ne, g'⟩
    · rw [g', e]
      exact ⟨a, ys, hx, nz, upd_same, rp.mono (fun _ h => h) kp⟩
    · rw [g']; trivial
    · rw [g']
      have s := rl.slot j
      have nea : owns (get ρ j) = true → ∀ b, σ[j]? = some (some (.ref b)) → b ≠ a := fun h b e z => by
        subst z
        exact ne (rl.apart j i b ⟨h, e⟩ ⟨by rw [g]; rfl, hx⟩)
      cases gj : get ρ j with
      | no => trivial
      | sh l v =>
        rw [gj] at s
        obtain ⟨x, e, q⟩ := s
        exact ⟨x, e, q.mono (fun _ h => h) kp⟩
      | ow l us =>
        rw [gj] at s
        obtain ⟨b, zs, e, nzb, hb, q⟩ := s
        exact ⟨b, zs, e, nzb, by rw [upd_ne (nea (by rw [gj]; rfl) b e)]; exact hb, q.mono (fun _ h => h) kp⟩
      | rd l us =>
        rw [gj] at s
        obtain ⟨b, zs, e, nzb, hb, q⟩ := s
        exact ⟨b, zs, e, nzb, by rw [upd_ne (nea (by rw [gj]; rfl) b e)]; exact hb, q.mono (fun _ h => h) kp⟩
  · by_cases eb : b = a
    · rw [eb, upd_same]; exact fun z => nomatch z
    · rw [upd_ne eb]; exact rl.zt b z
theorem Stp.write {lk : Bool} {vs ws : List Val} {a : Addr} {xs ys : List V} (g : get ρ i = .ow lk vs) (hx : σ[i]? = some (some (.ref a))) : Stp Z ρ σ H Z (Ev.put ρ i (.ow lk ws)) σ (upd H a (.lst ys)) := by
  refine ⟨fun _ h => h, fun _ h => .inl h, fun b o e w => ?_, fun b h => ?_, fun j b ⟨h1, h2⟩ => ?_, fun b ⟨j, h1, h2⟩ => ?_, fun j h => ⟨?_, rfl⟩, fun j h => ?_⟩
  · by_cases eb : b = a
    · subst eb
      exact absurd ⟨i, by rw [g]; rfl, hx⟩ w
    · rw [upd_ne eb]; exact e
  · by_cases eb : b = a
    · rw [eb, upd_same] at h; cases h
    · rw [upd_ne eb] at h; exact h
  · rcases get_put ρ i j (.ow lk ws) with ⟨e, ⟨g', _⟩ | ⟨g', _⟩⟩ | ⟨_, g'⟩
    · exact .inl ⟨by rw [e, g]; rfl, h2⟩
    · rw [g'] at h1; cases h1
    · rw [g'] at h1; exact .inl ⟨h1, h2⟩
  · rcases get_put ρ i j (.ow lk ws) with ⟨e, ⟨g', _⟩ | ⟨g', _⟩⟩ | ⟨_, g'⟩
    · exact .inl ⟨i, by rw [g]; rfl, by rw [← e]; exact h2⟩
    · rw [g'] at h1; cases h1
    · rw [g'] at h1; exact .inl ⟨j, h1, h2⟩
  · rw [lock_put (s := Sl.ow lk ws) (by rw [g]; rfl)]; exact h
  · rw [lock_put (s := Sl.ow lk ws) (by rw [g]; rfl)] at h; exact h
theorem Rl.owAt {lk : Bool} {vs : List Val} (rl : Rl D Z ρ σ H) (g : get ρ i = .ow lk vs) : ∃ a xs, σ[i]? = some (some (.ref a)) ∧ ¬ Z a ∧ H a = some (.lst xs) ∧ Reps D Z H vs xs := by
  have s := rl.slot i
  rw [g] at s
  exact s
theorem rd_app {f : Ec} (h : RdS D W (sApp i f) E σ H) : ∃ a xs, σ[i]? = some (some (.ref a)) ∧ H a = some (.lst xs) ∧ RdE D W f σ H fun y H1 => ∃ ys, H1 a = some (.lst ys) ∧ ys.length < sizeLine ∧ E.nx σ (upd H1 a (.lst (ys ++ [y]))) := by
  obtain ⟨Z, ρ, rl, h⟩ := h
  obtain ⟨lk, vs, g, h⟩ := ownS_inv h
  obtain ⟨a, xs, hx, nz, ha, rp⟩ := rl.owAt g
  refine ⟨a, xs, hx, ha, Z, ρ, rl, PostS.then h fun r ρ1 y Z1 H1 _ rl1 st1 lv1 q1 h => ?_⟩
  cases e1 : frz r ρ1 with
  | none => rw [e1] at h; exact h.elim
  | some p =>
    obtain ⟨w, ρ2⟩ := p
    rw [e1] at h
    obtain ⟨Z2, _, rl2, st2, _, rw2⟩ := frz_ok st1 q1.2 q1.1 rl1 e1
    simp only [appTo] at h
    cases g2 : get ρ2 i with
    | ow lk2 us =>
      rw [g2] at h
      simp only at h
      by_cases hl : len us < line
      · rw [if_pos hl] at h
        obtain ⟨b, ys, hb, nz2, hb2, rp2⟩ := rl2.owAt g2
        rw [hx] at hb
        cases hb
        refine ⟨ys, hb2, ?_, ?_⟩
        · rw [← rp2.len]
          have : line < sizeLine := by decide
          omega
        · exact h σ Z2 _ (rl2.write g2 hx hb2 nz2 (rp2.app (.cons rw2 .nil))) (st2.trans (.write (xs := ys) g2 hx))
      · rw [if_neg hl] at h; exact h.elim
    | no => rw [g2] at h; exact h.elim
    | sh _ _ => rw [g2] at h; exact h.elim
    | rd _ _ => rw [g2] at h; exact h.elim
theorem Reps.updL {vs : List Val} {xs : List V} {j : Nat} {v : Val} {x : V} (h : Reps D Z H vs xs) (q : Rep D Z H v x) : Reps D Z H (upd_ vs j v) (xs.set j x) := h.upd q
theorem rd_put {fk f : Ec} (h : RdS D W (sPut i fk f) E σ H) : RdE D W f σ H fun y H1 => ∃ a, σ[i]? = some (some (.ref a)) ∧ RdE D W fk σ H1 fun k H2 => rSetL (.ref a) k y H2 fun H3 => E.nx σ H3 := by
  obtain ⟨Z, ρ, rl, h⟩ := h
  refine ⟨Z, ρ, rl, PostS.then h fun r ρ1 y Z1 H1 _ rl1 st1 lv1 q1 h => ?_⟩
  cases e1 : frz r ρ1 with
  | none => rw [e1] at h; exact h.elim
  | some p =>
    obtain ⟨w, ρ2⟩ := p
    rw [e1] at h
    obtain ⟨Z2, _, rl2, st2, _, rw2⟩ := frz_ok st1 q1.2 q1.1 rl1 e1
    obtain ⟨lk, vs, g, h⟩ := ownS_inv h
    obtain ⟨a, xs, hx, nz, ha, rp⟩ := rl2.owAt g
    refine ⟨a, hx, Z2, ρ2, rl2, PostS.then (PostS.on h st2) fun rk ρ3 k Z3 H3 _ rl3 st3 lv3 q3 h => ?_⟩
    have key : ∃ j lk' us n, rk = .val (.int j) ∧ get ρ3 i = .ow lk' us ∧ place (len us) j = some n ∧ PostS D W Z2 ρ2 σ H1 (.next (put ρ3 i (.ow lk' (upd_ us n w)))) E := by
      cases rk with
      | val v =>
        cases v with
        | int j =>
          simp only [putAt] at h
          cases gu : get ρ3 i with
          | ow lk' us =>
            rw [gu] at h
            simp only at h
            cases en : place (len us) j with
            | none => rw [en] at h; exact h.elim
            | some n =>
              rw [en] at h
              exact ⟨j, lk', us, n, rfl, rfl, en, h⟩
          | no => rw [gu] at h; exact h.elim
          | sh _ _ => rw [gu] at h; exact h.elim
          | rd _ _ => rw [gu] at h; exact h.elim
        | _ => exact h.elim
      | _ => exact h.elim
    obtain ⟨j, lk', us, n, rfl, gu, en, h⟩ := key
    obtain ⟨b, ys, hb, nz3, hb3, rp3⟩ := rl3.owAt gu
    rw [hx] at hb
    cases hb
    obtain ⟨q3, _⟩ := q3
    cases q3
    refine ⟨a, ys, j, n, rfl, rfl, hb3, ?_, ?_⟩
    · rw [place_eq, rp3.len] at en
      exact en
    · exact h σ Z3 _ (rl3.write gu hx hb3 nz3 (rp3.updL (rw2.stp rl2 st3))) (st3.trans (.write (xs := ys) gu hx))
/-- several names -/
inductive StoL (D : Dom) (H0 : Hp) (Z : Addr → Prop) (ρ : Env) (σ : St) (H : Hp) : List Sl → List V → Prop where
  | nil : StoL D H0 Z ρ σ H [] []
  | cons {s : Sl} {x : V} {ss : List Sl} {xs : List V} (h : Sto1 D H0 Z ρ σ H s x) (ap : owns s = true → ∀ (i : Nat) s', ss[i]? = some s' → owns s' = true → xs[i]? ≠ some x) (t : StoL D H0 Z ρ σ H ss xs) : StoL D H0 Z ρ σ H (s :: ss) (x :: xs)
theorem Sto1.stp {s : Sl} {H0 : Hp} (h : Sto1 D H0 Z ρ σ H s x) (rl : Rl D Z ρ σ H) (st : Stp Z ρ σ H Z' ρ' σ' H) : Sto1 D H0 Z' ρ' σ' H s x := by
  cases h with
  | sh q => exact .sh (q.stp rl st)
  | ow nz no n h q =>
    refine .ow (fun z => ?_) (fun o => ?_) n h (q.stp rl st)
    · rcases st.zz _ z with z | z | z
      · exact nz z
      · exact no z
      · rw [h] at z; cases z
    · rcases st.ow _ o with z | z
      · exact no z
      · rw [h] at z; cases z
theorem RRels.stp {H0 : Hp} {rs : List R} {xs : List V} (h : RRels D σ H0 Z H ρ rs xs) (rl : Rl D Z ρ σ H) (st : Stp Z ρ σ H Z' ρ' σ H) (lv : Lv ρ ρ') : RRels D σ H0 Z' H ρ' rs xs := by
  induction h with
  | nil => exact .nil
  | cons h ap t ih => exact .cons ⟨h.1.stp rl st lv, h.2⟩ ap ih
theorem toSls_ok : ∀ {rs : List R} {xs : List V} {ρ ρ' : Env} {Z : Addr → Prop} {ss : List Sl} {H0 : Hp}, RRels D σ H0 Z H ρ rs xs → Rl D Z ρ σ H → toSls rs ρ = some (ss, ρ') →
    ∃ Z', Rl D Z' ρ' σ H ∧ Stp Z ρ σ H Z' ρ' σ H ∧ StoL D H0 Z' ρ' σ H ss xs ∧ ∀ (i : Nat) s, ss[i]? = some s → owns s = true → ∃ r, rs[i]? = some r ∧ isFr r = true
  | [], _, ρ, ρ', Z, ss, _, .nil, rl, e => by
    cases e
    exact ⟨Z, rl, .refl, .nil, fun i s e => by simp at e⟩
  | r :: rs, _, ρ, ρ', Z, ss, H0, .cons (x := x) (xs := xs) h ap t, rl, e => by
    obtain ⟨⟨s, ρ1⟩, e1, e⟩ := Option.bind_eq_some_iff.mp e
    obtain ⟨⟨ss', ρ2⟩, e2, e⟩ := Option.map_eq_some_iff.mp e
    cases e
    -- the first, as it stands
    have first : ∃ Z1, Rl D Z1 ρ1 σ H ∧ Stp Z ρ σ H Z1 ρ1 σ H ∧ Lv ρ ρ1 ∧ Sto1 D H0 Z1 ρ1 σ H s x ∧ (owns s = true → isFr r = true) := by
      cases r with
      | val v =>
        cases e1
        exact ⟨Z, rl, .refl, .refl, .sh h.1, fun z => nomatch z⟩
      | fresh vs =>
        cases e1
        obtain ⟨⟨a, xs', rfl, nz, no, ha, rp⟩, fr⟩ := h
        exact ⟨Z, rl, .refl, .refl, .ow nz no (fr a rfl) ha rp, fun _ => rfl⟩
      | slot j =>
        obtain ⟨⟨v, ρ3⟩, e3, e1⟩ := Option.map_eq_some_iff.mp e1
        cases e1
        obtain ⟨Z1, _, b, c, d, rp⟩ := frz_ok (r := .slot j) (x := x) .refl trivial h.1 rl e3
        exact ⟨Z1, b, c, d, .sh rp, fun z => nomatch z⟩
    obtain ⟨Z1, rl1, st1, lv1, q1, o1⟩ := first
    obtain ⟨Z2, rl2, st2, q2, o2⟩ := toSls_ok (t.stp rl st1 lv1) rl1 e2
    refine ⟨Z2, rl2, st1.trans st2, .cons (q1.stp rl1 st2) (fun hs i s' es hs' => ?_) q2, fun i s' es hs' => ?_⟩
    · obtain ⟨r', er, hr⟩ := o2 i s' es hs'
      exact ap (o1 hs) i r' er hr
    · cases i with
      | zero =>
        simp at es
        subst es
        exact ⟨r, rfl, o1 hs'⟩
      | succ i =>
        obtain ⟨r', er, hr⟩ := o2 i s' (by simpa using es) hs'
        exact ⟨r', by simpa using er, hr⟩
theorem stoSls_ok : ∀ {is : List Nat} {ss : List Sl} {xs : List V} {ρ ρ' : Env} {σ σ0 : St} {Z0 : Addr → Prop} {ρ0 : Env} {H0 : Hp}, StoL D H0 Z ρ σ H ss xs → Rl D Z ρ σ H → Stp Z0 ρ0 σ0 H0 Z ρ σ H → stoSls is ss ρ = some ρ' →
    Rl D Z ρ' (setAll is xs σ) H ∧ Stp Z0 ρ0 σ0 H0 Z ρ' (setAll is xs σ) H ∧ is.length = xs.length
  | [], [], _, _, _, _, _, _, _, _, .nil, rl, st, e => by
    cases e
    exact ⟨rl, st, rfl⟩
  | [], _ :: _, _, _, _, _, _, _, _, _, _, _, _, e => by cases e
  | _ :: _, [], _, _, _, _, _, _, _, _, _, _, _, e => by cases e
  | i :: is, s :: ss, _, ρ, ρ', σ, σ0, Z0, ρ0, H0, .cons (x := x) (xs := xs) h ap t, rl, st, e => by
    obtain ⟨ρ1, e1, e⟩ := Option.bind_eq_some_iff.mp e
    obtain ⟨rl1, st1⟩ := sto_ok (i := i) st rl h e1
    have rest : ∀ {ss : List Sl} {xs : List V}, StoL D H0 Z ρ σ H ss xs → (owns s = true → ∀ (i : Nat) s', ss[i]? = some s' → owns s' = true → xs[i]? ≠ some x) → StoL D H0 Z ρ1 (σ.set i (some x)) H ss xs := fun {ss xs} t ap => by
      induction t with
      | nil => exact .nil
      | @cons s' x' ss xs h' ap' t' ih =>
        refine .cons ?_ ap' (ih fun hs i s2 e2 h2 => ap hs (i + 1) s2 (by simpa using e2) h2)
        cases h' with
        | sh q => exact .sh q
        | @ow vs ys a nz no n ha rp =>
          refine .ow nz (fun ⟨j, h1, h2⟩ => ?_) n ha rp
          obtain ⟨hl, rfl⟩ := sto_free e1
          rcases get_put ρ i j s with ⟨ej, ⟨g, hb⟩ | ⟨g, _⟩⟩ | ⟨ej, g⟩
          · rw [g] at h1
            rw [ej, List.getElem?_set_self (by rw [← rl.len]; exact hb)] at h2
            have ex : x = .ref a := Option.some.inj (Option.some.inj h2)
            exact ap h1 0 (.ow false vs) rfl rfl (by rw [ex]; rfl)
          · rw [g] at h1; cases h1
          · rw [g] at h1
            rw [List.getElem?_set_ne (Ne.symm ej)] at h2
            exact no ⟨j, h1, h2⟩
    obtain ⟨a, b, c⟩ := stoSls_ok (rest t ap) rl1 st1 e
    exact ⟨a, b, by simp [c]⟩
theorem rd_par {is : List Nat} {f : Lc} (h : RdS D W (sPar is f) E σ H) : RdL D W f σ H fun xs H1 => is.length = xs.length ∧ ∀ H2, Grow H1 H2 → E.nx (setAll is xs σ) H2 := by
  obtain ⟨Z, ρ, rl, h⟩ := h
  refine ⟨Z, ρ, rl, PostS.then h fun rs ρ1 xs Z1 H1 _ rl1 st1 lv1 q1 h => ?_⟩
  cases e1 : toSls rs ρ1 with
  | none => rw [e1] at h; exact h.elim
  | some p =>
    obtain ⟨ss, ρ2⟩ := p
    rw [e1] at h
    simp only [Option.bind_some] at h
    cases e2 : stoSls is ss ρ2 with
    | none => rw [e2] at h; exact h.elim
    | some ρ3 =>
      rw [e2] at h
      obtain ⟨Z2, rl2, st2, q, _⟩ := toSls_ok q1 rl1 e1
      obtain ⟨a, b, c⟩ := stoSls_ok q rl2 (st1.trans st2) e2
      exact ⟨c, fun H2 g => h _ Z2 H2 (a.grow g) (b.trans (.grow g))⟩
theorem rd_unp {is : List Nat} {f : Ec} {K : PySem.W.Frag} (hK : D.K = K) (h : RdS D W (sUnp is f) E σ H) : tAsg (RdE D W f) (gTg K (.tup is)) E σ H := by
  obtain ⟨Z, ρ, rl, h⟩ := h
  refine ⟨Z, ρ, rl, PostS.then h fun r ρ1 x Z1 H1 _ rl1 st1 lv1 q1 h => ?_⟩
  cases e1 : frz r ρ1 with
  | none => rw [e1] at h; exact h.elim
  | some p =>
    obtain ⟨v, ρ2⟩ := p
    rw [e1] at h
    simp only [Option.bind_some] at h
    cases e2 : tgt (.tup is) v ρ2 with
    | none => rw [e2] at h; exact h.elim
    | some ρ3 =>
      rw [e2] at h
      obtain ⟨Z2, _, rl2, st2, _, rp⟩ := frz_ok st1 q1.2 q1.1 rl1 e1
      exact tg_ok (pr := false) hK (.inl ⟨rfl, rp⟩) e2 (fun z => nomatch z) rl2 fun σ2 _ rl3 st3 => h σ2 Z2 H1 rl3 (st2.trans st3)
end
end Ev

/-! Ev19: the statements' rules. -/
namespace Ev
open PySem PySem.Spec PyProof.Rows L2
section
variable {D : Dom} {X : Cx} {e k : Expr} {es : List Expr} {f g : Ec} {i : Nat} {x : Str} {p pos p2 p3 : Pos} {body orelse sts : List Stmt} {fb ga : Sc} {is : List Nat}
theorem st_doc {j : Nat} : SOk D X (.Expr (.Constant (.str x) j p) pos) sNil := ⟨fun W tk hp => ⟨fun pins s σ H E I h => ps_doc.run pins s σ H E I (by
  obtain ⟨Z, ρ, rl, h⟩ := h
  exact h σ Z H rl .refl)⟩⟩
theorem st_ex (he : EOk D X e f) (hs : swapsWith e none pos.line X.env = pure false) : SOk D X (.Expr e pos) (sEx f) := ⟨fun W tk hp => ⟨fun pins s σ H E I h => (ps_expr (he.pe W tk) hs).run pins s σ H E I (rd_ex h)⟩⟩
theorem st_ret (he : EOk D X e f) : SOk D X (.Return (some e) pos) (sRet f) := ⟨fun W tk hp => ⟨fun pins s σ H E I h => (ps_ret (he.pe W tk)).run pins s σ H E I (rd_ret h)⟩⟩
theorem st_if (he : EOk D X e f) (ha : SsOk D X body fb) (hb : SsOk D X orelse ga) : SOk D X (.If e body orelse pos) (sIf f fb ga) := ⟨fun W tk hp => ⟨fun pins s σ H E I h => (ps_if (he.pt W tk) (ha.ps W tk hp) (hb.ps W tk hp)).run pins s σ H E I (rd_if h)⟩⟩
theorem st_while (he : EOk D X e f) (hb : SsOk D X body fb) : SOk D X (.While e body [] pos) (sWhile f fb) := ⟨fun W tk hp => ⟨fun pins s σ H E I h => (ps_while hp (he.pt W tk) (hb.ps W tk hp)).run pins s σ H E I (rd_while h)⟩⟩
theorem st_for {pr : Bool} {tg iter : Expr} {t : Tg} {fi : Ic} (hK : D.K = X.K) (hc : X.calm = true) (hp : pr = true → ∃ is, t = .tup is) (hi : IOk pr D X tg iter fi) (ht : TgOk X tg t) (hb : SsOk D X body fb) : SOk D X (.For tg iter body [] pos) (sFor t fi fb) :=
  ⟨fun W tk hpo => ⟨fun pins s σ H E I h => (ps_for hpo hc (hi.pi W tk) (ht.pg hc) (hb.ps W tk hpo) (hi.fold X.env)).run pins s σ H E I (rd_for hK hp h)⟩⟩
/-- try, where nothing is raised -/
theorem st_try {h0 : ExceptHandler} {hs : List ExceptHandler} (hb : SsOk D X.nox body fb) : SOk D X (.Try body (h0 :: hs) [] [] pos) (fun ρ => (fb ρ).held) :=
  ⟨fun W tk hp => ⟨fun pins s σ H E I h => (ps_try_thru0 (hb.ps WF takes0 (PassesOwn.never))).run pins s σ H E I (by
    obtain ⟨Z, ρ, rl, h⟩ := h
    refine ⟨Z, ρ, rl, ?_⟩
    simp only at h
    cases er : fb ρ with
    | next ρ' => rw [er] at h; exact h
    | ret r ρ' => rw [er] at h; exact h
    | exc kk q ρ' => rw [er] at h; exact h.elim
    | stuck => rw [er] at h; exact h)⟩⟩
/-- a list's own slot -/
structure VaOk (X : Cx) (i : Nat) (x : Str) : Prop where
  ix : X.N[i]? = some x
  vis : Vis X.env.scope x
  d1 : (x == ("__debug__" : Str)) = false
  d2 : (x == ("__classdict__" : Str)) = false
theorem st_app {apos cpos : Pos} (hn : VaOk X i x) (he : EOk D X e f) (hline : (apos.endLine == cpos.line) = true) (hs : swapsWith (.Call (.Attribute (.Name x p) "append" apos) [e] [] cpos) none pos.line X.env = pure false) :
    SOk D X (.Expr (.Call (.Attribute (.Name x p) "append" apos) [e] [] cpos) pos) (sApp i f) := by
  refine ⟨fun W tk hp => ⟨fun pins s σ H E I h => (ps_expr (pe_bm F.plainAttrs_list F.slot_list_append F.type_list_append mt_append (pe_var hn.ix hn.vis hn.d1 hn.d2) (pa_cons (he.pe W tk) pa_nil (star_cons he.ns)) rfl (ns_all (ns_cons he.ns rfl) (by decide)) hline (star_cons he.ns) (star_any (es := []) rfl)) hs).run pins s σ H E I ?_⟩⟩
  obtain ⟨a, xs, hx, ha, h⟩ := rd_app h
  refine ⟨.ref a, hx, .inl ⟨rfl, xs, .of ha⟩, ?_⟩
  obtain ⟨Z, ρ, rl, h⟩ := h
  refine ⟨Z, ρ, rl, Post.imp h fun y H1 ⟨ys, h1, hl, q⟩ => ?_⟩
  exact ⟨a, ys, y, rfl, rfl, h1, hl, q⟩
theorem st_put {tpos : Pos} (hn : VaOk X i x) (hk : EOk D X k g) (he : EOk D X e f) (ha : ∀ v, assign (.Subscript (.Name x p) k tpos) X.env v = (do
      let ov ← holding [v] (eval (.Name x p) X.env)
      let iv ← holding [v, ov] (eval k X.env)
      standAt tpos
      holding [v, ov, iv] (setItem ov iv v)
      release [v, ov, iv] [])) (hs : swapsWithSole [.Subscript (.Name x p) k tpos] e pos.line X.env = pure false) :
    SOk D X (.Assign [.Subscript (.Name x p) k tpos] e pos) (sPut i g f) := by
  refine ⟨fun W tk hp => ⟨fun pins s σ H E I h => (ps_asg (he.pe W tk) (pg_sub (pe_var hn.ix hn.vis hn.d1 hn.d2) (hk.pe W tk) set_list ha) hs).run pins s σ H E I ?_⟩⟩
  obtain ⟨Z, ρ, rl, h⟩ := rd_put h
  refine ⟨Z, ρ, rl, Post.imp h fun y H1 ⟨a, hx, h⟩ => ?_⟩
  exact ⟨.ref a, hx, h⟩
/-- several names at once -/
theorem st_par2 {j : Nat} {y : Str} {a b : Expr} {px py pt pt2 : Pos} {kt k2 : Nat} {fl : Lc} (hc : X.calm = true) (hN : X.N.Nodup) (hi : X.N[i]? = some x) (hj : X.N[j]? = some y) (hij : i ≠ j) (hx : X.env.scope.names.lookup x = some .local) (hy : X.env.scope.names.lookup y = some .local) (ha : LOk D X [a, b] fl)
    (hw : swappedStores [.Tuple [.Name x px, .Name y py] kt pt] (.Tuple [a, b] k2 pt2) X.env = pure (some [x, y])) : SOk D X (.Assign [.Tuple [.Name x px, .Name y py] kt pt] (.Tuple [a, b] k2 pt2) pos) (sPar [i, j] fl) := by
  refine ⟨fun W tk hp => ⟨fun pins s σ H E I h => (ps_par hc hN hi hj hij hx hy (ha.pa W tk) hw rfl).run pins s σ H E I ?_⟩⟩
  obtain ⟨Z, ρ, rl, h⟩ := rd_par h
  refine ⟨Z, ρ, rl, Post.imp h fun xs H1 ⟨hl, q⟩ => ?_⟩
  match xs, hl with
  | [v, w], _ => exact ⟨v, w, rfl, q H1 .refl⟩
theorem st_par3 {j l : Nat} {y z : Str} {a b c : Expr} {px py pz pt pt2 : Pos} {kt k2 : Nat} {fl : Lc} (hc : X.calm = true) (hN : X.N.Nodup) (hi : X.N[i]? = some x) (hj : X.N[j]? = some y) (hl : X.N[l]? = some z) (hij : i ≠ j) (hil : i ≠ l) (hjl : j ≠ l) (hx : X.env.scope.names.lookup x = some .local) (hy : X.env.scope.names.lookup y = some .local) (hz : X.env.scope.names.lookup z = some .local) (ha : LOk D X [a, b, c] fl)
    (hw : swappedStores [.Tuple [.Name x px, .Name y py, .Name z pz] kt pt] (.Tuple [a, b, c] k2 pt2) X.env = pure (some [x, y, z])) : SOk D X (.Assign [.Tuple [.Name x px, .Name y py, .Name z pz] kt pt] (.Tuple [a, b, c] k2 pt2) pos) (sPar [i, j, l] fl) := by
  refine ⟨fun W tk hp => ⟨fun pins s σ H E I h => (ps_par3 hc hN hi hj hl hij hil hjl hx hy hz (ha.pa W tk) hw rfl).run pins s σ H E I ?_⟩⟩
  obtain ⟨Z, ρ, rl, h⟩ := rd_par h
  refine ⟨Z, ρ, rl, Post.imp h fun xs H1 ⟨hl, q⟩ => ?_⟩
  match xs, hl with
  | [u, v, w], _ => exact ⟨u, v, w, rfl, q H1 .refl⟩
theorem st_parN {ts : List Expr} {kt k2 : Nat} {pt pt2 : Pos} {fl : Lc} (hK : D.K = X.K) (hc : X.calm = true) (ht : NmsOk X ts is) (hl : is.length ≤ 1000) (ha : LOk D X es fl) (hw : swappedStores [.Tuple ts kt pt] (.Tuple es k2 pt2) X.env = pure none) :
    SOk D X (.Assign [.Tuple ts kt pt] (.Tuple es k2 pt2) pos) (sPar is fl) := by
  refine ⟨fun W tk hp => ⟨fun pins s σ H E I h => (ps_asg (pe_tupF (ha.pa W tk)) (pg_tl hc ht.pgs ht.len ht.star) rfl hw).run pins s σ H E I ?_⟩⟩
  obtain ⟨Z, ρ, rl, h⟩ := rd_par h
  refine ⟨Z, ρ, rl, Post.imp h fun xs H1 ⟨hl', q⟩ => ⟨by rw [← hl', sizeLine_eq]; omega, fun p o hp _ => ?_⟩⟩
  exact ⟨false, p, xs, rfl, (.inl (.inr ⟨o, upd_same⟩) : SqT _ _ _ _), hl'.symm, gNames_ok hl' (q _ (Grow.upd hp))⟩
theorem st_unp {ts : List Expr} {kt : Nat} {pt : Pos} (hK : D.K = X.K) (hc : X.calm = true) (ht : TgOk X (.Tuple ts kt pt) (.tup is)) (he : EOk D X e f) (hs : swapsWithSole [.Tuple ts kt pt] e pos.line X.env = pure false) (hw : swappedStores [.Tuple ts kt pt] e X.env = pure none) :
    SOk D X (.Assign [.Tuple ts kt pt] e pos) (sUnp is f) :=
  ⟨fun W tk hp => ⟨fun pins s σ H E I h => (ps_asg (he.pe W tk) (ht.pg hc) hs hw).run pins s σ H E I (rd_unp hK h)⟩⟩
end
end Ev

/-! Ev20: the small text matches the row's text: expressions. -/
namespace Ev
open PySem PySem.Spec PyProof.Rows L2
structure Gam where
  N : List Str
  sc : Scope
  fn : Str → Bool
  fns : List Str
def sEq (a b : Str) : Bool := decide (a = b)
def lkIs (Γ : Gam) (x : Str) (k : NameKind) : Bool := match Γ.sc.names.lookup x with
  | some j => decide (j = k)
  | none => false
def oSt (o : Option Str) (x : Str) : Bool := match o with
  | some y => sEq y x
  | none => false
def dbg (x : Str) : Bool := !sEq x "__debug__" && !sEq x "__classdict__" && !sEq x "__name__"
def vaB (Γ : Gam) (i : Nat) (x : Str) : Bool := oSt (nth Γ.N i) x && (lkIs Γ x .local || lkIs Γ x .cell || lkIs Γ x .free) && dbg x
def stB (Γ : Gam) (i : Nat) (x : Str) : Bool := oSt (nth Γ.N i) x && (lkIs Γ x .local || (lkIs Γ x .cell && Γ.fn x))
def fnB (Γ : Gam) (j : Nat) (x : Str) : Bool := oSt (nth Γ.fns j) x && lkIs Γ x .globalImplicit && dbg x
def blB (Γ : Gam) (n : String) (x : Str) : Bool := sEq x (Str.ofString n) && lkIs Γ x .globalImplicit
def bifN : Bif → Option String
  | .len => some "len" | .abs => some "abs" | .min => some "min" | .max => some "max" | .sum => some "sum" | .all => some "all" | .any => some "any" | .sorted => some "sorted"
  | _ => none
def bifT : Bif → Option String
  | .tuple => some "tuple" | .list => some "list" | .int => some "int" | .str => some "str"
  | _ => none
def bltNames : List String := ["len", "abs", "min", "max", "sum", "all", "any", "sorted", "tuple", "list", "int", "str", "set", "isinstance", "bool", "range", "enumerate", "zip"]
def tyB (Γ : Gam) (t : Ty) : Expr → Bool
  | .Name x _ => blB Γ (nm t) x
  | _ => false
def tysB (Γ : Gam) : List Ty → List Expr → Bool
  | [], [] => true
  | t :: ts, e :: es => tyB Γ t e && tysB Γ ts es
  | _, _ => false
def nameB (Γ : Gam) (i : Nat) : Expr → Bool
  | .Name x _ => stB Γ i x
  | _ => false
def namesB (Γ : Gam) : List Nat → List Expr → Bool
  | [], [] => true
  | i :: is, e :: es => nameB Γ i e && namesB Γ is es
  | _, _ => false
def tgB (Γ : Gam) : Tg → Expr → Bool
  | .one i, e => nameB Γ i e
  | .tup is, .Tuple es _ _ => namesB Γ is es
  | _, _ => false
def isTup : Tg → Bool
  | .tup _ => true
  | .one _ => false
def isTupX : Expr → Bool
  | .Tuple _ _ _ => true
  | _ => false
/-- no call of a name without arguments -/
def noCall0 : Expr → Bool
  | .Call (.Name _ _) [] [] _ => false
  | _ => true
def ownOf (N : List Str) : List Nat → List (Str × Nat)
  | [] => []
  | i :: is => ((nth N i).getD ⟨#[]⟩, i) :: ownOf N is
theorem ownOf_ix {N : List Str} : ∀ is : List Nat, (ownOf N is).map (·.2) = is
  | [] => rfl
  | i :: is => congrArg (i :: ·) (ownOf_ix is)
def apartB : List Nat → List Nat → Bool
  | [], _ => true
  | i :: is, js => !(js.contains i) && apartB is js
theorem apartB_ok : ∀ {is js : List Nat}, apartB is js = true → ∀ i ∈ is, i ∉ js
  | j :: is, js, h, i, hi => by
    simp only [apartB, Bool.and_eq_true, Bool.not_eq_true'] at h
    rcases List.mem_cons.mp hi with rfl | hi
    · intro m
      have : js.contains i = true := by simpa using m
      rw [h.1] at this
      cases this
    · exact apartB_ok h.2 i hi
def Gam.blk (Γ : Gam) (scope : Scope) : Gam := { Γ with sc := relS scope Γ.sc, fn := fun x => scope.names.lookup x == some .cell }
def isCons {α : Type} : List α → Bool
  | [] => false
  | _ :: _ => true
def isSort : Bif → Bool
  | .sortset => true
  | _ => false
def setArg (Γ : Gam) : List Expr → Bool
  | [.Call (.Name y _) [_] [] _] => blB Γ "set" y
  | _ => false
def unset : List Expr → List Expr
  | [.Call (.Name y _) [a] [] _] => [a]
  | l => l
def bfnB (Γ : Gam) (b : Bif) (x : Str) (args : List Expr) : Bool := if isSort b then blB Γ "sorted" x && setArg Γ args else isCons args && (match bifN b, bifT b with
    | some n, _ => blB Γ n x
    | none, some n => blB Γ n x
    | none, none => false)
def bfnA (b : Bif) (args : List Expr) : List Expr := if isSort b then unset args else args
def methB (m : Mth) (name : Str) : Bool := match m with
  | .join => sEq name "join"
  | .count => sEq name "count"
def isiB (Γ : Gam) (ts : List Ty) : Expr → Bool
  | .Tuple es _ _ => tysB Γ ts es && isCons ts && decide (ts.length < 900)
  | e => match ts with
    | [t] => tyB Γ t e
    | _ => false
mutual
def chkE : Gam → E → Expr → Bool
  | Γ, .var i, .Name x _ => vaB Γ i x
  | Γ, .fn j, .Name x _ => fnB Γ j x
  | _, .non, .Constant .none _ _ => true
  | _, .bl b, .Constant (.bool c) _ _ => decide (b = c)
  | _, .int i, .Constant (.int c) _ _ => decide (i = c)
  | _, .str s, .Constant (.str c) _ _ => sEq s c
  | Γ, .bin o a b, .BinOp l op r _ => decide (op = bopOf o) && chkE Γ a l && chkE Γ b r
  | Γ, .neg a, .UnaryOp .USub x _ => chkE Γ a x
  | Γ, .not_ a, .UnaryOp .Not x _ => chkE Γ a x
  | Γ, .bop k es, .BoolOp op vs _ => decide (op = if k then .And else .Or) && chkL Γ es vs && isCons vs
  | Γ, .cmp o a b, .Compare l [op] [r] _ => decide (op = copOf o) && chkE Γ a l && chkE Γ b r
  | Γ, .chain o1 o2 a b c, .Compare l [p1, p2] [m, r] _ => decide (p1 = copOf o1) && decide (p2 = copOf o2) && chkE Γ a l && chkE Γ b m && chkE Γ c r
  | Γ, .ite c a b, .IfExp t x y _ => chkE Γ c t && chkE Γ a x && chkE Γ b y
  | Γ, .call j es, .Call (.Name x _) args [] _ => fnB Γ j x && chkL Γ es args
  | Γ, .callv i es, .Call (.Name x _) args [] _ => vaB Γ i x && chkL Γ es args
  | Γ, .bfn b es, .Call (.Name x _) args [] _ => bfnB Γ b x args && chkL Γ es (bfnA b args)
  | Γ, .meth m o es, .Call (.Attribute ob name apos) args [] pos => methB m name && chkE Γ o ob && chkL Γ es args && isCons args && noCall0 ob && decide (args.length < 29) && (apos.endLine == pos.line)
  | Γ, .isi a ts, .Call (.Name x _) [v, t] [] _ => blB Γ "isinstance" x && chkE Γ a v && isiB Γ ts t
  | Γ, .idx a i, .Subscript v s _ => chkE Γ a v && chkE Γ i s
  | Γ, .slc a lo hi, .Subscript v (.Slice l u none _) _ => chkE Γ a v && chkO Γ lo l && chkO Γ hi u
  | Γ, .rev a, .Subscript v (.Slice none none (some (.UnaryOp .USub (.Constant (.int c) _ _) _)) _) _ => decide (c = 1) && chkE Γ a v
  | Γ, .tup es, .Tuple xs _ _ => chkL Γ es xs
  | Γ, .lst es, .List xs _ => chkL Γ es xs
  | Γ, .comp elt t it c, .ListComp x [⟨tg, iter, ifs, a⟩] scope _ => decide (a = 0) && blkC Γ.N Γ.sc scope (ownOf Γ.N (tgs t)) && chkI Γ it t tg iter && tgB (Γ.blk scope) t tg && chkC (Γ.blk scope) c ifs && chkE (Γ.blk scope) elt x
  | Γ, .comp2 elt t it c t2 it2 c2, .ListComp x [⟨tg, iter, ifs, a⟩, ⟨tg2, iter2, ifs2, a2⟩] scope _ => decide (a = 0) && decide (a2 = 0) && blkC Γ.N Γ.sc scope (ownOf Γ.N (tgs t ++ tgs t2)) && apartB (tgs t2) (tgs t) && chkI Γ it t tg iter && tgB (Γ.blk scope) t tg && chkC (Γ.blk scope) c ifs &&
      chkI (Γ.blk scope) it2 t2 tg2 iter2 && tgB (Γ.blk scope) t2 tg2 && chkC (Γ.blk scope) c2 ifs2 && chkE (Γ.blk scope) elt x
  | _, _, _ => false
def chkL : Gam → Es → List Expr → Bool
  | _, .nil, [] => true
  | Γ, .cons e es, x :: xs => chkE Γ e x && chkL Γ es xs
  | _, _, _ => false
def chkO : Gam → Oe → Option Expr → Bool
  | _, .no, none => true
  | Γ, .yes e, some x => chkE Γ e x
  | _, _, _ => false
def chkC : Gam → Oe → List Expr → Bool
  | _, .no, [] => true
  | Γ, .yes e, [x] => chkE Γ e x
  | _, _, _ => false
def chkI : Gam → It → Tg → Expr → Expr → Bool
  | Γ, .seq e, _, _, x => chkE Γ e x
  | Γ, .rng es, _, _, .Call (.Name y _) args [] _ => blB Γ "range" y && chkL Γ es args && isCons args
  | Γ, .enum e, t, tg, .Call (.Name y _) [a] [] _ => blB Γ "enumerate" y && chkE Γ e a && isTup t && isTupX tg
  | Γ, .zip es, t, tg, .Call (.Name y _) [a, b] [] _ => blB Γ "zip" y && chkL Γ es [a, b] && isTup t && isTupX tg
  | _, _, _, _, _ => false
end
end Ev

/-! Ev21: a text that matches does what the evaluator says: expressions. -/
namespace Ev
open PySem PySem.Spec PyProof.Rows L2
structure GOk (D : Dom) (T : Tab) (k : Nat) (Γ : Gam) (X : Cx) : Prop where
  K : D.K = X.K
  nd : X.N.Nodup
  N : X.N = Γ.N
  sc : X.env.scope = Γ.sc
  calm : X.calm = true
  un : X.A.units + 64 < cLine
  fn : ∀ x, Γ.fn x = true → X.fn x = true
  mg : ∀ j x, Γ.fns[j]? = some x → X.mg x = some (.ref (D.adr j))
  blt : ∀ n ∈ bltNames, X.mg (Str.ofString n) = none
  fns : Fns D T X k
section
variable {D : Dom} {T : Tab} {k : Nat} {Γ : Gam} {X : Cx}
theorem GOk.blk (g : GOk D T k Γ X) (s : Shared) (H : Hp) (scope : Scope) (C : Addr) (cl : List (Str × Addr)) (fp : List Addr) : GOk D T k (Γ.blk scope) (X.blk s H scope (compEnvC scope cl C X.env) fp) where
  K := g.K
  nd := g.nd
  N := g.N
  sc := by
    show relS scope X.env.scope = relS scope Γ.sc
    rw [g.sc]
  calm := g.calm
  un := g.un
  fn := fun x h => h
  mg := g.mg
  blt := g.blt
  fns := ⟨fun j h => let F := g.fns.fok j h; ⟨F.ex, F.kp⟩, g.fns.room⟩
theorem GOk.nox (g : GOk D T k Γ X) : GOk D T k Γ X.nox := ⟨g.K, g.nd, g.N, g.sc, g.calm, g.un, g.fn, g.mg, g.blt, ⟨fun j h => let F := g.fns.fok j h; ⟨F.ex, F.kp⟩, g.fns.room⟩⟩
theorem sEq_ok {a b : Str} (h : sEq a b = true) : a = b := of_decide_eq_true h
theorem lkIs_ok {x : Str} {kk : NameKind} (h : lkIs Γ x kk = true) : Γ.sc.names.lookup x = some kk := by
  unfold lkIs at h
  split at h
  · rename_i j e
    rw [e, of_decide_eq_true h]
  · cases h
theorem oSt_ok {o : Option Str} {x : Str} (h : oSt o x = true) : o = some x := by
  unfold oSt at h
  split at h
  · rw [sEq_ok h]
  · cases h
theorem sEq_no {a b : Str} (h : (!sEq a b) = true) : a ≠ b := fun e => by
  subst e
  have : sEq a a = true := decide_eq_true rfl
  rw [this] at h
  cases h
theorem dbg_ok {x : Str} (h : dbg x = true) : (x == ("__debug__" : Str)) = false ∧ (x == ("__classdict__" : Str)) = false ∧ x ≠ ("__name__" : Str) := by
  unfold dbg at h
  simp only [Bool.and_eq_true] at h
  exact ⟨beq_eq_false_iff_ne.mpr (sEq_no h.1.1), beq_eq_false_iff_ne.mpr (sEq_no h.1.2), sEq_no h.2⟩
theorem vaB_ok (g : GOk D T k Γ X) {i : Nat} {x : Str} (h : vaB Γ i x = true) : X.N[i]? = some x ∧ Vis X.env.scope x ∧ (x == ("__debug__" : Str)) = false ∧ (x == ("__classdict__" : Str)) = false := by
  unfold vaB at h
  simp only [Bool.and_eq_true, Bool.or_eq_true] at h
  obtain ⟨⟨h1, h2⟩, h3⟩ := h
  obtain ⟨d1, d2, _⟩ := dbg_ok h3
  refine ⟨by rw [g.N, ← nth_eq]; exact oSt_ok h1, ?_, d1, d2⟩
  unfold Vis
  rw [g.sc]
  rcases h2 with (h2 | h2) | h2
  · exact .inl (lkIs_ok h2)
  · exact .inr (.inl (lkIs_ok h2))
  · exact .inr (.inr (lkIs_ok h2))
theorem stB_ok (g : GOk D T k Γ X) {i : Nat} {x : Str} (h : stB Γ i x = true) : StOk X i x := by
  unfold stB at h
  simp only [Bool.and_eq_true, Bool.or_eq_true] at h
  obtain ⟨h1, h2⟩ := h
  refine ⟨g.nd, by rw [g.N, ← nth_eq]; exact oSt_ok h1, ?_, ?_⟩
  · unfold L2.Loc
    rw [g.sc]
    rcases h2 with h2 | ⟨h2, _⟩
    · exact .inl (lkIs_ok h2)
    · exact .inr (lkIs_ok h2)
  · rw [g.sc]
    rcases h2 with h2 | ⟨_, h2⟩
    · exact .inr (lkIs_ok h2)
    · exact .inl (g.fn x h2)
theorem StOk.pg {i : Nat} {x : Str} {p : Pos} (h : StOk X i x) : PG X (.Name x p) (gName i) := pg_name h.nd h.ix h.loc h.fn
theorem fnB_ok (g : GOk D T k Γ X) {j : Nat} {x : Str} (h : fnB Γ j x = true) : Gl X x ∧ X.mg x = some (.ref (D.adr j)) ∧ (x == ("__debug__" : Str)) = false := by
  unfold fnB at h
  simp only [Bool.and_eq_true] at h
  obtain ⟨⟨h1, h2⟩, h3⟩ := h
  refine ⟨?_, g.mg j x (by rw [← nth_eq]; exact oSt_ok h1), (dbg_ok h3).1⟩
  show X.env.scope.names.lookup x = _
  rw [g.sc]
  exact lkIs_ok h2
theorem blB_ok (g : GOk D T k Γ X) {n : String} {x : Str} (h : blB Γ n x = true) (hn : n ∈ bltNames) : x = Str.ofString n ∧ Gl X x ∧ X.mg x = none := by
  unfold blB at h
  simp only [Bool.and_eq_true] at h
  obtain ⟨h1, h2⟩ := h
  have e := sEq_ok h1
  subst e
  refine ⟨rfl, ?_, g.blt n hn⟩
  show X.env.scope.names.lookup _ = _
  rw [g.sc]
  exact lkIs_ok h2
theorem tyB_ok (g : GOk D T k Γ X) {t : Ty} {e : Expr} (h : tyB Γ t e = true) : TyOk X e t := by
  cases e <;> first | (cases h; done) | skip
  case Name x p =>
    cases t
    · obtain ⟨rfl, a, b⟩ := blB_ok g h (by decide)
      exact ty_ok a b (by decide +kernel) (by decide) (by decide)
    · obtain ⟨rfl, a, b⟩ := blB_ok g h (by decide)
      exact ty_ok a b (by decide +kernel) (by decide) (by decide)
    · obtain ⟨rfl, a, b⟩ := blB_ok g h (by decide)
      exact ty_ok a b (by decide +kernel) (by decide) (by decide)
    · obtain ⟨rfl, a, b⟩ := blB_ok g h (by decide)
      exact ty_ok a b (by decide +kernel) (by decide) (by decide)
    · obtain ⟨rfl, a, b⟩ := blB_ok g h (by decide)
      exact ty_ok a b (by decide +kernel) (by decide) (by decide)
theorem tysB_ok (g : GOk D T k Γ X) : ∀ {ts : List Ty} {es : List Expr}, tysB Γ ts es = true → TysOk X es ts
  | [], [], _ => .nil
  | t :: ts, e :: es, h => by
    simp only [tysB, Bool.and_eq_true] at h
    exact .cons (tyB_ok g h.1) (tysB_ok g h.2)
  | [], _ :: _, h => by cases h
  | _ :: _, [], h => by cases h
theorem namesB_ok (g : GOk D T k Γ X) : ∀ {is : List Nat} {es : List Expr}, namesB Γ is es = true → NmsOk X es is
  | [], [], _ => .nil
  | i :: is, e :: es, h => by
    simp only [namesB, Bool.and_eq_true] at h
    obtain ⟨h1, h2⟩ := h
    cases e <;> first | (cases h1; done) | skip
    case Name x p => exact .cons (stB_ok g h1).pg (namesB_ok g h2)
  | [], _ :: _, h => by cases h
  | _ :: _, [], h => by cases h
theorem tgB_ok (g : GOk D T k Γ X) {t : Tg} {e : Expr} (h : tgB Γ t e = true) : TgOk X e t := by
  cases t with
  | one i =>
    cases e <;> first | (cases h; done) | skip
    case Name x p => exact .one (stB_ok g h).pg
  | tup is =>
    cases e <;> first | (cases h; done) | skip
    case Tuple es kk p => exact .tup (namesB_ok g h)
theorem ns_ix {e : Expr} (h : noStar e = true) : PlainIx e := by
  cases e <;> first | (cases h; done) | (intro o i; rfl)
theorem ns_fold {e : Expr} (h : noStar e = true) : ∀ env x, foldedSetIterable e env x = pure x := by
  cases e <;> first | (cases h; done) | (intro env x; rfl)
theorem ns_marks {e : Expr} {op : CmpOp} (h : noStar e = true) : behindInMarks op e = false := by
  cases e <;> first | (cases h; done) | rfl
theorem isTup_ok {t : Tg} (h : isTup t = true) : ∃ is, t = .tup is := by
  cases t with
  | one i => cases h
  | tup is => exact ⟨is, rfl⟩
theorem noCall0_ok {e : Expr} {name : Str} (h : noCall0 e = true) : attributeBase e name X.env (eval e X.env) = eval e X.env := by
  cases e <;> first | rfl | skip
  case Call f args kws p =>
    cases f <;> first | rfl | skip
    case Name x p2 =>
      cases args <;> first | rfl | skip
      cases kws <;> first | rfl | (cases h; done)
theorem bif_ok (g : GOk D T k Γ X) {b : Bif} {x : Str} {p pos : Pos} {e : Expr} {es : List Expr} {f : Lc} (h : (match bifN b, bifT b with | some n, _ => blB Γ n x | none, some n => blB Γ n x | none, none => false) = true) (t : LOk D X (e :: es) f) : EOk D X (.Call (.Name x p) (e :: es) [] pos) (cL (bfn b) f) := by
  cases b <;> simp only [bifN, bifT] at h <;> first | (cases h; done) | skip
  case len => obtain ⟨rfl, a, b⟩ := blB_ok g h (by decide); exact ok_bltn (id := "len") (fun W tk => b_len g.K) a b (by decide +kernel) (by decide) (by decide) t
  case abs => obtain ⟨rfl, a, b⟩ := blB_ok g h (by decide); exact ok_bltn (id := "abs") (fun W tk => b_abs) a b (by decide +kernel) (by decide) (by decide) t
  case min => obtain ⟨rfl, a, b⟩ := blB_ok g h (by decide); exact ok_bltn (id := "min") (fun W tk => b_min g.K g.calm) a b (by decide +kernel) (by decide) (by decide) t
  case max => obtain ⟨rfl, a, b⟩ := blB_ok g h (by decide); exact ok_bltn (id := "max") (fun W tk => b_max g.K g.calm) a b (by decide +kernel) (by decide) (by decide) t
  case sum => obtain ⟨rfl, a, b⟩ := blB_ok g h (by decide); exact ok_bltn (id := "sum") (fun W tk => b_sum g.K g.calm) a b (by decide +kernel) (by decide) (by decide) t
  case all => obtain ⟨rfl, a, b⟩ := blB_ok g h (by decide); exact ok_bltn (id := "all") (fun W tk => b_all g.K g.calm) a b (by decide +kernel) (by decide) (by decide) t
  case any => obtain ⟨rfl, a, b⟩ := blB_ok g h (by decide); exact ok_bltn (id := "any") (fun W tk => b_any g.K g.calm) a b (by decide +kernel) (by decide) (by decide) t
  case sorted => obtain ⟨rfl, a, b⟩ := blB_ok g h (by decide); exact ok_bltn (id := "sorted") (fun W tk => b_sorted g.K g.un) a b (by decide +kernel) (by decide) (by decide) t
  case tuple => obtain ⟨rfl, a, b⟩ := blB_ok g h (by decide); exact ok_blty (id := "tuple") (fun W tk => b_tuple g.K) a b (by decide +kernel) (by decide) (by decide) t
  case list => obtain ⟨rfl, a, b⟩ := blB_ok g h (by decide); exact ok_blty (id := "list") (fun W tk => b_list g.K) a b (by decide +kernel) (by decide) (by decide) t
  case int => obtain ⟨rfl, a, b⟩ := blB_ok g h (by decide); exact ok_blty (id := "int") (fun W tk => b_int) a b (by decide +kernel) (by decide) (by decide) t
  case str => obtain ⟨rfl, a, b⟩ := blB_ok g h (by decide); exact ok_blty (id := "str") (fun W tk => b_str) a b (by decide +kernel) (by decide) (by decide) t
theorem own_set {N : List Str} {is : List Nat} : ∀ i, i ∈ (ownOf N is).map (·.2) ↔ i ∈ is := fun i => by rw [ownOf_ix]
theorem isCons_ne {α : Type} {l : List α} (h : isCons l = true) : l ≠ [] := fun e => by
  subst e
  cases h
theorem bfnB_ok (g : GOk D T k Γ X) {b : Bif} {x : Str} {p pos : Pos} {args : List Expr} {f : Lc} (h : bfnB Γ b x args = true) (t : LOk D X (bfnA b args) f) : EOk D X (.Call (.Name x p) args [] pos) (cL (bfn b) f) := by
  unfold bfnB at h
  unfold bfnA at t
  by_cases hs : isSort b = true
  · rw [if_pos hs] at h t
    have e : b = .sortset := by cases b <;> first | rfl | cases hs
    subst e
    simp only [Bool.and_eq_true] at h
    obtain ⟨h1, h2⟩ := h
    obtain ⟨rfl, a, b⟩ := blB_ok g h1 (by decide)
    unfold setArg at h2
    split at h2
    · rename_i y p2 v p3
      obtain ⟨rfl, a2, b2⟩ := blB_ok g h2 (by decide)
      exact ok_sortset g.K g.calm a b (by decide +kernel) (by decide) (by decide) a2 b2 (by decide +kernel) (by decide) (by decide) t
    · cases h2
  · rw [if_neg hs] at h t
    rw [Bool.and_eq_true] at h
    cases args with
    | nil => cases h.1
    | cons e es => exact bif_ok g h.2 t
theorem isiB_ok (g : GOk D T k Γ X) {ts : List Ty} {a t : Expr} {f : Ec} {p pos : Pos} (hg : Gl X "isinstance") (hm : X.mg "isinstance" = none) (ha : EOk D X a f) (h : isiB Γ ts t = true) : EOk D X (.Call (.Name "isinstance" p) [a, t] [] pos) (c1 (opIsi ts) f) := by
  unfold isiB at h
  split at h
  · rename_i es j p2
    simp only [Bool.and_eq_true, decide_eq_true_eq] at h
    exact ok_isiT g.K hg hm (by decide +kernel) (by decide) (by decide) ha (tysB_ok g h.1.1) (by omega) (isCons_ne h.1.2)
  · split at h
    · exact ok_isi g.K hg hm (by decide +kernel) (by decide) (by decide) ha (tyB_ok g h)
    · cases h
/-- operands, whatever they are read as -/
structure AllOk (D : Dom) (T : Tab) (k : Nat) (X : Cx) (es : Es) (xs : List Expr) : Prop where
  l : LOk D X xs (evL (borsOf T) (run T k) es)
  v : VOk D X xs (evVs (borsOf T) (run T k) es)
  a : ∀ bs, AOk D X xs (evA (borsOf T) (run T k) es bs)
  b : ∀ kk, xs ≠ [] → BOk D X kk xs (evBop (borsOf T) (run T k) kk es)
  n : (es = .nil ↔ xs = [])
def prOf : It → Bool
  | .enum _ => true
  | .zip _ => true
  | _ => false
theorem chk_ns : ∀ {e : E} {x : Expr}, chkE Γ e x = true → noStar x = true := by
  intro e x h
  cases x <;> first | rfl | skip
  all_goals (cases e <;> cases h)
theorem fold_it {it : It} {t : Tg} {tg x : Expr} (h : chkI Γ it t tg x = true) : ∀ env v, foldedSetIterable x env v = pure v := by
  cases it with
  | seq e => exact ns_fold (chk_ns h)
  | _ => cases x <;> first | (cases h; done) | (intro env v; rfl)
theorem prOf_tup {it : It} {t : Tg} {tg x : Expr} (h : chkI Γ it t tg x = true) (hp : prOf it = true) : ∃ is, t = .tup is := by
  cases it with
  | seq e => cases hp
  | rng es => cases hp
  | enum e =>
    cases x <;> first | (cases h; done) | skip
    case Call f args kws p =>
      cases f <;> first | (cases h; done) | skip
      case Name y p2 =>
        match args, kws, h with
        | [a], [], h =>
          simp only [chkI, Bool.and_eq_true] at h
          exact isTup_ok h.1.2
        | [], _, h => cases h
        | _ :: _ :: _, _, h => cases h
        | [_], _ :: _, h => cases h
  | zip es =>
    cases x <;> first | (cases h; done) | skip
    case Call f args kws p =>
      cases f <;> first | (cases h; done) | skip
      case Name y p2 =>
        match args, kws, h with
        | [a, a2], [], h =>
          simp only [chkI, Bool.and_eq_true] at h
          exact isTup_ok h.1.2
        | [], _, h => cases h
        | [_], _, h => cases h
        | _ :: _ :: _ :: _, _, h => cases h
        | [_, _], _ :: _, h => cases h
mutual
theorem chkE_ok : ∀ (e : E) {Γ : Gam} {X : Cx} {x : Expr}, GOk D T k Γ X → chkE Γ e x = true → EOk D X x (evR (borsOf T) (run T k) e)
  | .var i, Γ, X, x, g, h => by
    cases x <;> first | (cases h; done) | skip
    case Name x p =>
      obtain ⟨a, b, c, d⟩ := vaB_ok g h
      exact ok_var a b c d
  | .fn j, Γ, X, x, g, h => by
    cases x <;> first | (cases h; done) | skip
    case Name x p =>
      obtain ⟨a, b, c⟩ := fnB_ok g h
      exact ok_fn a b c
  | .non, Γ, X, x, g, h => by
    cases x <;> first | (cases h; done) | skip
    case Constant c j p => cases c <;> first | (cases h; done) | exact ok_non
  | .bl b, Γ, X, x, g, h => by
    cases x <;> first | (cases h; done) | skip
    case Constant c j p =>
      cases c <;> first | (cases h; done) | skip
      case bool c => rw [of_decide_eq_true (p := b = c) h]; exact ok_bl
  | .int b, Γ, X, x, g, h => by
    cases x <;> first | (cases h; done) | skip
    case Constant c j p =>
      cases c <;> first | (cases h; done) | skip
      case int c => rw [of_decide_eq_true (p := b = c) h]; exact ok_int
  | .str b, Γ, X, x, g, h => by
    cases x <;> first | (cases h; done) | skip
    case Constant c j p =>
      cases c <;> first | (cases h; done) | skip
      case str c => rw [sEq_ok (a := b) (b := c) h]; exact ok_str
  | .bin o a b, Γ, X, x, g, h => by
    cases x <;> first | (cases h; done) | skip
    case BinOp l op r p =>
      simp only [chkE, Bool.and_eq_true, decide_eq_true_eq] at h
      obtain ⟨⟨rfl, h1⟩, h2⟩ := h
      exact ok_bin (fun W tk => bin_ok g.K o) (chkE_ok a g h1) (chkE_ok b g h2)
  | .neg a, Γ, X, x, g, h => by
    cases x <;> first | (cases h; done) | skip
    case UnaryOp op y p =>
      cases op <;> first | (cases h; done) | skip
      case USub => exact ok_un un_negV (by decide) (chkE_ok a g h)
  | .not_ a, Γ, X, x, g, h => by
    cases x <;> first | (cases h; done) | skip
    case UnaryOp op y p =>
      cases op <;> first | (cases h; done) | skip
      case Not => exact ok_not (chkE_ok a g h)
  | .bop kk es, Γ, X, x, g, h => by
    cases x <;> first | (cases h; done) | skip
    case BoolOp op vs p =>
      simp only [chkE, Bool.and_eq_true, decide_eq_true_eq] at h
      obtain ⟨⟨rfl, h⟩, hn⟩ := h
      exact ((chkL_ok es g h).b kk (isCons_ne hn)).ok
  | .cmp o a b, Γ, X, x, g, h => by
    cases x <;> first | (cases h; done) | skip
    case Compare l ops rs p =>
      match ops, rs, h with
      | [op], [r], h =>
        simp only [chkE, Bool.and_eq_true, decide_eq_true_eq] at h
        obtain ⟨⟨rfl, h1⟩, h2⟩ := h
        have B := chkE_ok b g h2
        exact ok_cmp (fun W tk => cmp_ok g.K g.un o) (ns_marks B.ns) (chkE_ok a g h1) B
      | [], _, h => cases h
      | _ :: _ :: _, _, h => cases h
      | [_], [], h => cases h
      | [_], _ :: _ :: _, h => cases h
  | .chain o1 o2 a b c, Γ, X, x, g, h => by
    cases x <;> first | (cases h; done) | skip
    case Compare l ops rs p =>
      match ops, rs, h with
      | [p1, p2], [m, r], h =>
        simp only [chkE, Bool.and_eq_true, decide_eq_true_eq] at h
        obtain ⟨⟨⟨⟨rfl, rfl⟩, h1⟩, h2⟩, h3⟩ := h
        have C := chkE_ok c g h3
        exact ok_chain (fun W tk => cmp_ok g.K g.un o1) (fun W tk => cmp_ok g.K g.un o2) (ns_marks C.ns) (chkE_ok a g h1) (chkE_ok b g h2) C
      | [], _, h => cases h
      | [_], _, h => cases h
      | _ :: _ :: _ :: _, _, h => cases h
      | [_, _], [], h => cases h
      | [_, _], [_], h => cases h
      | [_, _], _ :: _ :: _ :: _, h => cases h
  | .ite c a b, Γ, X, x, g, h => by
    cases x <;> first | (cases h; done) | skip
    case IfExp t y z p =>
      simp only [chkE, Bool.and_eq_true] at h
      exact ok_ite (chkE_ok c g h.1.1) (chkE_ok a g h.1.2) (chkE_ok b g h.2)
  | .call j es, Γ, X, x, g, h => by
    cases x <;> first | (cases h; done) | skip
    case Call f args kws p =>
      cases f <;> first | (cases h; done) | skip
      case Name y p2 =>
        cases kws <;> first | (cases h; done) | skip
        case nil =>
          simp only [chkE, Bool.and_eq_true] at h
          obtain ⟨a, b, c⟩ := fnB_ok g h.1
          have A := chkL_ok es g h.2
          cases args with
          | nil =>
            have e := A.n.mpr rfl
            subst e
            exact ok_call0 g.fns a b c
          | cons y ys => exact ok_call g.fns a b c A.a
  | .callv i es, Γ, X, x, g, h => by
    cases x <;> first | (cases h; done) | skip
    case Call f args kws p =>
      cases f <;> first | (cases h; done) | skip
      case Name y p2 =>
        cases kws <;> first | (cases h; done) | skip
        case nil =>
          simp only [chkE, Bool.and_eq_true] at h
          obtain ⟨a, b, c, d⟩ := vaB_ok g h.1
          have A := chkL_ok es g h.2
          cases args with
          | nil =>
            have e := A.n.mpr rfl
            subst e
            exact ok_callv0 g.fns a b c d
          | cons y ys => exact ok_callv g.fns a b c d A.a
  | .bfn b es, Γ, X, x, g, h => by
    cases x <;> first | (cases h; done) | skip
    case Call f args kws p =>
      cases f <;> first | (cases h; done) | skip
      case Name y p2 =>
        cases kws <;> first | (cases h; done) | skip
        case nil =>
          simp only [chkE, Bool.and_eq_true] at h
          have A := chkL_ok es g h.2
          exact bfnB_ok g h.1 A.l
  | .meth m o es, Γ, X, x, g, h => by
    cases x <;> first | (cases h; done) | skip
    case Call f args kws p =>
      cases f <;> first | (cases h; done) | skip
      case Attribute ob name apos =>
        cases kws <;> first | (cases h; done) | skip
        case nil =>
          simp only [chkE, Bool.and_eq_true, decide_eq_true_eq] at h
          obtain ⟨⟨⟨⟨⟨⟨h1, h2⟩, h3⟩, h4⟩, h5⟩, h6⟩, h7⟩ := h
          have O := chkE_ok o g h2
          have A := chkL_ok es g h3
          cases args with
          | nil => cases h4
          | cons y ys =>
            cases m with
            | join =>
              obtain rfl := sEq_ok h1
              exact ok_join O A.l g.K (by simpa using Nat.lt_of_succ_lt h6) (noCall0_ok h5) h7
            | count =>
              obtain rfl := sEq_ok h1
              exact ok_count O A.l g.K (by simpa using Nat.lt_of_succ_lt h6) (noCall0_ok h5) h7
  | .isi a ts, Γ, X, x, g, h => by
    cases x <;> first | (cases h; done) | skip
    case Call f args kws p =>
      cases f <;> first | (cases h; done) | skip
      case Name y p2 =>
        match args, kws, h with
        | [v, t], [], h =>
          simp only [chkE, Bool.and_eq_true] at h
          obtain ⟨⟨h1, h2⟩, h3⟩ := h
          obtain ⟨rfl, b, c⟩ := blB_ok g h1 (by decide)
          exact isiB_ok g b c (chkE_ok a g h2) h3
        | [], _, h => cases h
        | [_], _, h => cases h
        | _ :: _ :: _ :: _, _, h => cases h
        | [_, _], _ :: _, h => cases h
  | .idx a i, Γ, X, x, g, h => by
    cases x <;> first | (cases h; done) | skip
    case Subscript v s p =>
      simp only [chkE, Bool.and_eq_true] at h
      have I := chkE_ok i g h.2
      exact ok_idx (ix_ok g.K) (chkE_ok a g h.1) I (ns_ix I.ns)
  | .slc a lo hi, Γ, X, x, g, h => by
    cases x <;> first | (cases h; done) | skip
    case Subscript v s p =>
      cases s <;> first | (cases h; done) | skip
      case Slice l u st p2 =>
        cases st <;> first | (cases h; done) | skip
        case none =>
          simp only [chkE, Bool.and_eq_true] at h
          exact ok_slc (sl_ok g.K) (chkE_ok a g h.1.1) (chkO_ok lo g h.1.2) (chkO_ok hi g h.2)
  | .rev a, Γ, X, x, g, h => by
    cases x <;> first | (cases h; done) | skip
    case Subscript v s p =>
      cases s <;> first | (cases h; done) | skip
      case Slice l u st p2 =>
        cases l <;> first | (cases h; done) | skip
        case none =>
          cases u <;> first | (cases h; done) | skip
          case none =>
            cases st <;> first | (cases h; done) | skip
            case some st =>
              cases st <;> first | (cases h; done) | skip
              case UnaryOp op y p3 =>
                cases op <;> first | (cases h; done) | skip
                case USub =>
                  cases y <;> first | (cases h; done) | skip
                  case Constant c j p4 =>
                    cases c <;> first | (cases h; done) | skip
                    case int c =>
                      simp only [chkE, Bool.and_eq_true, decide_eq_true_eq] at h
                      obtain ⟨rfl, h⟩ := h
                      exact ok_rev g.K (chkE_ok a g h)
  | .tup es, Γ, X, x, g, h => by
    cases x <;> first | (cases h; done) | skip
    case Tuple xs j p => exact ok_tup (chkL_ok es g h).v
  | .lst es, Γ, X, x, g, h => by
    cases x <;> first | (cases h; done) | skip
    case List xs p => exact ok_lst (chkL_ok es g h).v
  | .comp elt t it c, Γ, X, x, g, h => by
    cases x <;> first | (cases h; done) | skip
    case ListComp y gs scope p =>
      match gs, h with
      | [⟨tg, iter, ifs, a⟩], h =>
        simp only [chkE, Bool.and_eq_true, decide_eq_true_eq] at h
        obtain ⟨⟨⟨⟨⟨rfl, h1⟩, h2⟩, h3⟩, h4⟩, h5⟩ := h
        obtain ⟨hp, I⟩ := chkI_ok it g h2
        exact ok_comp g.K g.calm g.nd (by rw [g.N, g.sc]; exact blkOk_by h1) own_set hp I ⟨fun s H C cl fp => tgB_ok (g.blk s H scope C cl fp) h3, fun s H C cl fp => chkC_ok c (g.blk s H scope C cl fp) h4, fun s H C cl fp => chkE_ok elt (g.blk s H scope C cl fp) h5⟩
      | [], h => cases h
      | ⟨_, _, _, _⟩ :: _ :: _, h => cases h
  | .comp2 elt t it c t2 it2 c2, Γ, X, x, g, h => by
    cases x <;> first | (cases h; done) | skip
    case ListComp y gs scope p =>
      match gs, h with
      | [⟨tg, iter, ifs, a⟩, ⟨tg2, iter2, ifs2, a2⟩], h =>
        simp only [chkE, Bool.and_eq_true, decide_eq_true_eq] at h
        obtain ⟨⟨⟨⟨⟨⟨⟨⟨⟨⟨rfl, rfl⟩, h1⟩, ha⟩, h2⟩, h3⟩, h4⟩, h6⟩, h7⟩, h8⟩, h5⟩ := h
        obtain ⟨hp, I⟩ := chkI_ok it g h2
        have I2 := fun (s : Shared) (H : Hp) (C : Addr) (cl : List (Str × Addr)) (fp : List Addr) => chkI_ok it2 (g.blk s H scope C cl fp) h6
        have el := fun (s : Shared) (H : Hp) (C : Addr) (cl : List (Str × Addr)) (fp : List Addr) => chkE_ok elt (g.blk s H scope C cl fp) h5
        exact ok_comp2 g.K g.calm g.nd (by rw [g.N, g.sc]; exact blkOk_by h1) own_set (apartB_ok ha) hp (prOf_tup (it := it2) h6) I ⟨fun s H C cl fp => tgB_ok (g.blk s H scope C cl fp) h3, fun s H C cl fp => chkC_ok c (g.blk s H scope C cl fp) h4, el⟩
          ⟨fun s H C cl fp => tgB_ok (g.blk s H scope C cl fp) h7, fun s H C cl fp => chkC_ok c2 (g.blk s H scope C cl fp) h8, el⟩ (fun s H C cl fp => (I2 s H C cl fp).2) (fold_it h6)
      | [], h => cases h
      | [⟨_, _, _, _⟩], h => cases h
      | ⟨_, _, _, _⟩ :: ⟨_, _, _, _⟩ :: _ :: _, h => cases h
theorem chkL_ok : ∀ (es : Es) {Γ : Gam} {X : Cx} {xs : List Expr}, GOk D T k Γ X → chkL Γ es xs = true → AllOk D T k X es xs
  | .nil, Γ, X, [], g, h => ⟨lok_nil, vok_nil, fun _ => aok_nil, fun _ n => absurd rfl n, ⟨fun _ => rfl, fun _ => rfl⟩⟩
  | .nil, Γ, X, _ :: _, g, h => by cases h
  | .cons e es, Γ, X, [], g, h => by cases h
  | .cons e es, Γ, X, x :: xs, g, h => by
    simp only [chkL, Bool.and_eq_true] at h
    have A := chkE_ok e g h.1
    have B := chkL_ok es g h.2
    refine ⟨lok_cons A B.l, vok_cons A B.v, fun bs => aok_cons A (B.a (bs.drop 1)), fun kk _ => ?_, ⟨fun z => (nomatch z), fun z => (nomatch z)⟩⟩
    cases es with
    | nil =>
      cases xs with
      | nil => exact bok_one A
      | cons y ys => exact nomatch B.n.mp rfl
    | cons e2 es2 =>
      cases xs with
      | nil => exact nomatch B.n.mpr rfl
      | cons y ys => exact bok_cons A (B.b kk (fun z => nomatch z))
theorem chkO_ok : ∀ (o : Oe) {Γ : Gam} {X : Cx} {x : Option Expr}, GOk D T k Γ X → chkO Γ o x = true → OOk D X x (evO (borsOf T) (run T k) o)
  | .no, Γ, X, none, g, h => ook_no
  | .no, Γ, X, some _, g, h => by cases h
  | .yes e, Γ, X, some x, g, h => ook_yes (chkE_ok e g h)
  | .yes e, Γ, X, none, g, h => by cases h
theorem chkC_ok : ∀ (o : Oe) {Γ : Gam} {X : Cx} {x : List Expr}, GOk D T k Γ X → chkC Γ o x = true → COk D X x (evC (borsOf T) (run T k) o)
  | .no, Γ, X, [], g, h => cok_no
  | .no, Γ, X, _ :: _, g, h => by cases h
  | .yes e, Γ, X, [x], g, h => cok_yes (chkE_ok e g h)
  | .yes e, Γ, X, [], g, h => by cases h
  | .yes e, Γ, X, _ :: _ :: _, g, h => by cases h
theorem chkI_ok : ∀ (it : It) {Γ : Gam} {X : Cx} {t : Tg} {tg x : Expr}, GOk D T k Γ X → chkI Γ it t tg x = true → (prOf it = true → ∃ is, t = .tup is) ∧ IOk (prOf it) D X tg x (evI (borsOf T) (run T k) it)
  | .seq e, Γ, X, t, tg, x, g, h => by
    have E := chkE_ok e g h
    exact ⟨fun z => (nomatch z), iok_seq g.K E (ns_fold E.ns)⟩
  | .rng es, Γ, X, t, tg, x, g, h => by
    cases x <;> first | (cases h; done) | skip
    case Call f args kws p =>
      cases f <;> first | (cases h; done) | skip
      case Name y p2 =>
        cases kws <;> first | (cases h; done) | skip
        case nil =>
          simp only [chkI, Bool.and_eq_true] at h
          obtain ⟨⟨h1, h2⟩, h3⟩ := h
          obtain ⟨rfl, b, c⟩ := blB_ok g h1 (by decide)
          have A := chkL_ok es g h2
          cases args with
          | nil => cases h3
          | cons z zs => exact ⟨fun z => (nomatch z), iok_rng b c (by decide +kernel) (by decide) (by decide) A.v⟩
  | .enum e, Γ, X, t, tg, x, g, h => by
    cases x <;> first | (cases h; done) | skip
    case Call f args kws p =>
      cases f <;> first | (cases h; done) | skip
      case Name y p2 =>
        match args, kws, h with
        | [a], [], h =>
          simp only [chkI, Bool.and_eq_true] at h
          obtain ⟨⟨⟨h1, h2⟩, h3⟩, h4⟩ := h
          obtain ⟨rfl, b, c⟩ := blB_ok g h1 (by decide)
          cases tg <;> first | (cases h4; done) | skip
          case Tuple es j p3 => exact ⟨fun _ => isTup_ok h3, iok_enum g.K b c (by decide +kernel) (by decide) (by decide) (chkE_ok e g h2)⟩
        | [], _, h => cases h
        | _ :: _ :: _, _, h => cases h
        | [_], _ :: _, h => cases h
  | .zip es, Γ, X, t, tg, x, g, h => by
    cases x <;> first | (cases h; done) | skip
    case Call f args kws p =>
      cases f <;> first | (cases h; done) | skip
      case Name y p2 =>
        match args, kws, h with
        | [a, a2], [], h =>
          simp only [chkI, Bool.and_eq_true] at h
          obtain ⟨⟨⟨h1, h2⟩, h3⟩, h4⟩ := h
          obtain ⟨rfl, b, c⟩ := blB_ok g h1 (by decide)
          cases tg <;> first | (cases h4; done) | skip
          case Tuple es' j p3 => exact ⟨fun _ => isTup_ok h3, iok_zip g.K b c (by decide +kernel) (by decide) (by decide) (chkL_ok es g h2).v⟩
        | [], _, h => cases h
        | [_], _, h => cases h
        | _ :: _ :: _ :: _, _, h => cases h
        | [_, _], _ :: _, h => cases h
end
end
end Ev

/-! Ev22: the small text matches the row's text: statements. -/
namespace Ev
open PySem PySem.Spec PyProof.Rows L2
def isStarX : Expr → Bool
  | .Starred _ _ => true
  | _ => false
def locLine (sc : Scope) (line : Nat) : Expr → Option Str
  | .Name id pos => if sc.names.lookup id == some .local && pos.line == line then some id else none
  | _ => none
/-- the order of the stores: none of its own; from the right, the names; not told -/
def swS (sc : Scope) (ts vs : List Expr) : Option (Option (List Str)) :=
  if !(ts.length == 2 || ts.length == 3) || vs.length != ts.length then some none
  else if vs.any isStarX then some none
  else if (ts.filterMap (locLine sc ((ts.head?.map (·.pos.line)).getD 0))).length != ts.length || (ts.filterMap (locLine sc ((ts.head?.map (·.pos.line)).getD 0))).eraseDups.length != (ts.filterMap (locLine sc ((ts.head?.map (·.pos.line)).getD 0))).length then some none
  else if vs.all (foldedForSure 8) then some none
  else if vs.all (constantsAlone 8) then none
  else some (some (ts.filterMap (locLine sc ((ts.head?.map (·.pos.line)).getD 0))))
theorem swS_ok {env : PySem.Env} {sc : Scope} {ts vs : List Expr} {kt k2 : Nat} {pt pt2 : Pos} {r : Option (List Str)} (he : env.scope = sc) (hk : sc.kind = .function) (h : swS sc ts vs = some r) : swappedStores [.Tuple ts kt pt] (.Tuple vs k2 pt2) env = pure r := by
  have hb : env.blockKind = .function := by unfold Env.blockKind; rw [he, hk]; rfl
  have key : ∀ (F : Expr → Option Str) (G : Expr → Bool), (∀ x, F x = locLine sc ((ts.head?.map (·.pos.line)).getD 0) x) → (∀ x, G x = isStarX x) → (if (!(ts.length == 2 || ts.length == 3) || vs.length != ts.length || ScopeKind.function != ScopeKind.function) = true then (pure none : Sem (Option (List Str)))
      else if vs.any G = true then pure none
      else if ((ts.filterMap F).length != ts.length || (ts.filterMap F).eraseDups.length != (ts.filterMap F).length) = true then pure none
      else if vs.all (foldedForSure 8) = true then pure none
      else if vs.all (constantsAlone 8) = true then do
        unsupported "assign.tuple-of-constant-expressions:order-of-the-stores"
        pure (some (ts.filterMap F))
      else pure (some (ts.filterMap F))) = pure r := fun F G hF hG => by
    have eF : F = locLine sc ((ts.head?.map (·.pos.line)).getD 0) := funext hF
    have eG : G = isStarX := funext hG
    subst eF eG
    unfold swS at h
    have ef : (ScopeKind.function != ScopeKind.function) = false := rfl
    rw [ef, Bool.or_false]
    split at h
    · rename_i c
      rw [if_pos c]
      cases h; rfl
    · rename_i c
      rw [if_neg c]
      split at h
      · rename_i c2
        rw [if_pos c2]
        cases h; rfl
      · rename_i c2
        rw [if_neg c2]
        split at h
        · rename_i c3
          rw [if_pos c3]
          cases h; rfl
        · rename_i c3
          rw [if_neg c3]
          split at h
          · rename_i c4
            rw [if_pos c4]
            cases h; rfl
          · rename_i c4
            rw [if_neg c4]
            split at h
            · cases h
            · rename_i c5
              rw [if_neg c5]
              cases h; rfl
  unfold swappedStores
  simp only [hb]
  refine key _ _ (fun x => ?_) (fun x => ?_)
  · cases x <;> first | rfl | skip
    case Name id pos => show (if (env.scope.names.lookup id == some .local && pos.line == _) = true then some id else none) = _; rw [he]; rfl
  · cases x <;> rfl
/-- [..] stored on one line into a local -/
def swB (Γ : Gam) (x : Str) (p : Pos) : Expr → Bool
  | .ListComp _ _ scope cpos => lkIs Γ x .local && (p.line == cpos.line) && !(scope.names.any fun (n, k) => n == x && (k == .local || k == .cell))
  | _ => false
def swNo : Expr → Bool
  | .ListComp _ _ _ _ => false
  | .SetComp _ _ _ _ => false
  | .DictComp _ _ _ _ _ => false
  | _ => true
def noTupX : Expr → Bool
  | .Tuple _ _ _ => false
  | _ => true
def noDC : Expr → Bool
  | .SetComp _ _ _ _ => false
  | .DictComp _ _ _ _ _ => false
  | _ => true
def locB (Γ : Gam) (i : Nat) (x : Str) : Bool := oSt (nth Γ.N i) x && lkIs Γ x .local
def parB (Γ : Gam) (is : List Nat) (ts vs : List Expr) : Bool := match swS Γ.sc ts vs with
  | none => false
  | some none => namesB Γ is ts && decide (is.length ≤ 1000)
  | some (some names) => match ts, is, vs with
    | [.Name x _, .Name y _], [i, j], [_, _] => decide (names = [x, y]) && locB Γ i x && locB Γ j y && decide (i ≠ j)
    | [.Name x _, .Name y _, .Name z _], [i, j, l], [_, _, _] => decide (names = [x, y, z]) && locB Γ i x && locB Γ j y && locB Γ l z && decide (i ≠ j) && decide (i ≠ l) && decide (j ≠ l)
    | _, _, _ => false
mutual
def chkS (Γ : Gam) : S → Stmt → Bool
  | .set i e, .Assign [.Name x p] v _ => stB Γ i x && chkE Γ e v
  | .par is es, .Assign [.Tuple ts _ _] (.Tuple vs _ _) _ => chkL Γ es vs && parB Γ is ts vs
  | .unp is e, .Assign [.Tuple ts kt pt] v _ => tgB Γ (.tup is) (.Tuple ts kt pt) && chkE Γ e v && noTupX v
  | .put x k e, .Assign [.Subscript (.Name y _) s _] v _ => vaB Γ x y && chkE Γ k s && chkE Γ e v
  | .app x e, .Expr (.Call (.Attribute (.Name y _) name apos) [v] [] cpos) _ => vaB Γ x y && sEq name "append" && chkE Γ e v && (apos.endLine == cpos.line)
  | .ex e, .Expr v _ => chkE Γ e v && swNo v
  | .doc, .Expr (.Constant (.str _) _ _) _ => true
  | .ret e, .Return (some v) _ => chkE Γ e v
  | .ife c a b, .If t x y _ => chkE Γ c t && chkSs Γ a x && chkSs Γ b y
  | .for_ t it b, .For tg iter body [] _ => chkI Γ it t tg iter && tgB Γ t tg && chkSs Γ b body
  | .whl c b, .While t body [] _ => chkE Γ c t && chkSs Γ b body
  | .try_ b, .Try body hs [] [] _ => isCons hs && chkSs Γ b body
  | _, _ => false
def chkSs (Γ : Gam) : Ss → List Stmt → Bool
  | .nil, [] => true
  | .cons s ss, x :: xs => chkS Γ s x && chkSs Γ ss xs
  | _, _ => false
end
section
variable {D : Dom} {T : Tab} {k : Nat} {Γ : Gam} {X : Cx}
theorem chk_dc : ∀ {e : E} {x : Expr}, chkE Γ e x = true → noDC x = true := by
  intro e x h
  cases x <;> first | rfl | skip
  all_goals (cases e <;> cases h)
theorem sw_no {v : Expr} {tg : Option Expr} {l : Nat} {env : PySem.Env} (h : swNo v = true) : swapsWith v tg l env = pure false := by
  cases v <;> first | (cases h; done) | rfl
theorem sw_comp {v : Expr} {x : Str} {p : Pos} {l : Nat} (g : GOk D T k Γ X) (kd : Γ.sc.kind = .function) (h : noDC v = true) : swapsWith v (some (.Name x p)) l X.env = pure (swB Γ x p v) := by
  cases v <;> first | (cases h; done) | rfl | skip
  case ListComp elt gs scope cpos =>
    have hb : X.env.blockKind = .function := by unfold Env.blockKind; rw [g.sc, kd]; rfl
    unfold swapsWith
    simp only [hb]
    show (pure (ScopeKind.function == ScopeKind.function && X.env.scope.names.lookup x == some .local && p.line == cpos.line && !(scope.names.any fun (n, k) => n == x && (k == .local || k == .cell))) : Sem Bool) = _
    rw [g.sc]
    unfold swB lkIs
    congr 2
    cases Γ.sc.names.lookup x with
    | none => rfl
    | some j => cases j <;> rfl
/-- a comprehension stored where it is made, or behind -/
theorem chk_set (e : E) {v : Expr} {i : Nat} {x : Str} {p pos : Pos} (g : GOk D T k Γ X) (kd : Γ.sc.kind = .function) (hs : stB Γ i x = true) (h : chkE Γ e v = true) : SOk D X (.Assign [.Name x p] v pos) (sSet i (evR (borsOf T) (run T k) e)) := by
  have st := stB_ok g hs
  have sw := sw_comp (x := x) (p := p) (l := pos.line) g kd (chk_dc h)
  cases hw : swB Γ x p v with
  | false =>
    rw [hw] at sw
    exact st_set st (chkE_ok e g h) sw
  | true =>
    rw [hw] at sw
    cases v <;> first | (cases hw; done) | skip
    case ListComp y gs scope cpos =>
      simp only [swB, Bool.and_eq_true] at hw
      have hl : X.env.scope.names.lookup x = some .local := by rw [g.sc]; exact lkIs_ok hw.1.1
      cases e <;> first | (cases h; done) | skip
      case comp elt t it c =>
        match gs, h, sw with
        | [⟨tg, iter, ifs, a⟩], h, sw =>
          simp only [chkE, Bool.and_eq_true, decide_eq_true_eq] at h
          obtain ⟨⟨⟨⟨⟨rfl, h1⟩, h2⟩, h3⟩, h4⟩, h5⟩ := h
          obtain ⟨hp, I⟩ := chkI_ok it g h2
          exact st_setLc g.K g.calm st hl sw (by rw [g.N, g.sc]; exact blkOk_by h1) own_set hp I ⟨fun s H C cl fp => tgB_ok (g.blk s H scope C cl fp) h3, fun s H C cl fp => chkC_ok c (g.blk s H scope C cl fp) h4, fun s H C cl fp => chkE_ok elt (g.blk s H scope C cl fp) h5⟩
        | [], h, _ => cases h
        | ⟨_, _, _, _⟩ :: _ :: _, h, _ => cases h
      case comp2 elt t it c t2 it2 c2 =>
        match gs, h, sw with
        | [⟨tg, iter, ifs, a⟩, ⟨tg2, iter2, ifs2, a2⟩], h, sw =>
          simp only [chkE, Bool.and_eq_true, decide_eq_true_eq] at h
          obtain ⟨⟨⟨⟨⟨⟨⟨⟨⟨⟨rfl, rfl⟩, h1⟩, ha⟩, h2⟩, h3⟩, h4⟩, h6⟩, h7⟩, h8⟩, h5⟩ := h
          obtain ⟨hp, I⟩ := chkI_ok it g h2
          have I2 := fun (s : Shared) (H : Hp) (C : Addr) (cl : List (Str × Addr)) (fp : List Addr) => chkI_ok it2 (g.blk s H scope C cl fp) h6
          have el := fun (s : Shared) (H : Hp) (C : Addr) (cl : List (Str × Addr)) (fp : List Addr) => chkE_ok elt (g.blk s H scope C cl fp) h5
          exact st_setLc2 g.K g.calm st hl sw (by rw [g.N, g.sc]; exact blkOk_by h1) own_set (apartB_ok ha) hp (prOf_tup (it := it2) h6) I ⟨fun s H C cl fp => tgB_ok (g.blk s H scope C cl fp) h3, fun s H C cl fp => chkC_ok c (g.blk s H scope C cl fp) h4, el⟩
            ⟨fun s H C cl fp => tgB_ok (g.blk s H scope C cl fp) h7, fun s H C cl fp => chkC_ok c2 (g.blk s H scope C cl fp) h8, el⟩ (fun s H C cl fp => (I2 s H C cl fp).2) (fold_it h6)
        | [], h, _ => cases h
        | [⟨_, _, _, _⟩], h, _ => cases h
        | ⟨_, _, _, _⟩ :: ⟨_, _, _, _⟩ :: _ :: _, h, _ => cases h
theorem locB_ok (g : GOk D T k Γ X) {i : Nat} {x : Str} (h : locB Γ i x = true) : X.N[i]? = some x ∧ X.env.scope.names.lookup x = some .local := by
  unfold locB at h
  rw [Bool.and_eq_true] at h
  exact ⟨by rw [g.N, ← nth_eq]; exact oSt_ok h.1, by rw [g.sc]; exact lkIs_ok h.2⟩
theorem chk_par (g : GOk D T k Γ X) (kd : Γ.sc.kind = .function) {is : List Nat} {ts vs : List Expr} {kt k2 : Nat} {pt pt2 pos : Pos} {fl : Lc} (A : LOk D X vs fl) (h : parB Γ is ts vs = true) : SOk D X (.Assign [.Tuple ts kt pt] (.Tuple vs k2 pt2) pos) (sPar is fl) := by
  unfold parB at h
  cases e : swS Γ.sc ts vs with
  | none => rw [e] at h; cases h
  | some r =>
    have sw := swS_ok (kt := kt) (k2 := k2) (pt := pt) (pt2 := pt2) g.sc kd e
    rw [e] at h
    cases r with
    | none =>
      simp only [Bool.and_eq_true, decide_eq_true_eq] at h
      exact st_parN g.K g.calm (namesB_ok g h.1) h.2 A sw
    | some names =>
      simp only at h
      split at h
      · rename_i x px y py i j a b
        simp only [Bool.and_eq_true, decide_eq_true_eq] at h
        obtain ⟨⟨⟨rfl, h1⟩, h2⟩, h3⟩ := h
        obtain ⟨a1, a2⟩ := locB_ok g h1
        obtain ⟨b1, b2⟩ := locB_ok g h2
        exact st_par2 g.calm g.nd a1 b1 h3 a2 b2 A sw
      · rename_i x px y py z pz i j l a b c
        simp only [Bool.and_eq_true, decide_eq_true_eq] at h
        obtain ⟨⟨⟨⟨⟨⟨rfl, h1⟩, h2⟩, h3⟩, h4⟩, h5⟩, h6⟩ := h
        obtain ⟨a1, a2⟩ := locB_ok g h1
        obtain ⟨b1, b2⟩ := locB_ok g h2
        obtain ⟨c1, c2⟩ := locB_ok g h3
        exact st_par3 g.calm g.nd a1 b1 c1 h4 h5 h6 a2 b2 c2 A sw
      · cases h
theorem vaB_va (g : GOk D T k Γ X) {i : Nat} {x : Str} (h : vaB Γ i x = true) : VaOk X i x := let ⟨a, b, c, d⟩ := vaB_ok g h; ⟨a, b, c, d⟩
theorem ns_put {o s : Expr} {tpos : Pos} {env : PySem.Env} (h : noStar s = true) : ∀ v, assign (.Subscript o s tpos) env v = (do
      let ov ← holding [v] (eval o env)
      let iv ← holding [v, ov] (eval s env)
      standAt tpos
      holding [v, ov, iv] (setItem ov iv v)
      release [v, ov, iv] []) := by
  cases s <;> first | (cases h; done) | (intro v; rfl)
mutual
theorem chkS_ok : ∀ (s : S) {X : Cx} {st : Stmt}, GOk D T k Γ X → Γ.sc.kind = .function → chkS Γ s st = true → SOk D X st (exS (borsOf T) (run T k) s)
  | .set i e, X, st, g, kd, h => by
    cases st <;> first | (cases h; done) | skip
    case Assign ts v pos =>
      match ts, h with
      | [.Name x p], h =>
        simp only [chkS, Bool.and_eq_true] at h
        exact chk_set e g kd h.1 h.2
      | [], h => cases h
      | t :: _ :: _, h => cases t <;> cases h
      | [.BoolOp _ _ _], h => cases h
      | [.NamedExpr _ _ _], h => cases h
      | [.BinOp _ _ _ _], h => cases h
      | [.UnaryOp _ _ _], h => cases h
      | [.Lambda _ _ _ _], h => cases h
      | [.IfExp _ _ _ _], h => cases h
      | [.Dict _ _ _], h => cases h
      | [.Set _ _ _], h => cases h
      | [.ListComp _ _ _ _], h => cases h
      | [.SetComp _ _ _ _], h => cases h
      | [.DictComp _ _ _ _ _], h => cases h
      | [.GeneratorExp _ _ _ _], h => cases h
      | [.Await _ _], h => cases h
      | [.Yield _ _], h => cases h
      | [.YieldFrom _ _], h => cases h
      | [.Compare _ _ _ _], h => cases h
      | [.Call _ _ _ _], h => cases h
      | [.FormattedValue _ _ _ _], h => cases h
      | [.JoinedStr _ _], h => cases h
      | [.Constant _ _ _], h => cases h
      | [.Attribute _ _ _], h => cases h
      | [.Subscript _ _ _], h => cases h
      | [.Starred _ _], h => cases h
      | [.List _ _], h => cases h
      | [.Tuple _ _ _], h => cases h
      | [.Slice _ _ _ _], h => cases h
  | .par is es, X, st, g, kd, h => by
    cases st <;> first | (cases h; done) | skip
    case Assign ts v pos =>
      cases ts <;> first | (cases h; done) | skip
      case cons t ts =>
        cases ts <;> first | (cases h; done) | (cases t <;> cases h; done) | skip
        case nil =>
          cases t <;> first | (cases h; done) | skip
          case Tuple ts kt pt =>
            cases v <;> first | (cases h; done) | skip
            case Tuple vs k2 pt2 =>
              simp only [chkS, Bool.and_eq_true] at h
              exact chk_par g kd (chkL_ok es g h.1).l h.2
  | .unp is e, X, st, g, kd, h => by
    cases st <;> first | (cases h; done) | skip
    case Assign ts v pos =>
      cases ts <;> first | (cases h; done) | skip
      case cons t ts =>
        cases ts <;> first | (cases h; done) | (cases t <;> cases h; done) | skip
        case nil =>
          cases t <;> first | (cases h; done) | skip
          case Tuple ts kt pt =>
            simp only [chkS, Bool.and_eq_true] at h
            obtain ⟨⟨h1, h2⟩, h3⟩ := h
            refine st_unp g.K g.calm (tgB_ok g h1) (chkE_ok e g h2) ?_ ?_
            · cases v <;> first | rfl | (cases h3; done)
            · cases v <;> first | rfl | (cases h3; done)
  | .put x kk e, X, st, g, kd, h => by
    cases st <;> first | (cases h; done) | skip
    case Assign ts v pos =>
      cases ts <;> first | (cases h; done) | skip
      case cons t ts =>
        cases t <;> first | (cases h; done) | skip
        case Subscript o s tpos =>
          cases o <;> first | (cases h; done) | skip
          case Name y p =>
            cases ts with
            | nil =>
              simp only [chkS, Bool.and_eq_true] at h
              obtain ⟨⟨h1, h2⟩, h3⟩ := h
              have K := chkE_ok kk g h2
              refine st_put (vaB_va g h1) K (chkE_ok e g h3) (ns_put K.ns) ?_
              cases v <;> rfl
            | cons _ _ => cases h
  | .app x e, X, st, g, kd, h => by
    cases st <;> first | (cases h; done) | skip
    case Expr v pos =>
      cases v <;> first | (cases h; done) | skip
      case Call f args kws cpos =>
        cases f <;> first | (cases h; done) | skip
        case Attribute o name apos =>
          cases o <;> first | (cases h; done) | skip
          case Name y p =>
            match args, kws, h with
            | [v], [], h =>
              simp only [chkS, Bool.and_eq_true] at h
              obtain ⟨⟨⟨h1, h2⟩, h3⟩, h4⟩ := h
              obtain rfl := sEq_ok h2
              exact st_app (vaB_va g h1) (chkE_ok e g h3) h4 rfl
            | [], _, h => cases h
            | _ :: _ :: _, _, h => cases h
            | [_], _ :: _, h => cases h
  | .ex e, X, st, g, kd, h => by
    cases st <;> first | (cases h; done) | skip
    case Expr v pos =>
      simp only [chkS, Bool.and_eq_true] at h
      exact st_ex (chkE_ok e g h.1) (sw_no h.2)
  | .doc, X, st, g, kd, h => by
    cases st <;> first | (cases h; done) | skip
    case Expr v pos =>
      cases v <;> first | (cases h; done) | skip
      case Constant c j p => cases c <;> first | (cases h; done) | exact st_doc
  | .ret e, X, st, g, kd, h => by
    cases st <;> first | (cases h; done) | skip
    case Return v pos =>
      cases v with
      | none => cases h
      | some v => exact st_ret (chkE_ok e g h)
  | .ife c a b, X, st, g, kd, h => by
    cases st <;> first | (cases h; done) | skip
    case If t x y pos =>
      simp only [chkS, Bool.and_eq_true] at h
      exact st_if (chkE_ok c g h.1.1) (chkSs_ok a g kd h.1.2) (chkSs_ok b g kd h.2)
  | .for_ t it b, X, st, g, kd, h => by
    cases st <;> first | (cases h; done) | skip
    case For tg iter body orelse pos =>
      cases orelse with
      | nil =>
        simp only [chkS, Bool.and_eq_true] at h
        obtain ⟨hp, I⟩ := chkI_ok it g h.1.1
        exact st_for g.K g.calm hp I (tgB_ok g h.1.2) (chkSs_ok b g kd h.2)
      | cons _ _ => cases h
  | .whl c b, X, st, g, kd, h => by
    cases st <;> first | (cases h; done) | skip
    case While t body orelse pos =>
      cases orelse with
      | nil =>
        simp only [chkS, Bool.and_eq_true] at h
        exact st_while (chkE_ok c g h.1) (chkSs_ok b g kd h.2)
      | cons _ _ => cases h
  | .try_ b, X, st, g, kd, h => by
    cases st <;> first | (cases h; done) | skip
    case Try body hs orelse fin pos =>
      cases orelse <;> first | (cases h; done) | skip
      case nil =>
        cases fin <;> first | (cases h; done) | skip
        case nil =>
          simp only [chkS, Bool.and_eq_true] at h
          cases hs with
          | nil => cases h.1
          | cons h0 hs => exact st_try (chkSs_ok b g.nox kd h.2)
theorem chkSs_ok : ∀ (ss : Ss) {X : Cx} {sts : List Stmt}, GOk D T k Γ X → Γ.sc.kind = .function → chkSs Γ ss sts = true → SsOk D X sts (exSs (borsOf T) (run T k) ss)
  | .nil, X, [], g, kd, h => ss_nil
  | .nil, X, _ :: _, g, kd, h => by cases h
  | .cons s ss, X, [], g, kd, h => by cases h
  | .cons s ss, X, st :: sts, g, kd, h => by
    simp only [chkSs, Bool.and_eq_true] at h
    exact ss_cons (chkS_ok s g kd h.1) (chkSs_ok ss g kd h.2)
end
end
end Ev

/-! Ev23: defs: each keeps the evaluator's promise. -/
namespace Ev
open PySem PySem.Spec PyProof.Rows L2
section
variable {D : Dom} {W : WX} {Z Z' : Addr → Prop} {H H' : Hp} {args : List Sl} {vs : List V} {m : Nat} {ρ' os : Env} {σ' : St}
theorem nos_len : ∀ m : Nat, (nos m).length = m
  | 0 => rfl
  | m + 1 => congrArg (· + 1) (nos_len m)
theorem get_nos : ∀ {m i : Nat}, get (nos m) i = .no
  | 0, _ => rfl
  | _ + 1, 0 => rfl
  | m + 1, i + 1 => get_nos (m := m)
theorem get_args : ∀ {args : List Sl} {m i : Nat}, get (args ++ nos m) i = get args i
  | [], m, i => get_nos
  | _ :: _, _, 0 => rfl
  | _ :: r, m, i + 1 => get_args (args := r)
abbrev st0 (vs : List V) (m : Nat) : St := vs.map some ++ List.replicate m none
theorem st0_some {vs : List V} {m i : Nat} {x : V} : (st0 vs m)[i]? = some (some x) ↔ (vs.map some)[i]? = some (some x) := by
  show (vs.map some ++ List.replicate m none)[i]? = _ ↔ _
  by_cases h : i < (vs.map some).length
  · rw [List.getElem?_append_left h]
  · rw [List.getElem?_append_right (by omega), List.getElem?_eq_none (l := vs.map some) (by omega), List.getElem?_replicate]
    constructor
    · intro h
      split at h <;> cases h
    · intro h; cases h
/-- the arguments as the evaluator takes them -/
def ArgF (args : List Sl) : Prop := ∀ i, get args i = .no ∨ (∃ v, get args i = .sh false v) ∨ ∃ vs, get args i = .ow true vs
theorem Rl.entry (rl : Rl D Z args (vs.map some) H) : Rl D Z (args ++ nos m) (st0 vs m) H := by
  have own : ∀ i a, OwnAt (args ++ nos m) (st0 vs m) i a → OwnAt args (vs.map some) i a := fun i a ⟨h1, h2⟩ => ⟨by rw [← get_args (m := m)]; exact h1, st0_some.mp h2⟩
  refine ⟨fun i => ?_, fun i j a h1 h2 => rl.apart i j a (own i a h1) (own j a h2), ?_, rl.zt⟩
  · rw [get_args]
    have s := rl.slot i
    cases g : get args i with
    | no => trivial
    | sh l v =>
      rw [g] at s
      obtain ⟨x, e, q⟩ := s
      exact ⟨x, st0_some.mpr e, q⟩
    | ow l ws =>
      rw [g] at s
      obtain ⟨a, xs, e, q⟩ := s
      exact ⟨a, xs, st0_some.mpr e, q⟩
    | rd l ws =>
      rw [g] at s
      obtain ⟨a, xs, e, q⟩ := s
      exact ⟨a, xs, st0_some.mpr e, q⟩
  · rw [List.length_append, nos_len, List.length_append, List.length_replicate, rl.len]
theorem get_take0 : ∀ {n i : Nat}, get (takeSl n []) i = .no
  | 0, _ => rfl
  | _ + 1, 0 => rfl
  | n + 1, i + 1 => get_take0 (n := n)
theorem get_take : ∀ {n : Nat} {ρ : Env} {i : Nat}, get (takeSl n ρ) i = .no ∨ (locked (get ρ i) = true ∧ i < n ∧ ((∃ v, get ρ i = .sh true v ∧ get (takeSl n ρ) i = .sh true v) ∨ (∃ v, get ρ i = .ow true v ∧ get (takeSl n ρ) i = .ow true v) ∨ ∃ v, get ρ i = .rd true v ∧ get (takeSl n ρ) i = .ow true v))
  | 0, _, _ => .inl rfl
  | _ + 1, [], _ => .inl get_take0
  | n + 1, .sh true v :: r, 0 => .inr ⟨rfl, Nat.zero_lt_succ _, .inl ⟨v, rfl, rfl⟩⟩
  | n + 1, .ow true v :: r, 0 => .inr ⟨rfl, Nat.zero_lt_succ _, .inr (.inl ⟨v, rfl, rfl⟩)⟩
  | n + 1, .rd true v :: r, 0 => .inr ⟨rfl, Nat.zero_lt_succ _, .inr (.inr ⟨v, rfl, rfl⟩)⟩
  | n + 1, .no :: r, 0 => .inl rfl
  | n + 1, .sh false v :: r, 0 => .inl rfl
  | n + 1, .ow false v :: r, 0 => .inl rfl
  | n + 1, .rd false v :: r, 0 => .inl rfl
  | n + 1, s :: r, i + 1 => by
    have e : get (takeSl (n + 1) (s :: r)) (i + 1) = get (takeSl n r) i := by
      cases s with
      | no => rfl
      | sh l v => cases l <;> rfl
      | ow l v => cases l <;> rfl
      | rd l v => cases l <;> rfl
    rw [e]
    rcases get_take (n := n) (ρ := r) (i := i) with h | ⟨h1, h2, h3⟩
    · exact .inl h
    · exact .inr ⟨h1, Nat.succ_lt_succ h2, h3⟩
theorem take_len : ∀ {n : Nat} {ρ : Env}, (takeSl n ρ).length = n
  | 0, _ => rfl
  | n + 1, [] => congrArg (· + 1) (take_len (n := n))
  | n + 1, s :: r => by
    have ih := take_len (n := n) (ρ := r)
    cases s with
    | no => exact congrArg (· + 1) ih
    | sh l v => cases l <;> exact congrArg (· + 1) ih
    | ow l v => cases l <;> exact congrArg (· + 1) ih
    | rd l v => cases l <;> exact congrArg (· + 1) ih
/-- a locked slot holds what it held at the entry -/
theorem lock_at (st : Stp Z (args ++ nos m) (st0 vs m) H Z' ρ' σ' H') {i : Nat} (h : locked (get ρ' i) = true) : locked (get args i) = true ∧ σ'[i]? = (st0 vs m)[i]? := by
  have h1 := st.lk2 i h
  have h2 := (st.lk i h1).2
  rw [get_args] at h1
  exact ⟨h1, h2⟩
theorem take_owns {n i : Nat} {ρ : Env} (h : owns (get (takeSl n ρ) i) = true) : owns (get ρ i) = true ∧ locked (get ρ i) = true := by
  rcases get_take (n := n) (ρ := ρ) (i := i) with e | ⟨hl, _, ⟨v, g, e⟩ | ⟨v, g, e⟩ | ⟨v, g, e⟩⟩
  · rw [e] at h; cases h
  · rw [e] at h; cases h
  · exact ⟨by rw [g]; rfl, hl⟩
  · exact ⟨by rw [g]; rfl, hl⟩
/-- what is lent comes back: as the caller sees it -/
theorem def_exit {n : Nat} (hf : ArgF args) (hn : args.length = n) (rl0 : Rl D Z args (vs.map some) H) (rl : Rl D Z' ρ' σ' H') (st : Stp Z (args ++ nos m) (st0 vs m) H Z' ρ' σ' H') :
    Rl D Z' (takeSl n ρ') (vs.map some) H' ∧ Stp Z args (vs.map some) H Z' (takeSl n ρ') (vs.map some) H' ∧ (∀ a, Ow (takeSl n ρ') (vs.map some) a → Ow ρ' σ' a) := by
  have ow0 : ∀ i a, OwnAt (args ++ nos m) (st0 vs m) i a → OwnAt args (vs.map some) i a := fun i a ⟨h1, h2⟩ => ⟨by rw [← get_args (m := m)]; exact h1, st0_some.mp h2⟩
  have wr0 : ∀ a, Wr (args ++ nos m) (st0 vs m) a → Wr args (vs.map some) a := fun a ⟨i, h1, h2⟩ => ⟨i, by rw [← get_args (m := m)]; exact h1, st0_some.mp h2⟩
  have σe : ∀ i x, locked (get ρ' i) = true → σ'[i]? = some (some x) → (vs.map some)[i]? = some (some x) := fun i x h e => by
    rw [(lock_at st h).2] at e
    exact st0_some.mp e
  have own : ∀ i a, OwnAt (takeSl n ρ') (vs.map some) i a → OwnAt ρ' σ' i a := fun i a ⟨h1, h2⟩ => by
    obtain ⟨a1, a2⟩ := take_owns h1
    exact ⟨a1, by rw [(lock_at st a2).2]; exact st0_some.mpr h2⟩
  refine ⟨⟨fun i => ?_, fun i j a h1 h2 => rl.apart i j a (own i a h1) (own j a h2), ?_, rl.zt⟩, ⟨st.z, fun a h => ?_, fun a o e w => st.fr a o e fun w' => w (wr0 a w'), st.tr, fun i a h => ?_, fun a ⟨i, h1, h2⟩ => ?_, fun i h => ?_, fun i h => ?_⟩, fun a ⟨i, h⟩ => ⟨i, own i a h⟩⟩
  · rcases get_take (n := n) (ρ := ρ') (i := i) with e | ⟨hl, _, ⟨v, g, e⟩ | ⟨v, g, e⟩ | ⟨v, g, e⟩⟩
    · rw [e]; trivial
    · have s := rl.slot i
      rw [g] at s
      obtain ⟨x, e1, q⟩ := s
      rw [e]
      exact ⟨x, σe i x hl e1, q⟩
    · have s := rl.slot i
      rw [g] at s
      obtain ⟨a, xs, e1, q⟩ := s
      rw [e]
      exact ⟨a, xs, σe i _ hl e1, q⟩
    · have s := rl.slot i
      rw [g] at s
      obtain ⟨a, xs, e1, q⟩ := s
      rw [e]
      exact ⟨a, xs, σe i _ hl e1, q⟩
  · rw [take_len, ← hn, rl0.len]
  · rcases st.zz a h with h | ⟨i, h⟩ | h
    · exact .inl h
    · exact .inr (.inl ⟨i, ow0 i a h⟩)
    · exact .inr (.inr h)
  · rcases st.ow1 i a (own i a h) with h | h
    · exact .inl (ow0 i a h)
    · exact .inr h
  · rcases st.ow1 i a (own i a ⟨writes_owns h1, h2⟩) with h | h
    · obtain ⟨o1, o2⟩ := ow0 i a h
      refine .inl ⟨i, ?_, o2⟩
      rcases hf i with e | ⟨v, e⟩ | ⟨v, e⟩
      · rw [e] at o1; cases o1
      · rw [e] at o1; cases o1
      · rw [e]; rfl
    · exact .inr h
  · have h1 : locked (get (args ++ nos m) i) = true := by rw [get_args]; exact h
    have h2 := (st.lk i h1).1
    refine ⟨?_, rfl⟩
    have hi : i < n := by
      rw [← hn]
      exact get_lt fun e => by rw [e] at h; cases h
    have key : ∀ {n i : Nat} {ρ : Env}, i < n → locked (get ρ i) = true → locked (get (takeSl n ρ) i) = true := by
      intro n
      induction n with
      | zero => intro i ρ hi; omega
      | succ n ih =>
        intro i ρ hi h
        cases ρ with
        | nil => cases h
        | cons s r =>
          cases i with
          | zero =>
            cases s with
            | no => cases h
            | sh l v => cases l <;> first | rfl | cases h
            | ow l v => cases l <;> first | rfl | cases h
            | rd l v => cases l <;> first | rfl | cases h
          | succ i =>
            have := ih (i := i) (ρ := r) (by omega) h
            cases s with
            | no => exact this
            | sh l v => cases l <;> exact this
            | ow l v => cases l <;> exact this
            | rd l v => cases l <;> exact this
    exact key hi h2
  · rcases get_take (n := n) (ρ := ρ') (i := i) with e | ⟨hl, _⟩
    · rw [e] at h; cases h
    · exact (lock_at st hl).1
end
end Ev

/-! Ev24: the table: every def of the row keeps the evaluator's promise. -/
namespace Ev
open PySem PySem.Spec PyProof.Rows L2
/-- a def of the row, its slots' names -/
structure RD where
  name : Str
  params : Arguments
  body : List Stmt
  scope : Scope
  N : List Str
  np : Nat
def RD.ps (r : RD) : List Str := r.N.take r.np
def RD.gam (fns : List Str) (r : RD) : Gam := ⟨r.N, r.scope, fun _ => true, fns⟩
def nodupB : List Str → Bool
  | [] => true
  | x :: r => !(r.any fun y => sEq x y) && nodupB r
theorem nodupB_ok : ∀ {l : List Str}, nodupB l = true → l.Nodup
  | [], _ => List.Pairwise.nil
  | x :: r, h => by
    simp only [nodupB, Bool.and_eq_true, Bool.not_eq_true'] at h
    refine List.nodup_cons.mpr ⟨fun m => ?_, nodupB_ok h.2⟩
    have : (r.any fun y => sEq x y) = true := List.any_eq_true.mpr ⟨x, m, decide_eq_true rfl⟩
    rw [h.1] at this
    cases this
def parOk (sc : Scope) (x : Str) : Bool := match sc.names.lookup x with
  | some .local => true
  | some .cell => true
  | _ => false
def noFreeB : List (Str × NameKind) → Bool
  | [] => true
  | (_, .free) :: _ => false
  | _ :: r => noFreeB r
theorem noFreeB_ok : ∀ {l : List (Str × NameKind)}, noFreeB l = true → ∀ y ∈ l, y.2 ≠ .free
  | [], _, y, h => by cases h
  | (x, k) :: r, h, y, hy => by
    have h' : k ≠ .free ∧ noFreeB r = true := by cases k <;> first | (cases h; done) | exact ⟨fun z => (nomatch z), h⟩
    rcases List.mem_cons.mp hy with rfl | hy
    · exact h'.1
    · exact noFreeB_ok h'.2 y hy
def scopeB (r : RD) : Bool := decide (r.scope.kind = .function) && !r.scope.isCoroutine && !r.scope.isGenerator && nodupB r.N && r.ps.all (parOk r.scope) && noFreeB r.scope.names
theorem scopeB_ok {r : RD} (h : scopeB r = true) (hl : r.np ≤ r.N.length) : FnScope r.N r.ps r.scope := by
  simp only [scopeB, Bool.and_eq_true, decide_eq_true_eq, Bool.not_eq_true'] at h
  obtain ⟨⟨⟨⟨⟨h1, h2⟩, h3⟩, h4⟩, h5⟩, h6⟩ := h
  refine ⟨h1, h2, h3, nodupB_ok h4, ?_, fun x hx => ?_, noFreeB_ok h6⟩
  · show r.N.take (r.N.take r.np).length = r.N.take r.np
    rw [List.length_take, Nat.min_eq_left hl]
  · have := List.all_eq_true.mp h5 x hx
    unfold parOk at this
    split at this
    · exact .inl (by assumption)
    · exact .inr (by assumption)
    · cases this
def chkD (fns : List Str) (d : Def) (r : RD) : Bool := scopeB r && decide (d.np = r.np) && decide (d.ns = r.N.length) && decide (r.np ≤ r.N.length) && chkSs (r.gam fns) d.body r.body
def chkT (fns : List Str) : List Def → List RD → Bool
  | [], [] => true
  | d :: ds, r :: rs => chkD fns d r && chkT fns ds rs
  | _, _ => false
theorem chkT_at {fns : List Str} : ∀ {ds : List Def} {rs : List RD} {j : Nat}, chkT fns ds rs = true → (∀ d, nth ds j = some d → ∃ r, rs[j]? = some r ∧ chkD fns d r = true)
  | [], [], j, _, d, e => by cases e
  | d :: ds, r :: rs, 0, h, d', e => by
    cases e
    simp only [chkT, Bool.and_eq_true] at h
    exact ⟨r, rfl, h.1⟩
  | d :: ds, r :: rs, j + 1, h, d', e => by
    simp only [chkT, Bool.and_eq_true] at h
    obtain ⟨r', e', h'⟩ := chkT_at h.2 d' e
    exact ⟨r', by simpa using e', h'⟩
  | [], _ :: _, _, h, _, _ => by cases h
  | _ :: _, [], _, h, _, _ => by cases h
/-- how arguments are bound -/
def BindP (r : RD) : Prop := ∀ (kV doc pm : Value) (an : Option Addr) (cdv ct : Value) (us : List Value), us.length = r.np → bindArgs (PySem.W.fnOf r.name r.name r.params r.body r.scope .none kV doc pm an cdv ct) ⟨us, []⟩ = pure (r.ps.zip us)
/-- what is known of the written part -/
structure Says (D : Dom) (rs : List RD) (mg : Str → Option Value) : Prop where
  fn : ∀ (j : Nat) (r : RD), rs[j]? = some r → ∃ fd, FunD D.K r.name r.name r.params r.body r.scope [] [] (D.adr j) fd
  bd : ∀ (j : Nat) (r : RD), rs[j]? = some r → BindP r
  gl : ∀ (j : Nat) (r : RD), rs[j]? = some r → mg r.name = some (.ref (D.adr j))
  blt : ∀ n ∈ bltNames, mg (Str.ofString n) = none
section
variable {D : Dom} {T : Tab} {rs : List RD} {P : Program} {w : World} {mg : Str → Option Value} {base : Heap}
theorem noLent_form : ∀ {args : List Sl}, noLent args = true → ∀ i, get args i = .no ∨ ∃ v, get args i = .sh false v
  | [], _, _ => .inl rfl
  | .sh false v :: r, _, 0 => .inr ⟨v, rfl⟩
  | .sh false v :: r, h, i + 1 => noLent_form (args := r) h i
theorem args_noLent : ∀ {args : List Sl}, (∀ i, i < args.length → get args i ≠ .no) → ArgF args → (∀ i, owns (get args i) = false) → noLent args = true
  | [], _, _, _ => rfl
  | s :: r, hn, hf, h => by
    have h0 := h 0
    have f0 := hf 0
    have n0 := hn 0 (Nat.zero_lt_succ _)
    have hs : ∃ v, s = .sh false v := by
      rcases f0 with e | ⟨v, e⟩ | ⟨v, e⟩
      · exact absurd e n0
      · exact ⟨v, e⟩
      · have : s = .ow true v := e
        subst this
        cases h0
    obtain ⟨v, rfl⟩ := hs
    exact args_noLent (args := r) (fun i hi => hn (i + 1) (Nat.succ_lt_succ hi)) (fun i => hf (i + 1)) (fun i => h (i + 1))
theorem start_eq {N : List Str} {vs : List V} : start N vs = st0 vs (N.length - vs.length) := rfl
theorem Rl.args {Z : Addr → Prop} {args : List Sl} {vs : List V} {H : Hp} (rl : Rl D Z args (vs.map some) H) : args.length = vs.length := by rw [rl.len, List.length_map]
/-- a def keeps its promise one call deeper than those that it calls -/
theorem def_ok {k j : Nat} {d : Def} {r : RD} {fd : FuncData} (S : Says D rs mg) (hd : nth T j = some d) (hr : rs[j]? = some r) (hc : chkD (rs.map (·.name)) d r = true)
    (ih : ∀ i, borsOf T i ≠ none → ∃ fd ps, FnOk P w D.K mg base (L2.CX P w) k (D.adr i) fd ps (spRun D T k i) ∧ Binds D.K fd ps [] ∧ PySem.W.keepIn D.K (.ref (D.adr i)) = true) (F : FunD D.K r.name r.name r.params r.body r.scope [] [] (D.adr j) fd) :
    FnOk P w D.K mg base (L2.CX P w) (k + 1) (D.adr j) fd r.ps (spRun D T (k + 1) j) := by
  simp only [chkD, Bool.and_eq_true, decide_eq_true_eq] at hc
  obtain ⟨⟨⟨⟨h1, h2⟩, h3⟩, h4⟩, h5⟩ := hc
  have SC := scopeB_ok h1 h4
  have kd : r.scope.kind = .function := SC.kind
  have lps : r.ps.length = r.np := by show (r.N.take r.np).length = _; rw [List.length_take, Nat.min_eq_left h4]
  have inv : ∀ {vs H Q E}, spRun D T (k + 1) j vs H Q E → ∃ Z args, Rl D Z args (vs.map some) H ∧ ArgF args ∧ args.length = d.np ∧ (match endC d.np (exSs (borsOf T) (run T k) d.body (args ++ nos (d.ns - d.np))) with
      | .ok r os => ∀ x Z' H', Rl D Z' os (vs.map some) H' → Stp Z args (vs.map some) H Z' os (vs.map some) H' → RRel D Z' H' os (vs.map some) r x → (∀ i, r ≠ .slot i) → Fresh H r x → (∀ i, get os i = .no ∨ locked (get os i) = true) → (∀ i vs, get os i ≠ .rd true vs) → Q x H'
      | .exc kk p => noLent args = true ∧ ∀ cls dd Z' H', Rl D Z' args (vs.map some) H' → Stp Z args (vs.map some) H Z' args (vs.map some) H' → XR D Z' H' kk p cls dd → E cls dd H'
      | .stuck => False) := fun {vs H Q E} ⟨Z, args, rl, hf, h⟩ => by
    refine ⟨Z, args, rl, hf, ?_⟩
    have e : run T (k + 1) j args = if len args = d.np then endC d.np (exSs (borsOf T) (run T k) d.body (args ++ nos (d.ns - d.np))) else .stuck := by
      show (match tab T j with | none => _ | some d => _) = _
      rw [show tab T j = some d from hd]
    rw [e] at h
    by_cases hl : len args = d.np
    · rw [if_pos hl] at h
      exact ⟨by rw [← len_eq]; exact hl, h⟩
    · rw [if_neg hl] at h
      exact h.elim
  refine F.ok SC (fun vs H Q E h => ?_) (fun cdv A outer s H vs Q E hroom h => ?_)
  · obtain ⟨Z, args, rl, _, hl, _⟩ := inv h
    rw [lps, ← h2, ← hl, rl.args]
  · obtain ⟨Z, args, rl, hf, hl, h⟩ := inv h
    have un : (A.deeper (envOfC r.name r.scope s.heap.objs.size (D.adr j) cdv)).units + 64 < cLine := by
      have := hroom.un
      omega
    have gmg : ∀ (i : Nat) (x : Str), (rs.map (·.name))[i]? = some x → mg x = some (.ref (D.adr i)) := fun i x e => by
      rw [List.getElem?_map] at e
      obtain ⟨r', e1, e2⟩ := Option.map_eq_some_iff.mp e
      rw [← e2]
      exact S.gl i r' e1
    have g : GOk D T k (r.gam (rs.map (·.name))) (cxOf (L2.CX P w) P w D.K mg base r.N r.name r.scope (D.adr j) cdv A outer s H E) :=
      ⟨rfl, SC.nd, rfl, rfl, rfl, un, fun _ _ => rfl, gmg, S.blt, ⟨fun i hi => by
        obtain ⟨fd', ps', F', hb, hk⟩ := ih i hi
        exact ⟨⟨fd', ps', F', hb⟩, hk⟩, hroom⟩⟩
    refine ⟨_, (chkSs_ok d.body g kd h5).ps (fun cls dd _ H' => E cls dd H') (takes_of rfl rfl rfl rfl) (passes_of rfl), ?_⟩
    have hm : r.N.length - vs.length = d.ns - d.np := by rw [h3, ← hl, rl.args]
    rw [start_eq, hm]
    refine ⟨Z, _, rl.entry, ?_⟩
    -- the end
    have rrel : ∀ {rr : R} {x : V} {ρ' : Env} {σ' : St} {Z' : Addr → Prop} {H' : Hp}, (∀ a, Ow (takeSl d.np ρ') (vs.map some) a → Ow ρ' σ' a) → RRel D Z' H' ρ' σ' rr x → (∀ i, rr ≠ .slot i) → RRel D Z' H' (takeSl d.np ρ') (vs.map some) rr x := fun {rr x ρ' σ' Z' H'} ho q ns => by
      cases rr with
      | val v => exact q
      | fresh ws =>
        obtain ⟨a, xs, e, nz, no, ha, rp⟩ := q
        exact ⟨a, xs, e, nz, fun o => no (ho a o), ha, rp⟩
      | slot i => exact absurd rfl (ns i)
    have fr0 : ∀ {rr : R} {x : V}, FreshO H (args ++ nos (d.ns - d.np)) (st0 vs (d.ns - d.np)) rr x → Fresh H rr x := fun {rr x} q => by
      cases rr with
      | fresh ws =>
        intro a e
        rcases q a e with q | ⟨i, ⟨o1, o2⟩, ul⟩
        · exact q
        · rw [get_args] at o1 ul
          rcases hf i with e | ⟨v, e⟩ | ⟨v, e⟩
          · rw [e] at o1; cases o1
          · rw [e] at o1; cases o1
          · rw [e] at ul; cases ul
      | val v => trivial
      | slot i => trivial
    have lkd : ∀ (ρ' : Env) i, get (takeSl d.np ρ') i = .no ∨ locked (get (takeSl d.np ρ') i) = true := fun ρ' i => by
      rcases get_take (n := d.np) (ρ := ρ') (i := i) with e | ⟨_, _, ⟨v, g, e⟩ | ⟨v, g, e⟩ | ⟨v, g, e⟩⟩
      · exact .inl e
      · exact .inr (by rw [e]; rfl)
      · exact .inr (by rw [e]; rfl)
      · exact .inr (by rw [e]; rfl)
    have nrd : ∀ (ρ' : Env) i ws, get (takeSl d.np ρ') i ≠ .rd true ws := fun ρ' i ws z => by
      rcases get_take (n := d.np) (ρ := ρ') (i := i) with e | ⟨_, _, ⟨v, g, e⟩ | ⟨v, g, e⟩ | ⟨v, g, e⟩⟩ <;> (rw [e] at z; cases z)
    cases ex : exSs (borsOf T) (run T k) d.body (args ++ nos (d.ns - d.np)) with
    | next ρ' =>
      rw [ex] at h
      intro σ' Z' H' rl' st'
      obtain ⟨a, b, c⟩ := def_exit hf hl rl rl' st'
      exact h .non Z' H' a b .non (fun i z => nomatch z) trivial (lkd ρ') (nrd ρ')
    | ret rr ρ' =>
      rw [ex] at h
      intro x σ' Z' H' rl' st' q fo ns
      obtain ⟨a, b, c⟩ := def_exit hf hl rl rl' st'
      exact h x Z' H' a b (rrel c q ns) ns (fr0 fo) (lkd ρ') (nrd ρ')
    | exc kk p ρ' =>
      rw [ex] at h
      obtain ⟨nl, h⟩ := h
      intro cls dd σ' Z' H' rl' st' xr
      obtain ⟨_, b, _⟩ := def_exit hf hl rl rl' st'
      have nf := noLent_form nl
      have nown : ∀ i, owns (get args i) = false := fun i => by
        rcases nf i with e | ⟨v, e⟩ <;> rw [e] <;> rfl
      refine h cls dd Z' H' ⟨fun i => ?_, fun i k' a o => ?_, rl.len, rl'.zt⟩ ⟨b.z, b.zz, b.fr, b.tr, fun i a o => .inl o, fun a o => .inl o, fun i o => ⟨o, rfl⟩, fun i o => o⟩ xr
      · have s0 := rl.slot i
        rcases nf i with e | ⟨v, e⟩
        · rw [e]; trivial
        · rw [e] at s0 ⊢
          obtain ⟨x, e1, q⟩ := s0
          exact ⟨x, e1, q.stp rl b⟩
      · have := o.1
        rw [nown i] at this
        cases this
    | stuck => rw [ex] at h; exact h
/-- every def, at every depth -/
theorem all_ok (S : Says D rs mg) (hc : chkT (rs.map (·.name)) T rs = true) : ∀ (k i : Nat), borsOf T i ≠ none → ∃ fd ps, FnOk P w D.K mg base (L2.CX P w) k (D.adr i) fd ps (spRun D T k i) ∧ Binds D.K fd ps [] ∧ PySem.W.keepIn D.K (.ref (D.adr i)) = true
  | k, i, hi => by
    cases ed : nth T i with
    | none =>
      exact absurd (show borsOf T i = none by unfold borsOf; rw [show tab T i = none from ed]) hi
    | some d =>
      obtain ⟨r, er, hd⟩ := chkT_at hc d ed
      obtain ⟨fd, F⟩ := S.fn i r er
      have hl : r.ps.length = r.np := by
        simp only [chkD, Bool.and_eq_true, decide_eq_true_eq] at hd
        show (r.N.take r.np).length = _
        rw [List.length_take, Nat.min_eq_left hd.1.2]
      have B : Binds D.K fd r.ps [] := F.bindsN fun kV doc pm an cdv ct us hu => S.bd i r er kV doc pm an cdv ct us (by rw [← hl]; exact hu)
      refine ⟨fd, r.ps, ?_, B, F.kp⟩
      cases k with
      | zero =>
        have no : ∀ {vs H Q E}, ¬ spRun D T 0 i vs H Q E := fun {vs H Q E} ⟨_, _, _, _, h⟩ => h
        exact ⟨fun vs H Q E h => (no h).elim, fun A outer s H args us vs Q E _ _ _ _ h => (no h).elim⟩
      | succ k => exact def_ok S ed er hd (all_ok S hc k) F
end
end Ev

/-! Ev25: the law over the table. -/
namespace Ev
open PySem PySem.Spec PyProof.Rows L2
def RD.dd (r : RD) : He.DefD := ⟨(r.name, none), r.name, r.name, r.params, r.body, r.scope, [], []⟩
def fnsD (rs : List RD) : List He.DefD := rs.map RD.dd
def fasD (rs : List RD) : List He.Fa := rs.map (fun r => .glo r.name) ++ bltNames.map fun n => .free (Str.ofString n)
def domOf (K : PySem.W.Frag) (rs : List RD) : Dom := ⟨K, fun j => match rs[j]? with | some r => He.fAd K (r.name, none) | none => 0, fun _ => .none, fun _ => ⟨#[]⟩⟩
theorem says_of {K : PySem.W.Frag} {h : Heap} {mg : Str → Option Value} {rs : List RD} (X : K.In h) (G : h.Ns mainGlobals mg) (c : He.SaysD (fasD rs) (fnsD rs) K) (bd : ∀ (j : Nat) (r : RD), rs[j]? = some r → BindP r) : Says (domOf K rs) rs mg := by
  refine ⟨fun j r e => ?_, bd, fun j r e => ?_, fun n hn => ?_⟩
  · obtain ⟨fd, F⟩ := He.SaysD.defs c (d := r.dd) (List.mem_map.mpr ⟨r, List.mem_of_getElem? e, rfl⟩)
    have ea : (domOf K rs).adr j = He.fAd K (r.name, none) := by
      show (match rs[j]? with | some r => He.fAd K (r.name, none) | none => 0) = _
      rw [e]
    rw [ea]
    exact ⟨fd, F⟩
  · have ea : (domOf K rs).adr j = He.fAd K (r.name, none) := by
      show (match rs[j]? with | some r => He.fAd K (r.name, none) | none => 0) = _
      rw [e]
    rw [ea]
    exact He.glo_ok X G (He.SaysD.facts c (f := .glo r.name) (List.mem_append_left _ (List.mem_map.mpr ⟨r, List.mem_of_getElem? e, rfl⟩)))
  · exact He.free_ok X G (He.SaysD.facts c (f := .free (Str.ofString n)) (List.mem_append_right _ (List.mem_map.mpr ⟨n, hn, rfl⟩)))
/-- a law: of any script it says True -/
def spLaw (K : PySem.W.Frag) (m : Nat) : Sp := fun vs H Q _ => ∃ (a : Addr) (ns : List Int), vs = [.ref a] ∧ SqL K H a (ns.map V.int) ∧ ns.length ≤ m ∧ ∀ H', Q (.bl true) H'
def LawP (T : Tab) (k j m : Nat) : Prop := ∀ ns : List Int, ns.length ≤ m → ∃ os, run T k j [.sh false (.scr ns)] = .ok (.val (.bl true)) os
theorem law_run {D : Dom} {T : Tab} {k j m : Nat} (L : LawP T k j m) {vs : List V} {H : Hp} {Q : VK} {E : XK} (h : spLaw D.K m vs H Q E) : spRun D T k j vs H Q E := by
  obtain ⟨a, ns, rfl, hs, hl, q⟩ := h
  obtain ⟨os, e⟩ := L ns hl
  have form : ∀ i, get [Sl.sh false (.scr ns)] i = .no ∨ (∃ v, get [Sl.sh false (.scr ns)] i = .sh false v) ∨ ∃ vs, get [Sl.sh false (.scr ns)] i = .ow true vs := fun i => by
    cases i with
    | zero => exact .inr (.inl ⟨_, rfl⟩)
    | succ i => exact .inl rfl
  have fin : ∀ (Z : Addr → Prop), Rep D Z H (.scr ns) (.ref a) → (∀ a, Z a → H a ≠ none) → spRun D T k j [.ref a] H Q E := fun Z rp zt => by
    refine ⟨Z, [.sh false (.scr ns)], ⟨fun i => ?_, fun i j a h => ?_, rfl, zt⟩, form, ?_⟩
    · cases i with
      | zero => exact ⟨_, rfl, rp⟩
      | succ i => trivial
    · have h1 := h.1
      cases i with
      | zero => cases h1
      | succ i => cases h1
    · rw [e]
      intro x Z' H' _ _ rr _ _ _ _
      cases rr
      exact q H'
  rcases hs with hs | hs
  · refine fin (fun b => b = a) (.scr rfl (.inl hs)) fun b e => ?_
    subst e
    rcases hs with hs | ⟨o, hs⟩ <;> (rw [hs]; exact fun z => nomatch z)
  · exact fin (fun _ => False) (.scrK fun H => .inr hs) fun _ z => z.elim
theorem law_ok {D : Dom} {T : Tab} {rs : List RD} {P : Program} {w : World} {mg : Str → Option Value} {base : Heap} {k j m : Nat} {d : Def} {r : RD} {fd : FuncData} (S : Says D rs mg) (hc : chkT (rs.map (·.name)) T rs = true) (ed : nth T j = some d) (er : rs[j]? = some r) (L : LawP T (k + 1) j m)
    (F : FunD D.K r.name r.name r.params r.body r.scope [] [] (D.adr j) fd) : FnOk P w D.K mg base (L2.CX P w) (k + 1) (D.adr j) fd r.ps (spLaw D.K m) := by
  obtain ⟨r', er', hd⟩ := chkT_at hc d ed
  rw [er] at er'
  cases er'
  exact (def_ok S ed er hd (all_ok S hc k) F).imp fun vs H Q E h => law_run L h
/-- the walk of a law, what a call may let out told to the World -/
theorem walk_ofW {l : PySem.W.OpenLaw} {n k : Nat} {q : Program} {loose : List Str} {XP : (Str → Option Value) → Heap → Prop} {YP : World → Heap → Prop} {d : DefRec} {x : Str} (hn : l.most = some n) (hn2 : n ≤ sizeLine) (hdf : d.params.defaults = []) (hr : Room k callerA)
    (F : ∀ (w : World) (mg : Str → Option Value) (fa : Addr) (h : Heap), YP w h → h.Ns mainGlobals mg → mg d.name = some (.ref fa) →
      ∃ (K : PySem.W.Frag) (fd : FuncData) (sp : Sp), K.In h ∧ (∀ (s : Shared) (u : Value), BindsTo s fd ⟨[u], []⟩ [(x, u)]) ∧
        (∀ (H : Hp) (a : Addr) (ns : List Int), ns.length ≤ n → Only H → SqL K H a (ns.map V.int) → sp [.ref a] H (fun v _ => v = .bl true) fun _ _ _ => False) ∧
        ∀ base : Heap, K.In base → base.Ns mainGlobals mg → FnOk l.prog w K mg base (L2.CX l.prog w) k fa fd [x] sp) :
    PySem.W.WalkO q loose XP YP l.row.toRowW d [] (fun f vs => PySem.call f vs) := by
  refine Att.attach_call hn hdf fun w s₀ s₁ mg mb fa o pm cd doc a vs ns G Y ho hd hcd hmg hobj hints hlen hg => ?_
  obtain ⟨K, fd, sp, KX, hb, hsp, hF⟩ := F w mg fa _ Y G.T.g hmg
  exact law_call KX G.T.g G.T.b G.T.builtins G.T.nolimit hg hobj hints (Nat.le_trans hlen hn2) hr hF hb (fun H hO hS => hsp H a ns hlen hO hS) fun H e s' h => by
    obtain ⟨_, _, _, _, _, _, _, _, _, _, _, _, z⟩ := h
    exact z
end Ev

/-! Ev26: slots that are not read: a run says the same over any background. -/
namespace Ev
def ov1 : Sl → Sl → Sl
  | .no, b => b
  | s, _ => s
/-- what stands behind the slots that hold nothing -/
def over : Env → (Nat → Sl) → Env
  | [], _ => []
  | s :: r, β => ov1 s (β 0) :: over r fun i => β (i + 1)
def Un (β : Nat → Sl) : Prop := ∀ i, locked (β i) = false ∧ ∀ l v, β i ≠ .rd l v
def offB (i : Nat) (β : Nat → Sl) : Nat → Sl := fun j => if j = i then .no else β j
theorem Un.off {β : Nat → Sl} {i : Nat} (h : Un β) : Un (offB i β) := fun j => by
  unfold offB
  split
  · exact ⟨rfl, fun _ _ z => by cases z⟩
  · exact h j
theorem ov1_ne {s b : Sl} (h : s ≠ .no) : ov1 s b = s := by
  cases s with
  | no => exact absurd rfl h
  | _ => rfl
theorem get_over : ∀ {ρ : Env} {β : Nat → Sl} {i : Nat}, get ρ i ≠ .no → get (over ρ β) i = get ρ i
  | [], _, _, h => absurd rfl h
  | s :: r, β, 0, h => ov1_ne h
  | s :: r, β, i + 1, h => get_over (ρ := r) (β := fun i => β (i + 1)) (i := i) h
theorem get_over_no : ∀ {ρ : Env} {β : Nat → Sl} {i : Nat}, get ρ i = .no → get (over ρ β) i = .no ∨ get (over ρ β) i = β i
  | [], _, _, _ => .inl rfl
  | s :: r, β, 0, h => by
    have h : s = .no := h
    subst h
    exact .inr rfl
  | s :: r, β, i + 1, h => get_over_no (ρ := r) (β := fun i => β (i + 1)) (i := i) h
theorem put_over : ∀ {ρ : Env} {β : Nat → Sl} {i : Nat} {s : Sl}, s ≠ .no → put (over ρ β) i s = over (put ρ i s) β
  | [], _, _, _, _ => rfl
  | t :: r, β, 0, s, h => by
    show s :: over r _ = ov1 s (β 0) :: over r _
    rw [ov1_ne h]
  | t :: r, β, i + 1, s, h => by
    show ov1 t (β 0) :: put (over r _) i s = ov1 t (β 0) :: over (put r i s) _
    rw [put_over h]
theorem put_sh {ρ : Env} {β : Nat → Sl} {i : Nat} {l : Bool} {v : Val} : put (over ρ β) i (.sh l v) = over (put ρ i (.sh l v)) β := put_over (fun z => by cases z)
theorem put_ow {ρ : Env} {β : Nat → Sl} {i : Nat} {l : Bool} {v : List Val} : put (over ρ β) i (.ow l v) = over (put ρ i (.ow l v)) β := put_over (fun z => by cases z)
theorem put_rd {ρ : Env} {β : Nat → Sl} {i : Nat} {l : Bool} {v : List Val} : put (over ρ β) i (.rd l v) = over (put ρ i (.rd l v)) β := put_over (fun z => by cases z)
theorem put_over_no : ∀ {ρ : Env} {β : Nat → Sl} {i : Nat}, put (over ρ β) i .no = over (put ρ i .no) (offB i β)
  | [], _, _ => rfl
  | t :: r, β, 0 => by
    show Sl.no :: over r (fun j => β (j + 1)) = ov1 .no (offB 0 β 0) :: over r (fun j => offB 0 β (j + 1))
    have e : (fun j => offB 0 β (j + 1)) = fun j => β (j + 1) := by
      funext j
      unfold offB
      rw [if_neg (Nat.succ_ne_zero j)]
    rw [e]
    rfl
  | t :: r, β, i + 1 => by
    show ov1 t (β 0) :: put (over r fun j => β (j + 1)) i .no = ov1 t (offB (i + 1) β 0) :: over (put r i .no) (fun j => offB (i + 1) β (j + 1))
    rw [put_over_no]
    have e : offB i (fun j => β (j + 1)) = fun j => offB (i + 1) β (j + 1) := by
      funext j
      unfold offB
      by_cases h : j = i
      · rw [if_pos h, if_pos (by rw [h])]
      · rw [if_neg h, if_neg (fun z => h (Nat.succ.inj z))]
    have e0 : offB (i + 1) β 0 = β 0 := if_neg (Nat.succ_ne_zero i).symm
    rw [e, e0]
/-- a run, over a background -/
def ResO {α : Type} (β : Nat → Sl) (x y : Res α) : Prop := match x with
  | .ok a ρ1 => y = .ok a (over ρ1 β)
  | .exc k p _ => ∃ ρ2, y = .exc k p ρ2
  | .stuck => True
def Com {α : Type} (f : Env → Res α) : Prop := ∀ (ρ : Env) (β : Nat → Sl), Un β → ResO β (f ρ) (f (over ρ β))
def SResO (β : Nat → Sl) (x y : SRes) : Prop := match x with
  | .next ρ1 => y = .next (over ρ1 β)
  | .ret r _ => ∃ ρ2, y = .ret r ρ2
  | .exc k p _ => ∃ ρ2, y = .exc k p ρ2
  | .stuck => True
def ComS (f : Env → SRes) : Prop := ∀ (ρ : Env) (β : Nat → Sl), Un β → SResO β (f ρ) (f (over ρ β))
theorem ResO.bind {α α' : Type} {β : Nat → Sl} {x y : Res α} {g : α → Env → Res α'} (h : ResO β x y) (k : ∀ a ρ1, x = .ok a ρ1 → ResO β (g a ρ1) (g a (over ρ1 β))) : ResO β (x.bind g) (y.bind g) := by
  cases x with
  | ok a ρ1 =>
    have h : y = .ok a (over ρ1 β) := h
    subst h
    exact k a ρ1 rfl
  | exc kk p ρ1 =>
    obtain ⟨ρ2, rfl⟩ := h
    exact ⟨ρ2, rfl⟩
  | stuck => trivial
theorem ResO.then {α : Type} {β : Nat → Sl} {x y : Res α} {g : α → Env → SRes} (h : ResO β x y) (k : ∀ a ρ1, x = .ok a ρ1 → SResO β (g a ρ1) (g a (over ρ1 β))) : SResO β (x.then g) (y.then g) := by
  cases x with
  | ok a ρ1 =>
    have h : y = .ok a (over ρ1 β) := h
    subst h
    exact k a ρ1 rfl
  | exc kk p ρ1 =>
    obtain ⟨ρ2, rfl⟩ := h
    exact ⟨ρ2, rfl⟩
  | stuck => trivial
theorem SResO.bind {β : Nat → Sl} {x y : SRes} {g : Env → SRes} (h : SResO β x y) (k : ∀ ρ1, x = .next ρ1 → SResO β (g ρ1) (g (over ρ1 β))) : SResO β (x.bind g) (y.bind g) := by
  cases x with
  | next ρ1 =>
    have h : y = .next (over ρ1 β) := h
    subst h
    exact k ρ1 rfl
  | ret r ρ1 =>
    obtain ⟨ρ2, rfl⟩ := h
    exact ⟨ρ2, rfl⟩
  | exc kk p ρ1 =>
    obtain ⟨ρ2, rfl⟩ := h
    exact ⟨ρ2, rfl⟩
  | stuck => trivial
section
variable {ρ : Env} {β : Nat → Sl} {r : R} {i : Nat}
theorem peek_over {v : Val} (h : peek r ρ = some v) : peek r (over ρ β) = some v := by
  cases r with
  | slot i =>
    simp only [peek] at h ⊢
    have n : get ρ i ≠ .no := fun z => by rw [z] at h; cases h
    rw [get_over n]
    exact h
  | _ => exact h
theorem peeks_over : ∀ {rs : List R} {vs : List Val}, peeks rs ρ = some vs → peeks rs (over ρ β) = some vs
  | [], _, h => h
  | r :: rs, vs, h => by
    obtain ⟨v, e1, h⟩ := Option.bind_eq_some_iff.mp h
    obtain ⟨ws, e2, h⟩ := Option.map_eq_some_iff.mp h
    simp only [peeks, peek_over e1, peeks_over e2, Option.bind_some, Option.map_some, h]
theorem frz_over {v : Val} {ρ1 : Env} (h : frz r ρ = some (v, ρ1)) : frz r (over ρ β) = some (v, over ρ1 β) := by
  cases r with
  | slot i =>
    simp only [frz] at h ⊢
    have n : get ρ i ≠ .no := fun z => by rw [z] at h; cases h
    rw [get_over n]
    cases g : get ρ i with
    | no => exact absurd g n
    | sh l w =>
      rw [g] at h
      cases h
      rfl
    | ow l w =>
      rw [g] at h
      cases h
      simp only [put_sh]
    | rd l w =>
      rw [g] at h
      cases h
      simp only [put_sh]
  | val w => cases h; rfl
  | fresh w => cases h; rfl
theorem sto_over {ρ1 : Env} {s : Sl} (u : Un β) (hs : s ≠ .no) (h : sto ρ i s = some ρ1) : sto (over ρ β) i s = some (over ρ1 β) := by
  obtain ⟨hl, rfl⟩ := sto_free h
  have key : ∀ {ρ : Env}, locked (get ρ i) = false → sto ρ i s = some (put ρ i s) := fun {ρ} h => by
    unfold sto
    cases g : get ρ i with
    | no => rfl
    | sh l v => rw [g] at h; cases l <;> first | rfl | cases h
    | ow l v => rw [g] at h; cases l <;> first | rfl | cases h
    | rd l v => rw [g] at h; cases l <;> first | rfl | cases h
  rw [key, put_over hs]
  by_cases n : get ρ i = .no
  · rcases get_over_no (β := β) n with e | e
    · rw [e]; rfl
    · rw [e]; exact (u i).1
  · rw [get_over n]; exact hl
theorem sto_sh {ρ1 : Env} {l : Bool} {v : Val} (u : Un β) (h : sto ρ i (.sh l v) = some ρ1) : sto (over ρ β) i (.sh l v) = some (over ρ1 β) := sto_over u (fun z => by cases z) h
theorem stoAll_over (u : Un β) : ∀ {is : List Nat} {vs : List Val} {ρ ρ1 : Env}, stoAll is vs ρ = some ρ1 → stoAll is vs (over ρ β) = some (over ρ1 β)
  | [], [], _, _, h => by cases h; rfl
  | [], _ :: _, _, _, h => by cases h
  | _ :: _, [], _, _, h => by cases h
  | i :: is, v :: vs, ρ, ρ1, h => by
    obtain ⟨ρ2, e, h⟩ := Option.bind_eq_some_iff.mp h
    simp only [stoAll, sto_sh u e, Option.bind_some, stoAll_over u h]
theorem tgt_over {t : Tg} {v : Val} {ρ1 : Env} (u : Un β) (h : tgt t v ρ = some ρ1) : tgt t v (over ρ β) = some (over ρ1 β) := by
  cases t with
  | one i => exact sto_sh u h
  | tup is =>
    cases v with
    | tup vs => exact stoAll_over u h
    | lst vs => exact stoAll_over u h
    | _ => cases h
theorem lend_over {bs : List Bool} {r' : R} {ρ1 : Env} (h : lend bs r ρ = some (r', ρ1)) : lend bs r (over ρ β) = some (r', over ρ1 β) := by
  have plain : (frz r ρ).map (fun (v, ρ) => (R.val v, ρ)) = some (r', ρ1) → (frz r (over ρ β)).map (fun (v, ρ) => (R.val v, ρ)) = some (r', over ρ1 β) := fun h => by
    obtain ⟨⟨v, ρ2⟩, e, h⟩ := Option.map_eq_some_iff.mp h
    cases h
    rw [frz_over e]
    rfl
  cases bs with
  | nil => exact plain h
  | cons b bs =>
    cases b with
    | false => exact plain h
    | true =>
      cases r with
      | val v => exact plain h
      | fresh v => exact plain h
      | slot i =>
        simp only [lend] at h ⊢
        have n : get ρ i ≠ .no := fun z => by rw [z] at h; cases h
        rw [get_over n]
        cases g : get ρ i with
        | no => exact absurd g n
        | sh l w => rw [g] at h; cases h; rfl
        | ow l w => rw [g] at h; cases h; rfl
        | rd l w =>
          rw [g] at h
          cases h
          simp only [put_sh]
theorem lockR_over {v : Val} (h : ∀ i, r = .slot i → get ρ i ≠ .no) : lockR r (over ρ β) = over (lockR r ρ) β := by
  cases r with
  | slot i =>
    simp only [lockR, get_over (h i rfl)]
    cases g : get ρ i with
    | ow l w => simp only [put_rd]
    | _ => rfl
  | _ => rfl
def offs : List Nat → (Nat → Sl) → Nat → Sl
  | [], β => β
  | i :: is, β => offB i (offs is β)
theorem Un.offs (u : Un β) : ∀ {is : List Nat}, Un (offs is β)
  | [] => u
  | _ :: _ => Un.off (Un.offs u)
theorem wipes_over : ∀ {is : List Nat} {ρ : Env}, wipes is (over ρ β) = over (wipes is ρ) (offs is β)
  | [], _ => rfl
  | i :: is, ρ => by
    show put (wipes is (over ρ β)) i .no = over (put (wipes is ρ) i .no) (offB i (offs is β))
    rw [wipes_over, put_over_no]
theorem offs_get : ∀ {is : List Nat} {j : Nat}, offs is β j = if j ∈ is then .no else β j
  | [], j => by simp [offs]
  | i :: is, j => by
    show (if j = i then Sl.no else offs is β j) = _
    rw [offs_get]
    by_cases h : j = i
    · rw [if_pos h, if_pos (by rw [h]; exact .head _)]
    · rw [if_neg h]
      simp [List.mem_cons, h]
theorem offs_offs {is : List Nat} : offs is (offs is β) = offs is β := by
  funext j
  rw [offs_get, offs_get]
  split <;> rfl
end
/-! ### the pieces -/
section
variable {β : Nat → Sl} {ρ : Env}
theorem ofO_over {α : Type} {x : Option α} {y : Option α} (h : ∀ a, x = some a → y = some a) : ResO β (ofO x ρ) (ofO y (over ρ β)) := by
  cases x with
  | none => trivial
  | some a => rw [h a rfl]; rfl
theorem com_val {v : Val} : Com (cVal v) := fun _ _ _ => rfl
theorem com_var {i : Nat} : Com (cVar i) := fun ρ β _ => by
  unfold cVar
  by_cases n : get ρ i = .no
  · rw [n]; trivial
  · rw [get_over n]
    cases g : get ρ i with
    | no => exact absurd g n
    | sh l v => rfl
    | ow l v => rfl
    | rd l v => rfl
variable {f g h : Ec}
theorem com_c2 {op : Val → Val → Option R} (hf : Com f) (hg : Com g) : Com (c2 op f g) := fun ρ β u => (hf ρ β u).bind fun ra ρ1 _ => (hg ρ1 β u).bind fun rb ρ2 _ => ofO_over fun a e => by
  obtain ⟨x, e1, e⟩ := Option.bind_eq_some_iff.mp e
  obtain ⟨y, e2, e⟩ := Option.bind_eq_some_iff.mp e
  rw [peek_over e1, peek_over e2]
  exact e
theorem com_c1 {op : Val → Option R} (hf : Com f) : Com (c1 op f) := fun ρ β u => (hf ρ β u).bind fun ra ρ1 _ => ofO_over fun a e => by
  obtain ⟨x, e1, e⟩ := Option.bind_eq_some_iff.mp e
  rw [peek_over e1]
  exact e
theorem com_cL {op : List Val → Option R} {l : Lc} (hl : Com l) : Com (cL op l) := fun ρ β u => (hl ρ β u).bind fun rs ρ1 _ => ofO_over fun a e => by
  obtain ⟨x, e1, e⟩ := Option.bind_eq_some_iff.mp e
  rw [peeks_over e1]
  exact e
theorem com_join {l : Lc} (hf : Com f) (hl : Com l) : Com (cJoin f l) := fun ρ β u => (hf ρ β u).bind fun r ρ1 _ => by
  cases r with
  | val v => cases v <;> first | exact com_cL hl ρ1 β u | trivial
  | _ => trivial
theorem com_count {l : Lc} (hf : Com f) (hl : Com l) : Com (cCount f l) := fun ρ β u => (hf ρ β u).bind fun r ρ1 _ => by
  cases r with
  | val v => cases v <;> first | exact com_cL hl ρ1 β u | trivial
  | _ => trivial
theorem com_chain {o1 o2 : Cop} (hf : Com f) (hg : Com g) (hh : Com h) : Com (cChain o1 o2 f g h) := fun ρ β u => by
  refine (hf ρ β u).bind fun ra ρ1 _ => (hg ρ1 β u).bind fun rb ρ2 _ => ?_
  cases e : (peek ra ρ2).bind fun x => (peek rb ρ2).bind fun y => cmp o1 x y with
  | none => trivial
  | some k =>
    have eo : ((peek ra (over ρ2 β)).bind fun x => (peek rb (over ρ2 β)).bind fun y => cmp o1 x y) = some k := by
      obtain ⟨x, e1, e'⟩ := Option.bind_eq_some_iff.mp e
      obtain ⟨y, e2, e'⟩ := Option.bind_eq_some_iff.mp e'
      rw [peek_over e1, peek_over e2]
      exact e'
    rw [eo]
    cases k with
    | false => rfl
    | true =>
      refine (hh ρ2 β u).bind fun rc ρ3 _ => ofO_over fun a e => ?_
      obtain ⟨x, e1, e⟩ := Option.bind_eq_some_iff.mp e
      obtain ⟨y, e2, e⟩ := Option.bind_eq_some_iff.mp e
      rw [peek_over e1, peek_over e2]
      exact e
theorem binds_over : ∀ {rs : List R} {ρ : Env} {β : Nat → Sl} {sl : List Sl}, binds rs ρ = some sl → binds rs (over ρ β) = some sl ∧ ∀ i, R.slot i ∈ rs → get ρ i ≠ .no
  | [], _, _, _, h => ⟨h, fun _ m => nomatch m⟩
  | .val v :: r, ρ, β, sl, h => by
    obtain ⟨s', e, h⟩ := Option.map_eq_some_iff.mp h
    obtain ⟨a, b⟩ := binds_over (β := β) e
    refine ⟨by simp only [binds, a, Option.map_some, h], fun i m => ?_⟩
    rcases List.mem_cons.mp m with m | m
    · cases m
    · exact b i m
  | .fresh _ :: _, _, _, _, h => by cases h
  | .slot i :: r, ρ, β, sl, h => by
    simp only [binds] at h ⊢
    have n : get ρ i ≠ .no := fun z => by rw [z] at h; cases h
    rw [get_over n]
    cases g : get ρ i with
    | no => exact absurd g n
    | rd l v => rw [g] at h; cases h
    | sh l v =>
      rw [g] at h
      obtain ⟨s', e, h⟩ := Option.map_eq_some_iff.mp h
      obtain ⟨a, b⟩ := binds_over (β := β) e
      refine ⟨by simp only [a, Option.map_some, h], fun j m => ?_⟩
      rcases List.mem_cons.mp m with m | m
      · cases m; exact n
      · exact b j m
    | ow l v =>
      rw [g] at h
      obtain ⟨s', e, h⟩ := Option.map_eq_some_iff.mp h
      obtain ⟨a, b⟩ := binds_over (β := offB i β) e
      refine ⟨by simp only [put_over_no, a, Option.map_some, h], fun j m => ?_⟩
      rcases List.mem_cons.mp m with m | m
      · cases m; exact n
      · intro z
        apply b j m
        rcases get_put ρ i j .no with ⟨_, ⟨g', _⟩ | ⟨g', _⟩⟩ | ⟨_, g'⟩
        · exact g'
        · exact g'
        · rw [g']; exact z
theorem outs_over : ∀ {rs : List R} {os : List Sl} {ρ : Env}, (∀ i, R.slot i ∈ rs → get ρ i ≠ .no) → outs rs os (over ρ β) = over (outs rs os ρ) β
  | [], os, _, _ => by cases os <;> rfl
  | r :: rs, [], _, _ => by cases r <;> rfl
  | .val v :: rs, o :: os, ρ, h => by
    have h' : ∀ i, R.slot i ∈ rs → get ρ i ≠ .no := fun i m => h i (.tail _ m)
    cases o <;> exact outs_over (rs := rs) (os := os) h'
  | .fresh v :: rs, o :: os, ρ, h => by
    have h' : ∀ i, R.slot i ∈ rs → get ρ i ≠ .no := fun i m => h i (.tail _ m)
    cases o <;> exact outs_over (rs := rs) (os := os) h'
  | .slot i :: rs, o :: os, ρ, h => by
    have h' : ∀ j, R.slot j ∈ rs → get ρ j ≠ .no := fun j m => h j (.tail _ m)
    have hi : get ρ i ≠ .no := h i (.head _)
    have keep : ∀ {s : Sl}, s ≠ .no → ∀ j, R.slot j ∈ rs → get (put ρ i s) j ≠ .no := fun {s} hs j m => by
      rcases get_put ρ i j s with ⟨_, ⟨g', _⟩ | ⟨g', hb⟩⟩ | ⟨_, g'⟩
      · rw [g']; exact hs
      · exact absurd (get_big hb) hi
      · rw [g']; exact h' j m
    cases o with
    | no => exact outs_over (rs := rs) (os := os) h'
    | rd l v => exact outs_over (rs := rs) (os := os) h'
    | ow l v =>
      simp only [outs, get_over hi]
      cases g : get ρ i with
      | ow lk w =>
        simp only [put_ow]
        exact outs_over (rs := rs) (os := os) (keep (fun z => by cases z))
      | no => exact outs_over (rs := rs) (os := os) h'
      | sh _ _ => exact outs_over (rs := rs) (os := os) h'
      | rd _ _ => exact outs_over (rs := rs) (os := os) h'
    | sh l v =>
      cases l with
      | false => exact outs_over (rs := rs) (os := os) h'
      | true =>
        simp only [outs, get_over hi]
        cases g : get ρ i with
        | ow lk w =>
          simp only [put_sh]
          exact outs_over (rs := rs) (os := os) (keep (fun z => by cases z))
        | no => exact outs_over (rs := rs) (os := os) h'
        | sh _ _ => exact outs_over (rs := rs) (os := os) h'
        | rd _ _ => exact outs_over (rs := rs) (os := os) h'
variable {call : Call} {bors : Nat → Option (List Bool)} {j i : Nat}
theorem com_call {l : Lc} (hl : Com l) : Com (cCall call j l) := fun ρ β u => (hl ρ β u).bind fun rs ρ1 _ => by
  cases e : binds rs ρ1 with
  | none => simp only [callIt, e]; trivial
  | some sl =>
    obtain ⟨a, b⟩ := binds_over (β := β) e
    simp only [callIt, e, a]
    cases call j sl with
    | ok r os => simp only [outs_over b]; rfl
    | exc k p =>
      simp only
      split
      · exact ⟨_, rfl⟩
      · trivial
    | stuck => trivial
theorem com_callj {l : List Bool → Lc} (hl : ∀ b, Com (l b)) : Com (cCallj call bors j l) := fun ρ β u => by
  simp only [cCallj]
  cases bors j with
  | none => trivial
  | some b => exact com_call (hl b) ρ β u
theorem com_callv {l : List Bool → Lc} (hl : ∀ b, Com (l b)) : Com (cCallv call bors i l) := fun ρ β u => by
  simp only [cCallv]
  by_cases n : get ρ i = .no
  · rw [n]; trivial
  · rw [get_over n]
    cases g : get ρ i with
    | sh l v => cases v <;> first | exact com_callj hl ρ β u | trivial
    | _ => trivial
theorem com_tYes (hf : Com f) : Com (tYes f) := fun ρ β u => (hf ρ β u).bind fun r ρ1 _ => by
  cases r with
  | val v => cases v <;> first | rfl | trivial
  | _ => trivial
theorem com_not (hf : Com f) : Com (cNot f) := fun ρ β u => (com_tYes hf ρ β u).bind fun b ρ1 _ => rfl
theorem com_ite (hh : Com h) (hf : Com f) (hg : Com g) : Com (cIte h f g) := fun ρ β u => (com_tYes hh ρ β u).bind fun b ρ1 _ => by
  cases b with
  | true => exact hf ρ1 β u
  | false => exact hg ρ1 β u
theorem com_bop {k : Bool} (hf : Com f) (hg : Com g) : Com (cBop k f g) := fun ρ β u => (com_tYes hf ρ β u).bind fun b ρ1 _ => by
  split
  · exact hg ρ1 β u
  · rfl
theorem com_bl (hf : Com f) : Com (cBl f) := fun ρ β u => (com_tYes hf ρ β u).bind fun b ρ1 _ => rfl
theorem com_oNo : Com oNo := fun _ _ _ => rfl
theorem com_oYes (hf : Com f) : Com (oYes f) := fun ρ β u => (hf ρ β u).bind fun r ρ1 _ => by
  cases r with
  | val v => cases v <;> first | rfl | trivial
  | _ => trivial
theorem com_slc {l h : Oc} (hf : Com f) (hl : Com l) (hh : Com h) : Com (cSlc f l h) := fun ρ β u => (hf ρ β u).bind fun ra ρ1 _ => (hl ρ1 β u).bind fun x ρ2 _ => (hh ρ2 β u).bind fun y ρ3 _ => ofO_over fun a e => by
  obtain ⟨v, e1, e⟩ := Option.bind_eq_some_iff.mp e
  rw [peek_over e1]
  exact e
theorem com_lNil : Com lNil := fun _ _ _ => rfl
theorem com_vNil : Com vNil := fun _ _ _ => rfl
theorem com_lCons {l : Lc} (hf : Com f) (hl : Com l) : Com (lCons f l) := fun ρ β u => (hf ρ β u).bind fun r ρ1 _ => (hl ρ1 β u).bind fun rs ρ2 _ => rfl
theorem com_vCons {l : Vc} (hf : Com f) (hl : Com l) : Com (vCons f l) := fun ρ β u => (hf ρ β u).bind fun r ρ1 _ => by
  cases e : frz r ρ1 with
  | none => trivial
  | some p =>
    obtain ⟨v, ρ2⟩ := p
    rw [frz_over e]
    exact (hl ρ2 β u).bind fun vs ρ3 _ => rfl
theorem com_aCons {bs : List Bool} {l : Lc} (hf : Com f) (hl : Com l) : Com (aCons bs f l) := fun ρ β u => (hf ρ β u).bind fun r ρ1 _ => by
  cases e : lend bs r ρ1 with
  | none => trivial
  | some p =>
    obtain ⟨v, ρ2⟩ := p
    rw [lend_over e]
    exact (hl ρ2 β u).bind fun vs ρ3 _ => rfl
theorem com_tup {l : Vc} (hl : Com l) : Com (cTup l) := fun ρ β u => (hl ρ β u).bind fun vs ρ1 _ => by
  split
  · rfl
  · trivial
theorem com_lst {l : Vc} (hl : Com l) : Com (cLst l) := fun ρ β u => (hl ρ β u).bind fun vs ρ1 _ => by
  split
  · rfl
  · trivial
theorem com_tNo : Com tNo := fun _ _ _ => rfl
/-- what is walked stands in a live slot -/
def ComI (f : Ic) : Prop := ∀ (ρ : Env) (β : Nat → Sl), Un β → ResO β (f ρ) (f (over ρ β)) ∧ ∀ p ρ1, f ρ = .ok p ρ1 → ∀ i, p.1 = .slot i → get ρ1 i ≠ .no
theorem peek_live {r : R} {v : Val} (h : peek r ρ = some v) : ∀ i, r = .slot i → get ρ i ≠ .no := fun i e z => by
  subst e
  simp only [peek, z] at h
  cases h
theorem com_seqI {k : List Val → List Val} (hf : Com f) : ComI (fun ρ => (f ρ).bind fun r ρ => ofO ((peek r ρ).bind fun v => (seqOf v).map fun xs => (r, k xs)) ρ) := fun ρ β u => by
  refine ⟨(hf ρ β u).bind fun r ρ1 _ => ofO_over fun a e => ?_, fun p ρ1 e i ei => ?_⟩
  · obtain ⟨v, e1, e⟩ := Option.bind_eq_some_iff.mp e
    rw [peek_over e1]
    exact e
  · obtain ⟨r, ρ2, e1, e⟩ := Res.bind_ok e
    cases eo : (peek r ρ2).bind fun v => (seqOf v).map fun xs => (r, k xs) with
    | none => rw [eo] at e; cases e
    | some q =>
      rw [eo] at e
      cases e
      obtain ⟨v, e2, eo⟩ := Option.bind_eq_some_iff.mp eo
      obtain ⟨xs, _, eo⟩ := Option.map_eq_some_iff.mp eo
      subst eo
      exact peek_live e2 i ei
theorem com_iSeq (hf : Com f) : ComI (iSeq f) := com_seqI (k := fun xs => xs) hf
theorem com_iEnum (hf : Com f) : ComI (iEnum f) := com_seqI (k := enumL 0) hf
theorem com_iVal {l : Vc} {op : List Val → Option (List Val)} (hl : Com l) : ComI (fun ρ => (l ρ).bind fun vs ρ => ofO ((op vs).map fun xs => (.val .non, xs)) ρ) := fun ρ β u => by
  refine ⟨(hl ρ β u).bind fun r ρ1 _ => ofO_over fun a e => e, fun p ρ1 e i ei => ?_⟩
  obtain ⟨r, ρ2, e1, e⟩ := Res.bind_ok e
  cases eo : op r with
  | none => rw [eo] at e; cases e
  | some q =>
    rw [eo] at e
    cases e
    cases ei
theorem compLoop_over {F : Val → Env → Res (Option Val)} (hF : ∀ x ρ, ResO β (F x ρ) (F x (over ρ β))) : ∀ (xs : List Val) (ρ : Env), ResO β (compLoop F xs ρ) (compLoop F xs (over ρ β))
  | [], _ => rfl
  | x :: r, ρ => (hF x ρ).bind fun o ρ1 _ => (compLoop_over hF r ρ1).bind fun vs ρ2 _ => rfl
theorem compLoop2_over {F : Val → Env → Res (List Val)} (hF : ∀ x ρ, ResO β (F x ρ) (F x (over ρ β))) : ∀ (xs : List Val) (ρ : Env), ResO β (compLoop2 F xs ρ) (compLoop2 F xs (over ρ β))
  | [], _ => rfl
  | x :: r, ρ => (hF x ρ).bind fun o ρ1 _ => (compLoop2_over hF r ρ1).bind fun vs ρ2 _ => rfl
theorem body_over {t : Tg} {fc : Cc} (hc : Com fc) (hf : Com f) (u : Un β) (hb : offs (tgs t) β = β) (x : Val) (ρ : Env) : ResO β (compBody t fc f x ρ) (compBody t fc f x (over ρ β)) := by
  unfold compBody
  cases e : tgt t x ρ with
  | none => trivial
  | some ρ1 =>
    rw [tgt_over u e]
    refine (hc ρ1 β u).bind fun k ρ2 _ => ?_
    cases k with
    | false =>
      show Res.ok none (wipes (tgs t) (over ρ2 β)) = Res.ok none (over (wipes (tgs t) ρ2) β)
      rw [wipes_over, hb]
    | true =>
      refine (hf ρ2 β u).bind fun r ρ3 _ => ?_
      cases e2 : frz r ρ3 with
      | none => trivial
      | some p =>
        obtain ⟨v, ρ4⟩ := p
        rw [frz_over e2]
        show Res.ok (some v) (wipes (tgs t) (over ρ4 β)) = Res.ok (some v) (over (wipes (tgs t) ρ4) β)
        rw [wipes_over, hb]
theorem ResO.held {α : Type} {x y : Res α} (h : ResO β x y) : ResO β x.held y.held := by
  cases x with
  | ok a ρ1 =>
    have h : y = .ok a (over ρ1 β) := h
    subst h
    rfl
  | _ => trivial
/-- backwards: the walk's own slot, the targets' slots -/
theorem unlock_over {r : R} {ρ0 ρ : Env} (h0 : ∀ i, r = .slot i → get ρ0 i ≠ .no) (u : Un β) : unlockR r (over ρ0 β) (over ρ β) = over (unlockR r ρ0 ρ) β := by
  cases r with
  | slot i =>
    simp only [unlockR, get_over (h0 i rfl)]
    by_cases n : get ρ i = .no
    · have nr : ∀ l v, get (over ρ β) i ≠ .rd l v := fun l v z => by
        rcases get_over_no (β := β) n with e | e
        · rw [e] at z; cases z
        · rw [e] at z; exact (u i).2 l v z
      rw [n]
      cases get ρ0 i with
      | ow l w =>
        cases g : get (over ρ β) i with
        | rd l v => exact absurd g (nr l v)
        | _ => rfl
      | _ => rfl
    · rw [get_over n]
      cases get ρ0 i with
      | ow l w =>
        cases get ρ i with
        | rd lk v => simp only [put_ow]
        | _ => rfl
      | _ => rfl
  | _ => rfl
theorem get_over_in : ∀ {ρ : Env} {β : Nat → Sl} {i : Nat}, get ρ i = .no → i < ρ.length → get (over ρ β) i = β i
  | [], _, _, _, h => absurd h (Nat.not_lt_zero _)
  | s :: r, β, 0, h, _ => by
    have h : s = .no := h
    subst h
    rfl
  | s :: r, β, i + 1, h, hl => get_over_in (ρ := r) (β := fun i => β (i + 1)) (i := i) h (Nat.lt_of_succ_lt_succ hl)
def setB (i : Nat) (b : Sl) (β : Nat → Sl) : Nat → Sl := fun j => if j = i then b else β j
theorem put_bg : ∀ {ρ : Env} {δ : Nat → Sl} {i : Nat} {b : Sl}, put (over ρ δ) i b = over (put ρ i .no) (setB i b δ)
  | [], _, _, _ => rfl
  | t :: r, δ, 0, b => by
    show b :: over r (fun j => δ (j + 1)) = ov1 .no (setB 0 b δ 0) :: over r (fun j => setB 0 b δ (j + 1))
    have e : (fun j => setB 0 b δ (j + 1)) = fun j => δ (j + 1) := by
      funext j
      unfold setB
      rw [if_neg (Nat.succ_ne_zero j)]
    rw [e]
    rfl
  | t :: r, δ, i + 1, b => by
    show ov1 t (δ 0) :: put (over r fun j => δ (j + 1)) i b = ov1 t (setB (i + 1) b δ 0) :: over (put r i .no) (fun j => setB (i + 1) b δ (j + 1))
    rw [put_bg]
    have e : setB i b (fun j => δ (j + 1)) = fun j => setB (i + 1) b δ (j + 1) := by
      funext j
      unfold setB
      by_cases h : j = i
      · rw [if_pos h, if_pos (by rw [h])]
      · rw [if_neg h, if_neg (fun z => h (Nat.succ.inj z))]
    have e0 : setB (i + 1) b δ 0 = δ 0 := if_neg (Nat.succ_ne_zero i).symm
    rw [e, e0]
theorem put_setB : ∀ {ρ : Env} {δ : Nat → Sl} {i : Nat} {s b : Sl}, s ≠ .no → over (put ρ i s) (setB i b δ) = over (put ρ i s) δ
  | [], _, _, _, _, _ => rfl
  | t :: r, δ, 0, s, b, h => by
    show ov1 s (setB 0 b δ 0) :: over r (fun j => setB 0 b δ (j + 1)) = ov1 s (δ 0) :: over r (fun j => δ (j + 1))
    have e : (fun j => setB 0 b δ (j + 1)) = fun j => δ (j + 1) := by
      funext j
      unfold setB
      rw [if_neg (Nat.succ_ne_zero j)]
    rw [e, ov1_ne h, ov1_ne h]
  | t :: r, δ, i + 1, s, b, h => by
    show ov1 t (setB (i + 1) b δ 0) :: over (put r i s) (fun j => setB (i + 1) b δ (j + 1)) = ov1 t (δ 0) :: over (put r i s) (fun j => δ (j + 1))
    have e : (fun j => setB (i + 1) b δ (j + 1)) = setB i b (fun j => δ (j + 1)) := by
      funext j
      unfold setB
      by_cases h : j = i
      · rw [if_pos h, if_pos (by rw [h])]
      · rw [if_neg h, if_neg (fun z => h (Nat.succ.inj z))]
    have e0 : setB (i + 1) b δ 0 = δ 0 := if_neg (Nat.succ_ne_zero i).symm
    rw [e, e0, put_setB h]
def mixB (is : List Nat) (β γ : Nat → Sl) : Nat → Sl := fun j => if j ∈ is then β j else γ j
theorem backs_mix {ρ0 : Env} : ∀ {is : List Nat} {ρ : Env} {γ : Nat → Sl}, inB is ρ0 = true → backs is (over ρ0 β) (over ρ γ) = over (backs is ρ0 ρ) (mixB is β γ)
  | [], ρ, γ, _ => by
    show over ρ γ = over ρ (mixB [] β γ)
    congr 1
  | i :: is, ρ, γ, h => by
    simp only [inB, Bool.and_eq_true] at h
    obtain ⟨hi, h⟩ := h
    have hi : i < ρ0.length := Nat.blt_eq.mp hi
    show put (backs is (over ρ0 β) (over ρ γ)) i (get (over ρ0 β) i) = over (put (backs is ρ0 ρ) i (get ρ0 i)) (mixB (i :: is) β γ)
    rw [backs_mix h]
    have em : mixB (i :: is) β γ = setB i (β i) (mixB is β γ) := by
      funext j
      unfold mixB setB
      by_cases hj : j = i
      · subst hj
        rw [if_pos (.head _), if_pos rfl]
      · rw [if_neg hj]
        have : j ∈ i :: is ↔ j ∈ is := by simp [List.mem_cons, hj]
        simp only [this]
    rw [em]
    by_cases n : get ρ0 i = .no
    · rw [get_over_in n hi, n, put_bg]
    · rw [get_over n, put_over n, put_setB n]
theorem backs_over {ρ0 : Env} {is : List Nat} {ρ : Env} (h : inB is ρ0 = true) : backs is (over ρ0 β) (over ρ (offs is β)) = over (backs is ρ0 ρ) β := by
  rw [backs_mix h]
  congr 1
  funext j
  unfold mixB
  split
  · rfl
  · rename_i hj
    rw [offs_get, if_neg hj]
theorem over_len : ∀ {ρ : Env} {β : Nat → Sl}, (over ρ β).length = ρ.length
  | [], _ => rfl
  | _ :: r, β => congrArg (· + 1) (over_len (ρ := r))
theorem inB_over : ∀ {is : List Nat} {ρ : Env}, inB is (over ρ β) = inB is ρ
  | [], _ => rfl
  | i :: is, ρ => by
    show (Nat.blt i (over ρ β).length && inB is (over ρ β)) = _
    rw [over_len, inB_over]
    rfl
theorem com_comp {t : Tg} {fi : Ic} {fc : Cc} {fe : Ec} (hi : ComI fi) (hc : Com fc) (he : Com fe) : Com (cComp t fi fc fe) := fun ρ0 β u => by
  refine (hi ρ0 β u).1.bind fun p ρ ep => ?_
  have live := (hi ρ0 β u).2 p ρ ep
  rw [inB_over]
  cases hb : inB (tgs t) ρ with
  | false => trivial
  | true =>
    rw [if_pos rfl, if_pos rfl, lockR_over (v := .non) live, wipes_over]
    have L := (compLoop_over (β := offs (tgs t) β) (fun x ρ => body_over hc he u.offs offs_offs x ρ) p.2 (wipes (tgs t) (lockR p.1 ρ))).held
    cases e : (compLoop (compBody t fc fe) p.2 (wipes (tgs t) (lockR p.1 ρ))).held with
    | ok vs ρ' =>
      rw [e] at L
      have L : (compLoop (compBody t fc fe) p.2 (over (wipes (tgs t) (lockR p.1 ρ)) (offs (tgs t) β))).held = .ok vs (over ρ' (offs (tgs t) β)) := L
      rw [L]
      simp only [Res.bind]
      split
      · rw [backs_over hb, unlock_over live u]
        rfl
      · trivial
    | exc k q ρ' =>
      rw [e] at L
      obtain ⟨ρ2, L⟩ := L
      rw [L]
      exact ⟨_, rfl⟩
    | stuck => trivial
end
end Ev

/-! Ev27: backgrounds: the evaluator as a whole. -/
namespace Ev
section
variable {β : Nat → Sl} {ρ : Env}
theorem offs_sub {is js : List Nat} (h : ∀ i ∈ is, i ∈ js) : offs is (offs js β) = offs js β := by
  funext j
  rw [offs_get, offs_get]
  by_cases hj : j ∈ is
  · rw [if_pos hj, if_pos (h j hj)]
  · rw [if_neg hj]
variable {f g h : Ec} {t t2 : Tg} {fi fi2 : Ic} {fc fc2 : Cc} {fe : Ec}
theorem body2_over (hc : Com fc) (hi : ComI fi2) (hc2 : Com fc2) (he : Com fe) (u : Un β) (h1 : offs (tgs t) β = β) (h2 : offs (tgs t2) β = β) (x : Val) (ρ : Env) : ResO β (compBody2 t fc t2 fi2 fc2 fe x ρ) (compBody2 t fc t2 fi2 fc2 fe x (over ρ β)) := by
  unfold compBody2
  cases e : tgt t x ρ with
  | none => trivial
  | some ρ1 =>
    rw [tgt_over u e]
    refine (hc ρ1 β u).bind fun k ρ2 _ => ?_
    cases k with
    | false =>
      show Res.ok [] (wipes (tgs t) (over ρ2 β)) = Res.ok [] (over (wipes (tgs t) ρ2) β)
      rw [wipes_over, h1]
    | true =>
      refine (hi ρ2 β u).1.bind fun p ρ3 ep => ?_
      rw [lockR_over (v := .non) ((hi ρ2 β u).2 p ρ3 ep)]
      refine (compLoop_over (fun x ρ => body_over hc2 he u h2 x ρ) p.2 (lockR p.1 ρ3)).bind fun vs ρ4 _ => ?_
      show Res.ok vs (wipes (tgs t) (over ρ4 β)) = Res.ok vs (over (wipes (tgs t) ρ4) β)
      rw [wipes_over, h1]
theorem com_comp2 (hi : ComI fi) (hc : Com fc) (hi2 : ComI fi2) (hc2 : Com fc2) (he : Com fe) : Com (cComp2 t fi fc t2 fi2 fc2 fe) := fun ρ0 β u => by
  refine (hi ρ0 β u).1.bind fun p ρ ep => ?_
  have live := (hi ρ0 β u).2 p ρ ep
  rw [inB_over]
  cases hb : inB (tgs t ++ tgs t2) ρ with
  | false => trivial
  | true =>
    rw [if_pos rfl, if_pos rfl, lockR_over (v := .non) live, wipes_over]
    have L := (compLoop2_over (β := offs (tgs t ++ tgs t2) β) (fun x ρ => body2_over hc hi2 hc2 he u.offs (offs_sub fun i hi => List.mem_append_left _ hi) (offs_sub fun i hi => List.mem_append_right _ hi) x ρ) p.2 (wipes (tgs t ++ tgs t2) (lockR p.1 ρ))).held
    cases e : (compLoop2 (compBody2 t fc t2 fi2 fc2 fe) p.2 (wipes (tgs t ++ tgs t2) (lockR p.1 ρ))).held with
    | ok vs ρ' =>
      rw [e] at L
      have L : (compLoop2 (compBody2 t fc t2 fi2 fc2 fe) p.2 (over (wipes (tgs t ++ tgs t2) (lockR p.1 ρ)) (offs (tgs t ++ tgs t2) β))).held = .ok vs (over ρ' (offs (tgs t ++ tgs t2) β)) := L
      rw [L]
      simp only [Res.bind]
      split
      · rw [backs_over hb, unlock_over live u]
        rfl
      · trivial
    | exc k q ρ' =>
      rw [e] at L
      obtain ⟨ρ2, L⟩ := L
      rw [L]
      exact ⟨_, rfl⟩
    | stuck => trivial
/-! ### statements -/
theorem ofE_over {x y : Option Env} (h : ∀ a, x = some a → y = some (over a β)) : SResO β (ofE x) (ofE y) := by
  cases x with
  | none => trivial
  | some a => rw [h a rfl]; rfl
theorem toSl_over {r : R} {s : Sl} {ρ1 : Env} (h : toSl r ρ = some (s, ρ1)) : toSl r (over ρ β) = some (s, over ρ1 β) ∧ s ≠ .no := by
  cases r with
  | val v => cases h; exact ⟨rfl, fun z => by cases z⟩
  | fresh v => cases h; exact ⟨rfl, fun z => by cases z⟩
  | slot i =>
    obtain ⟨⟨v, ρ2⟩, e, h⟩ := Option.map_eq_some_iff.mp h
    cases h
    exact ⟨by simp only [toSl, frz_over e, Option.map_some], fun z => by cases z⟩
theorem toSls_over : ∀ {rs : List R} {ρ ρ1 : Env} {ss : List Sl}, toSls rs ρ = some (ss, ρ1) → toSls rs (over ρ β) = some (ss, over ρ1 β) ∧ ∀ s ∈ ss, s ≠ .no
  | [], _, _, _, h => by cases h; exact ⟨rfl, fun _ m => nomatch m⟩
  | r :: rs, ρ, ρ1, ss, h => by
    obtain ⟨⟨s, ρ2⟩, e1, h⟩ := Option.bind_eq_some_iff.mp h
    obtain ⟨⟨ss', ρ3⟩, e2, h⟩ := Option.map_eq_some_iff.mp h
    cases h
    obtain ⟨a, b⟩ := toSl_over (β := β) e1
    obtain ⟨c, d⟩ := toSls_over e2
    refine ⟨by simp only [toSls, a, Option.bind_some, c, Option.map_some], fun x m => ?_⟩
    rcases List.mem_cons.mp m with rfl | m
    · exact b
    · exact d x m
theorem stoSls_over (u : Un β) : ∀ {is : List Nat} {ss : List Sl} {ρ ρ1 : Env}, (∀ s ∈ ss, s ≠ .no) → stoSls is ss ρ = some ρ1 → stoSls is ss (over ρ β) = some (over ρ1 β)
  | [], [], _, _, _, h => by cases h; rfl
  | [], _ :: _, _, _, _, h => by cases h
  | _ :: _, [], _, _, _, h => by cases h
  | i :: is, s :: ss, ρ, ρ1, n, h => by
    obtain ⟨ρ2, e, h⟩ := Option.bind_eq_some_iff.mp h
    simp only [stoSls, sto_over u (n s (.head _)) e, Option.bind_some, stoSls_over u (fun x m => n x (.tail _ m)) h]
theorem coms_set {i : Nat} (hf : Com f) : ComS (sSet i f) := fun ρ β u => (hf ρ β u).then fun r ρ1 _ => ofE_over fun a e => by
  obtain ⟨⟨s, ρ2⟩, e1, e⟩ := Option.bind_eq_some_iff.mp e
  obtain ⟨x, y⟩ := toSl_over (β := β) e1
  rw [x]
  exact sto_over u y e
theorem coms_par {is : List Nat} {l : Lc} (hl : Com l) : ComS (sPar is l) := fun ρ β u => (hl ρ β u).then fun rs ρ1 _ => ofE_over fun a e => by
  obtain ⟨⟨s, ρ2⟩, e1, e⟩ := Option.bind_eq_some_iff.mp e
  obtain ⟨x, y⟩ := toSls_over (β := β) e1
  rw [x]
  exact stoSls_over u y e
theorem coms_unp {is : List Nat} (hf : Com f) : ComS (sUnp is f) := fun ρ β u => (hf ρ β u).then fun r ρ1 _ => ofE_over fun a e => by
  obtain ⟨⟨s, ρ2⟩, e1, e⟩ := Option.bind_eq_some_iff.mp e
  rw [frz_over e1]
  exact tgt_over u e
theorem ownS_over {x : Nat} {ρ : Env} {a b : SRes} (h : ∀ lk vs, get ρ x = .ow lk vs → SResO β a b) : SResO β (ownS x ρ a) (ownS x (over ρ β) b) := by
  unfold ownS
  by_cases n : get ρ x = .no
  · rw [n]; trivial
  · rw [get_over n]
    cases g : get ρ x with
    | ow lk vs => exact h lk vs g
    | _ => trivial
theorem appTo_over {x : Nat} {v : Val} : SResO β (appTo x v ρ) (appTo x v (over ρ β)) := by
  unfold appTo
  by_cases n : get ρ x = .no
  · rw [n]; trivial
  · rw [get_over n]
    cases g : get ρ x with
    | ow lk vs =>
      simp only
      split
      · rw [put_ow]; rfl
      · trivial
    | _ => trivial
theorem putAt_over {x : Nat} {v : Val} {r : R} : SResO β (putAt x v r ρ) (putAt x v r (over ρ β)) := by
  cases r with
  | val w =>
    cases w with
    | int i =>
      simp only [putAt]
      by_cases n : get ρ x = .no
      · rw [n]; trivial
      · rw [get_over n]
        cases g : get ρ x with
        | ow lk vs =>
          simp only
          cases place (len vs) i with
          | none => trivial
          | some j =>
            simp only [put_ow]
            rfl
        | _ => trivial
    | _ => trivial
  | _ => trivial
theorem coms_put {x : Nat} {fk : Ec} (hk : Com fk) (hf : Com f) : ComS (sPut x fk f) := fun ρ β u => (hf ρ β u).then fun r ρ1 _ => by
  cases e : frz r ρ1 with
  | none => trivial
  | some p =>
    obtain ⟨v, ρ2⟩ := p
    rw [frz_over e]
    exact ownS_over fun _ _ _ => (hk ρ2 β u).then fun i ρ3 _ => putAt_over
theorem coms_app {x : Nat} (hf : Com f) : ComS (sApp x f) := fun ρ β u => ownS_over fun _ _ _ => (hf ρ β u).then fun r ρ1 _ => by
  cases e : frz r ρ1 with
  | none => trivial
  | some p =>
    obtain ⟨v, ρ2⟩ := p
    rw [frz_over e]
    exact appTo_over
variable {sa sb : Sc}
theorem coms_if (hf : Com f) (ha : ComS sa) (hb : ComS sb) : ComS (sIf f sa sb) := fun ρ β u => (com_tYes hf ρ β u).then fun k ρ1 _ => by
  cases k with
  | true => exact ha ρ1 β u
  | false => exact hb ρ1 β u
theorem forLoop_over {F : Val → Env → SRes} (hF : ∀ x ρ, SResO β (F x ρ) (F x (over ρ β))) : ∀ (xs : List Val) (ρ : Env), SResO β (forLoop F xs ρ) (forLoop F xs (over ρ β))
  | [], _ => rfl
  | x :: r, ρ => (hF x ρ).bind fun ρ1 _ => forLoop_over hF r ρ1
theorem coms_for (hi : ComI fi) (hb : ComS sb) : ComS (sFor t fi sb) := fun ρ β u => (hi ρ β u).1.then fun p ρ1 ep => by
  have live := (hi ρ β u).2 p ρ1 ep
  rw [lockR_over (v := .non) live]
  have L := forLoop_over (β := β) (F := forBody t sb) (fun x ρ => by
    unfold forBody
    cases e : tgt t x ρ with
    | none => trivial
    | some ρ2 =>
      rw [tgt_over u e]
      exact hb ρ2 β u) p.2 (lockR p.1 ρ1)
  cases e : forLoop (forBody t sb) p.2 (lockR p.1 ρ1) with
  | next ρ2 =>
    rw [e] at L
    have L : forLoop (forBody t sb) p.2 (over (lockR p.1 ρ1) β) = .next (over ρ2 β) := L
    rw [L]
    show SRes.next (unlockR p.1 (over ρ1 β) (over ρ2 β)) = .next (over (unlockR p.1 ρ1 ρ2) β)
    rw [unlock_over live u]
  | ret r ρ2 =>
    rw [e] at L
    obtain ⟨ρ3, L⟩ := L
    rw [L]
    exact ⟨_, rfl⟩
  | exc k q ρ2 =>
    rw [e] at L
    obtain ⟨ρ3, L⟩ := L
    rw [L]
    exact ⟨_, rfl⟩
  | stuck => trivial
theorem whileLoop_over {c : Cc} {F : Env → SRes} (hc : Com c) (hF : ComS F) (u : Un β) : ∀ (n : Nat) (ρ : Env), SResO β (whileLoop c F n ρ) (whileLoop c F n (over ρ β))
  | 0, _ => trivial
  | n + 1, ρ => (hc ρ β u).then fun b ρ1 _ => by
    cases b with
    | false => rfl
    | true => exact (hF ρ1 β u).bind fun ρ2 _ => whileLoop_over hc hF u n ρ2
theorem coms_while (hf : Com f) (hb : ComS sb) : ComS (sWhile f sb) := fun ρ β u => whileLoop_over (com_tYes hf) hb u wfuel ρ
theorem coms_ret (hf : Com f) : ComS (sRet f) := fun ρ β u => (hf ρ β u).then fun r ρ1 _ => by
  cases e : retR r ρ1 with
  | none => trivial
  | some p =>
    have e2 : ∃ ρ3, retR r (over ρ1 β) = some (p.1, ρ3) := by
      cases r with
      | val v => cases e; exact ⟨_, rfl⟩
      | fresh v => cases e; exact ⟨_, rfl⟩
      | slot i =>
        simp only [retR] at e ⊢
        have n : get ρ1 i ≠ .no := fun z => by rw [z] at e; cases e
        rw [get_over n]
        cases g : get ρ1 i with
        | no => exact absurd g n
        | sh l v => rw [g] at e; cases e; exact ⟨_, rfl⟩
        | ow l v => rw [g] at e; cases l <;> (cases e; exact ⟨_, rfl⟩)
        | rd l v => rw [g] at e; cases l <;> (cases e; exact ⟨_, rfl⟩)
    obtain ⟨ρ3, e2⟩ := e2
    rw [e2]
    exact ⟨_, rfl⟩
theorem coms_ex (hf : Com f) : ComS (sEx f) := fun ρ β u => (hf ρ β u).then fun r ρ1 _ => rfl
theorem coms_nil : ComS sNil := fun _ _ _ => rfl
theorem coms_cons (ha : ComS sa) (hb : ComS sb) : ComS (sCons sa sb) := fun ρ β u => (ha ρ β u).bind fun ρ1 _ => hb ρ1 β u
theorem sreso_held {β : Nat → Sl} {x y : SRes} (L : SResO β x y) : SResO β x.held y.held := by
  cases x with
  | next ρ1 => cases L; exact rfl
  | ret r ρ1 => obtain ⟨ρ2, L⟩ := L; subst L; exact ⟨_, rfl⟩
  | exc k q ρ1 => trivial
  | stuck => trivial
theorem coms_held (ha : ComS sa) : ComS (fun ρ => (sa ρ).held) := fun ρ β u => sreso_held (ha ρ β u)
end
section
variable (bors : Nat → Option (List Bool)) (call : Call)
mutual
theorem comE : ∀ e : E, Com (evR bors call e)
  | .var _ => com_var
  | .fn _ => com_val
  | .non => com_val
  | .bl _ => com_val
  | .int _ => com_val
  | .str _ => com_val
  | .bin _ a b => com_c2 (comE a) (comE b)
  | .neg a => com_c1 (comE a)
  | .not_ a => com_not (comE a)
  | .bop k es => comB k es
  | .cmp _ a b => com_c2 (comE a) (comE b)
  | .chain _ _ a b c => com_chain (comE a) (comE b) (comE c)
  | .ite c a b => com_ite (comE c) (comE a) (comE b)
  | .call _ es => com_callj fun bs => comA es bs
  | .callv _ es => com_callv fun bs => comA es bs
  | .bfn _ es => com_cL (comL es)
  | .meth .join o es => com_join (comE o) (comL es)
  | .meth .count o es => com_count (comE o) (comL es)
  | .isi a _ => com_c1 (comE a)
  | .idx a i => com_c2 (comE a) (comE i)
  | .slc a lo hi => com_slc (comE a) (comO lo) (comO hi)
  | .rev a => com_c1 (comE a)
  | .tup es => com_tup (comV es)
  | .lst es => com_lst (comV es)
  | .comp elt _ it c => com_comp (comI it) (comC c) (comE elt)
  | .comp2 elt _ it c _ it2 c2 => com_comp2 (comI it) (comC c) (comI it2) (comC c2) (comE elt)
theorem comB : ∀ (k : Bool) (es : Es), Com (evBop bors call k es)
  | _, .nil => fun _ _ _ => trivial
  | k, .cons e es => match es with
    | .nil => com_bl (comE e)
    | .cons a b => com_bop (comE e) (comB k (.cons a b))
theorem comL : ∀ es : Es, Com (evL bors call es)
  | .nil => com_lNil
  | .cons e es => com_lCons (comE e) (comL es)
theorem comV : ∀ es : Es, Com (evVs bors call es)
  | .nil => com_vNil
  | .cons e es => com_vCons (comE e) (comV es)
theorem comA : ∀ (es : Es) (bs : List Bool), Com (evA bors call es bs)
  | .nil, _ => com_lNil
  | .cons e es, bs => com_aCons (comE e) (comA es (bs.drop 1))
theorem comO : ∀ o : Oe, Com (evO bors call o)
  | .no => com_oNo
  | .yes e => com_oYes (comE e)
theorem comC : ∀ o : Oe, Com (evC bors call o)
  | .no => com_tNo
  | .yes e => com_tYes (comE e)
theorem comI : ∀ it : It, ComI (evI bors call it)
  | .seq e => com_iSeq (comE e)
  | .rng es => com_iVal (comV es)
  | .enum e => com_iEnum (comE e)
  | .zip es => com_iVal (comV es)
end
mutual
theorem comSt : ∀ s : S, ComS (exS bors call s)
  | .set _ e => coms_set (comE bors call e)
  | .par _ es => coms_par (comL bors call es)
  | .unp _ e => coms_unp (comE bors call e)
  | .put _ k e => coms_put (comE bors call k) (comE bors call e)
  | .app _ e => coms_app (comE bors call e)
  | .ife c a b => coms_if (comE bors call c) (comSs a) (comSs b)
  | .for_ _ it b => coms_for (comI bors call it) (comSs b)
  | .whl c b => coms_while (comE bors call c) (comSs b)
  | .ret e => coms_ret (comE bors call e)
  | .ex e => coms_ex (comE bors call e)
  | .doc => coms_nil
  | .try_ b => coms_held (comSs b)
theorem comSs : ∀ ss : Ss, ComS (exSs bors call ss)
  | .nil => coms_nil
  | .cons s ss => coms_cons (comSt s) (comSs ss)
end
end
end Ev

/-! Ev28: the draws of every law: its state and its takes. -/
namespace Ev
open PySem
def stateFor : Ss := (.cons (.set 1 (.bin .add (.bin .mul (.var 1) (.int 1000003)) (.bfn .abs (.cons (.var 3) .nil))))
  (.cons (.set 2 (.bin .mod (.bfn .int (.cons (.bin .add (.bin .mul (.var 2) (.int 48271)) (.var 3)) .nil)) (.int 2147483647)))
  .nil))
def stateB : Ss := (.cons (.set 1 (.int 0))
  (.cons (.set 2 (.int 1))
  (.cons (.for_ (.one 3) (.seq (.slc (.var 0) .no (.yes (.int 63)))) stateFor)
  (.cons (.ret (.lst (.cons (.var 1) (.cons (.ite (.cmp .ne (.var 2) (.int 1973665155)) (.var 2) (.int 7)) .nil))))
  .nil))))
def takeB : Ss := (.cons (.ife (.cmp .gt (.idx (.var 0) (.int 0)) (.int 0)) (.cons (.set 2 (.bin .mod (.bfn .int (.cons (.idx (.var 0) (.int 0)) .nil)) (.var 1)))
  (.cons (.put 0 (.int 0) (.bin .fdiv (.idx (.var 0) (.int 0)) (.var 1)))
  (.cons (.ret (.var 2))
  .nil))) .nil)
  (.cons (.put 0 (.int 1) (.bin .mod (.bfn .int (.cons (.bin .add (.bin .mul (.idx (.var 0) (.int 1)) (.int 48271)) (.int 11)) .nil)) (.int 2147483647)))
  (.cons (.ret (.bin .mod (.bfn .int (.cons (.bin .fdiv (.idx (.var 0) (.int 1)) (.int 7)) .nil)) (.var 1)))
  .nil)))
def tkV (s t m : Int) : Int := if 0 < s then s % m else (t * 48271 + 11) % 2147483647 / 7 % m
def tkS (s m : Int) : Int := if 0 < s then s / m else s
def tkT (s t : Int) : Int := if 0 < s then t else (t * 48271 + 11) % 2147483647
theorem tkV_lo {s t m : Int} (h : 0 < m) : 0 ≤ tkV s t m := by
  unfold tkV
  split <;> exact Int.emod_nonneg _ (Int.ne_of_gt h)
theorem tkV_hi {s t m : Int} (h : 0 < m) : tkV s t m < m := by
  unfold tkV
  split <;> exact Int.emod_lt_of_pos _ h
section
variable {bors : Nat → Option (List Bool)} {call : Call}
theorem takeB_ok {s t m : Int} (h1 : 0 < m) (h2 : m < 1073741824) : ∃ ρ', exSs bors call takeB [.ow true [.int s, .int t], .sh false (.int m), .no] = .ret (.val (.int (tkV s t m))) (.ow true [.int (tkS s m), .int (tkT s t)] :: .sh false (.int m) :: ρ') := by
  have nz : m ≠ 0 := Int.ne_of_gt h1
  by_cases hs : 0 < s
  · refine ⟨[.sh false (.int (s % m))], ?_⟩
    simp [takeB, exSs, exS, sCons, sIf, tYes, evR, evL, c2, c1, cL, cVar, cVal, get, put, Res.bind, Res.then, SRes.bind, ofO, peek, peeks, cmpR, cmp, index, seqOf, at_, place, nth, len, bin, bfn, h1, h2, hs, divOk, sSet, sPut, sRet, toSl, sto, ofE, frz, ownS, putAt, upd_, retR, sNil, lNil, lCons, tkV, tkS, tkT]
  · refine ⟨[.no], ?_⟩
    simp [takeB, exSs, exS, sCons, sIf, tYes, evR, evL, c2, c1, cL, cVar, cVal, get, put, Res.bind, Res.then, SRes.bind, ofO, peek, peeks, cmpR, cmp, index, seqOf, at_, place, nth, len, bin, bfn, h1, h2, hs, divOk, mulOk, small, sSet, sPut, sRet, toSl, sto, ofE, frz, ownS, putAt, upd_, retR, sNil, lNil, lCons, tkV, tkS, tkT]
def freeB : Sl → Bool
  | .no => true
  | .sh false _ => true
  | _ => false
theorem stateFor_ok {s0 : Sl} : ∀ (xs : List Int) (s t : Int) (w : Sl), freeB w = true → ∃ s' t' w', forLoop (forBody (.one 3) (exSs bors call stateFor)) (xs.map .int) [s0, .sh false (.int s), .sh false (.int t), w] = .next [s0, .sh false (.int s'), .sh false (.int t'), w'] ∧ freeB w' = true
  | [], s, t, w, h => ⟨s, t, w, rfl, h⟩
  | x :: xs, s, t, w, h => by
    obtain ⟨s', t', w', e, h'⟩ := stateFor_ok xs (s * 1000003 + if x < 0 then -x else x) ((t * 48271 + x) % 2147483647) (.sh false (.int x)) rfl
    refine ⟨s', t', w', ?_, h'⟩
    rw [← e]
    have ew : sto [s0, .sh false (.int s), .sh false (.int t), w] 3 (.sh false (.int x)) = some [s0, .sh false (.int s), .sh false (.int t), .sh false (.int x)] := by
      cases w with
      | no => rfl
      | sh l v => cases l with
        | false => rfl
        | true => cases h
      | ow l v => cases h
      | rd l v => cases h
    have e2 : forBody (.one 3) (exSs bors call stateFor) (.int x) [s0, .sh false (.int s), .sh false (.int t), w] = .next [s0, .sh false (.int (s * 1000003 + if x < 0 then -x else x)), .sh false (.int ((t * 48271 + x) % 2147483647)), .sh false (.int x)] := by
      simp only [forBody, tgt, ew]
      simp [stateFor, exSs, exS, sCons, evR, evL, c2, c1, cL, cVar, cVal, get, put, Res.bind, Res.then, SRes.bind, ofO, peek, peeks, bin, bfn, mulOk, small, sSet, toSl, sto, ofE, frz, sNil, lNil, lCons]
    show SRes.bind (forBody (.one 3) (exSs bors call stateFor) (.int x) _) _ = _
    rw [e2]
    rfl
theorem len_map {α β : Type} (f : α → β) : ∀ xs : List α, len (xs.map f) = len xs
  | [] => rfl
  | _ :: r => congrArg (· + 1) (len_map f r)
theorem cut_map {α β : Type} (f : α → β) (xs : List α) (lo hi : Option Int) : cut (xs.map f) lo hi = (cut xs lo hi).map f := by
  simp only [cut, len_map, List.map_take, List.map_drop]
theorem stateB_ok (ns : List Int) : ∃ s t ρ', exSs bors call stateB [.sh false (.scr ns), .no, .no, .no] = .ret (.fresh [.int s, .int t]) ρ' ∧ takeSl 1 ρ' = [.no] := by
  obtain ⟨s, t, w, e, _⟩ := stateFor_ok (bors := bors) (call := call) (s0 := .sh false (.scr ns)) (cut ns none (some 63)) 0 1 .no rfl
  refine ⟨s, if t = 1973665155 then 7 else t, [.sh false (.scr ns), .sh false (.int s), .sh false (.int t), w], ?_, rfl⟩
  have a : exS bors call (.for_ (.one 3) (.seq (.slc (.var 0) .no (.yes (.int 63)))) stateFor) [.sh false (.scr ns), .sh false (.int 0), .sh false (.int 1), .no] = .next [.sh false (.scr ns), .sh false (.int s), .sh false (.int t), w] := by
    simp only [exS, evI, evR, evO, sFor, iSeq, cSlc, cVar, get, Res.bind, Res.then, oNo, oYes, cVal, ofO, peek, Option.bind, slice, Option.map, seqOf, cut_map, lockR, SRes.unlock, e, unlockR]
  have a1 : exS bors call (.set 1 (.int 0)) [.sh false (.scr ns), .no, .no, .no] = .next [.sh false (.scr ns), .sh false (.int 0), .no, .no] := rfl
  have a2 : exS bors call (.set 2 (.int 1)) [.sh false (.scr ns), .sh false (.int 0), .no, .no] = .next [.sh false (.scr ns), .sh false (.int 0), .sh false (.int 1), .no] := rfl
  simp only [stateB, exSs, sCons, a1, a2, a, SRes.bind]
  by_cases ht : t = 1973665155 <;> simp [exSs, exS, sCons, evR, evVs, cLst, vCons, vNil, cIte, tYes, c2, cVar, cVal, get, put, Res.bind, Res.then, SRes.bind, ofO, peek, cmpR, cmp, shaped, plain, depth, veq, sRet, frz, retR, ht, len, line, sNil]
end
def takeD : Def := ⟨2, 3, [true, false], takeB⟩
def stateD : Def := ⟨1, 4, [false], stateB⟩
section
variable {T : Tab} {k j : Nat}
theorem run_take {s t m : Int} (hj : tab T j = some takeD) (h1 : 0 < m) (h2 : m < 1073741824) : run T (k + 1) j [.ow true [.int s, .int t], .sh false (.int m)] = .ok (.val (.int (tkV s t m))) [.ow true [.int (tkS s m), .int (tkT s t)], .no] := by
  obtain ⟨ρ', e⟩ := takeB_ok (bors := borsOf T) (call := run T k) (s := s) (t := t) h1 h2
  show (match tab T j with
    | none => CRes.stuck
    | some d => if len _ = d.np then endC d.np (exSs (borsOf T) (run T k) d.body (_ ++ nos (d.ns - d.np))) else .stuck) = _
  rw [hj]
  show endC 2 (exSs (borsOf T) (run T k) takeB [.ow true [.int s, .int t], .sh false (.int m), .no]) = _
  rw [e]
  rfl
theorem run_state (ns : List Int) (hj : tab T j = some stateD) : ∃ s t, run T (k + 1) j [.sh false (.scr ns)] = .ok (.fresh [.int s, .int t]) [.no] := by
  obtain ⟨s, t, ρ', e, f⟩ := stateB_ok (bors := borsOf T) (call := run T k) ns
  refine ⟨s, t, ?_⟩
  show (match tab T j with
    | none => CRes.stuck
    | some d => if len _ = d.np then endC d.np (exSs (borsOf T) (run T k) d.body (_ ++ nos (d.ns - d.np))) else .stuck) = _
  rw [hj]
  show endC 1 (exSs (borsOf T) (run T k) stateB [.sh false (.scr ns), .no, .no, .no]) = _
  rw [e]
  simp only [endC, f]
theorem borsOf_of {bs : List Bool} {d : Def} (hj : tab T j = some d) (hb : d.bor = bs) : borsOf T j = some bs := by
  simp only [borsOf, hj, hb]
/-- a take, as an expression -/
theorem ev_take {ρ : Env} {i : Nat} {lk : Bool} {s t m : Int} (hj : tab T j = some takeD) (h1 : 0 < m) (h2 : m < 1073741824) (hg : get ρ i = .ow lk [.int s, .int t]) :
    evR (borsOf T) (run T (k + 1)) (.call j (.cons (.var i) (.cons (.int m) .nil))) ρ = .ok (.val (.int (tkV s t m))) (put ρ i (.ow lk [.int (tkS s m), .int (tkT s t)])) := by
  simp only [evR, cCallj, borsOf_of hj rfl, takeD, cCall, evA, aCons, cVar, hg, Res.bind, lend, cVal, frz, Option.map, List.drop, lNil, callIt, binds, run_take hj h1 h2, outs]
end
/-! ### a law's own run: its state and slots that hold what no later step reads -/
def un (s : Sl) : Bool := !locked s && match s with
  | .rd _ _ => false
  | _ => true
def okN (n : Nat) (x : SRes) : Bool := match x with
  | .next ρ => (ρ.length == n) && ρ.all un && (match get ρ 1 with | .no => true | _ => false)
  | _ => false
def stE (n : Nat) (s t : Int) : Env := .no :: .ow false [.int s, .int t] :: nos n
structure J (n : Nat) (ρ : Env) : Prop where
  len : ρ.length = n + 2
  st : ∃ s t, get ρ 1 = .ow false [.int s, .int t]
  un : ∀ i, Ev.un (get ρ i) = true
theorem over_nos : ∀ {n : Nat} {ρ : Env}, ρ.length = n → over (nos n) (get ρ) = ρ
  | 0, [], _ => rfl
  | n + 1, s :: r, h => by
    show s :: over (nos n) (get r) = _
    rw [over_nos (Nat.succ.inj h)]
theorem un_Un {β : Nat → Sl} (h : ∀ i, un (β i) = true) : Un β := fun i => by
  have a := h i
  cases e : β i with
  | no => exact ⟨rfl, fun _ _ z => by cases z⟩
  | sh l v => rw [e] at a; cases l with
    | false => exact ⟨rfl, fun _ _ z => by cases z⟩
    | true => cases a
  | ow l v => rw [e] at a; cases l with
    | false => exact ⟨rfl, fun _ _ z => by cases z⟩
    | true => cases a
  | rd l v => rw [e] at a; cases l <;> cases a
theorem J.over {n : Nat} {ρ : Env} (h : J n ρ) : ∃ s t, ρ = Ev.over (stE n s t) (get ρ) ∧ Un (get ρ) := by
  obtain ⟨s, t, e⟩ := h.st
  refine ⟨s, t, ?_, un_Un h.un⟩
  match ρ, h.len with
  | a :: b :: r, l =>
    have e : b = .ow false [.int s, .int t] := e
    subst e
    show _ = a :: _ :: Ev.over (nos n) (get r)
    rw [over_nos (Nat.succ.inj (Nat.succ.inj l))]
    rfl
end Ev

/-! Ev29: a law's run, segment by segment. -/
namespace Ev
open PySem
def bSt (s t : Int) : Nat → Sl := fun i => if i = 1 then .ow false [.int s, .int t] else .no
theorem over_over : ∀ {e : Env} {β γ : Nat → Sl}, over (over e β) γ = over e (fun i => ov1 (β i) (γ i))
  | [], _, _ => rfl
  | s :: r, β, γ => by
    show ov1 (ov1 s (β 0)) (γ 0) :: over (over r _) _ = ov1 s (ov1 (β 0) (γ 0)) :: over r _
    rw [over_over]
    cases s <;> rfl
theorem over_length : ∀ {e : Env} {β : Nat → Sl}, (over e β).length = e.length
  | [], _ => rfl
  | s :: r, β => congrArg (· + 1) (over_length (e := r))
theorem un_over : ∀ {e : Env} {β : Nat → Sl}, e.all un = true → (∀ i, un (β i) = true) → ∀ i, un (get (over e β) i) = true
  | [], _, _, _, _ => rfl
  | s :: r, β, h, u, 0 => by
    have h : (un s && r.all un) = true := h
    obtain ⟨a, _⟩ := Bool.and_eq_true_iff.mp h
    cases s with
    | no => exact u 0
    | _ => exact a
  | s :: r, β, h, u, i + 1 => by
    have h : (un s && r.all un) = true := h
    exact un_over (Bool.and_eq_true_iff.mp h).2 (fun i => u (i + 1)) i
theorem over1 {e : Env} {β : Nat → Sl} (l : 1 < e.length) (h : get e 1 = .no) : get (over e β) 1 = β 1 := by
  match e, l with
  | a :: b :: r, _ =>
    have h : b = .no := h
    subst h
    rfl
theorem un_bSt {s t : Int} {β : Nat → Sl} (u : ∀ i, un (β i) = true) : ∀ i, un (ov1 (bSt s t i) (β i)) = true := fun i => by
  unfold bSt
  split
  · rfl
  · exact u i
section
variable {bors : Nat → Option (List Bool)} {call : Call} {n : Nat}
/-- a segment that reads no state -/
theorem seg_next {ss : Ss} {e2 : Env} {β : Nat → Sl} (u : ∀ i, un (β i) = true) (hst : ∃ s t, β 1 = .ow false [.int s, .int t]) (h : okN (n + 2) (exSs bors call ss e2) = true) :
    ∃ ρ', exSs bors call ss (over e2 β) = .next ρ' ∧ J n ρ' := by
  have C := comSs bors call ss e2 β (un_Un u)
  cases e : exSs bors call ss e2 with
  | next ρ1 =>
    rw [e] at C h
    have C : exSs bors call ss (over e2 β) = .next (over ρ1 β) := C
    have h : ((ρ1.length == n + 2) && ρ1.all un && (match get ρ1 1 with | .no => true | _ => false)) = true := h
    obtain ⟨h1, h3⟩ := Bool.and_eq_true_iff.mp h
    obtain ⟨h1, h2⟩ := Bool.and_eq_true_iff.mp h1
    have h1 : ρ1.length = n + 2 := eq_of_beq h1
    have h3 : get ρ1 1 = .no := by
      revert h3
      cases get ρ1 1 <;> intro z <;> first | rfl | cases z
    refine ⟨_, C, ⟨over_length.trans h1, ?_, un_over h2 u⟩⟩
    rw [over1 (by rw [h1]; omega) h3]
    exact hst
  | ret r ρ => rw [e] at h; cases h
  | exc k p ρ => rw [e] at h; cases h
  | stuck => rw [e] at h; cases h
def appSs : Ss → Ss → Ss
  | .nil, b => b
  | .cons s r, b => .cons s (appSs r b)
theorem exSs_app : ∀ {a b : Ss} {ρ : Env}, exSs bors call (appSs a b) ρ = (exSs bors call a ρ).bind (exSs bors call b)
  | .nil, b, ρ => rfl
  | .cons s r, b, ρ => by
    show (exS bors call s ρ).bind (exSs bors call (appSs r b)) = ((exS bors call s ρ).bind (exSs bors call r)).bind (exSs bors call b)
    cases exS bors call s ρ with
    | next ρ1 => exact exSs_app (a := r)
    | _ => rfl
/-- one piece of a law: it goes on, and the state is a state still -/
def Keeps (bors : Nat → Option (List Bool)) (call : Call) (n : Nat) (ss : Ss) : Prop := ∀ ρ, J n ρ → ∃ ρ', exSs bors call ss ρ = .next ρ' ∧ J n ρ'
theorem Keeps.nil : Keeps bors call n .nil := fun ρ h => ⟨ρ, rfl, h⟩
theorem Keeps.app {a b : Ss} (ha : Keeps bors call n a) (hb : Keeps bors call n b) : Keeps bors call n (appSs a b) := fun ρ h => by
  obtain ⟨ρ1, e1, h1⟩ := ha ρ h
  obtain ⟨ρ2, e2, h2⟩ := hb ρ1 h1
  refine ⟨ρ2, ?_, h2⟩
  rw [exSs_app, e1]
  exact e2
/-- draws, and then what reads only what was drawn -/
theorem keeps_seg {tk ss : Ss} (h : ∀ s t, ∃ s' t' e2, exSs bors call tk (stE n s t) = .next (over e2 (bSt s' t')) ∧ okN (n + 2) (exSs bors call ss e2) = true) : Keeps bors call n (appSs tk ss) := fun ρ hρ => by
  obtain ⟨s, t, e, u⟩ := hρ.over
  obtain ⟨s', t', e2, e1, k⟩ := h s t
  have C := comSs bors call tk (stE n s t) (get ρ) u
  rw [e1] at C
  have C : exSs bors call tk (over (stE n s t) (get ρ)) = .next (over (over e2 (bSt s' t')) (get ρ)) := C
  rw [← e, over_over] at C
  obtain ⟨ρ', e3, j⟩ := seg_next (β := fun i => ov1 (bSt s' t' i) (get ρ i)) (un_bSt hρ.un) ⟨s', t', rfl⟩ k
  refine ⟨ρ', ?_, j⟩
  rw [exSs_app, C]
  exact e3
/-- what reads nothing -/
theorem keeps_closed {ss : Ss} (h : okN (n + 2) (exSs bors call ss (nos (n + 2))) = true) : Keeps bors call n ss := fun ρ hρ => by
  obtain ⟨ρ', e, j⟩ := seg_next (β := get ρ) hρ.un hρ.st h
  rw [over_nos hρ.len] at e
  exact ⟨ρ', e, j⟩
theorem J.put {ρ : Env} {i : Nat} {v : Val} (h : J n ρ) (hi : i ≠ 1) : J n (put ρ i (.sh false v)) := by
  refine ⟨put_length.trans h.len, ?_, ?_⟩
  · rw [get_put_ne hi]; exact h.st
  · intro j
    rcases get_put ρ i j (.sh false v) with ⟨_, ⟨e, _⟩ | ⟨e, _⟩⟩ | ⟨_, e⟩
    · rw [e]; rfl
    · rw [e]; rfl
    · rw [e]; exact h.un j
theorem un_sto {ρ : Env} {i : Nat} {s : Sl} (h : un (get ρ i) = true) : sto ρ i s = some (Ev.put ρ i s) := by
  unfold sto
  cases e : get ρ i with
  | no => rfl
  | sh l v => rw [e] at h; cases l with
    | false => rfl
    | true => cases h
  | ow l v => rw [e] at h; cases l with
    | false => rfl
    | true => cases h
  | rd l v => rw [e] at h; cases l <;> cases h
theorem keeps_for {ss : Ss} {i : Nat} (hi : i ≠ 1) (h : Keeps bors call n ss) : ∀ (xs : List Val) (ρ : Env), J n ρ → ∃ ρ', forLoop (forBody (.one i) (exSs bors call ss)) xs ρ = .next ρ' ∧ J n ρ'
  | [], ρ, j => ⟨ρ, rfl, j⟩
  | x :: xs, ρ, j => by
    obtain ⟨ρ1, e1, j1⟩ := h (Ev.put ρ i (.sh false x)) (j.put hi)
    obtain ⟨ρ2, e2, j2⟩ := keeps_for hi h xs ρ1 j1
    refine ⟨ρ2, ?_, j2⟩
    show (forBody (.one i) (exSs bors call ss) x ρ).bind _ = _
    have e : forBody (.one i) (exSs bors call ss) x ρ = .next ρ1 := by
      simp only [forBody, tgt, un_sto (j.un i), e1]
    rw [e]
    exact e2
/-- for _ in range(m): .. -/
theorem keeps_range {ss : Ss} {i : Nat} {m : Int} (hi : i ≠ 1) (hm : smallR m = true) (h : Keeps bors call n ss) : Keeps bors call n (.cons (.for_ (.one i) (.rng (.cons (.int m) .nil)) ss) .nil) := fun ρ j => by
  obtain ⟨ρ', e, j'⟩ := keeps_for hi h (range1 m.toNat 0) ρ j
  refine ⟨ρ', ?_, j'⟩
  have a : exS bors call (.for_ (.one i) (.rng (.cons (.int m) .nil)) ss) ρ = .next ρ' := by
    simp only [exS, sFor, evI, iRng, evVs, vCons, vNil, evR, cVal, Res.bind, frz, ofO, rangeOf, hm, if_true, Option.map, Res.then, lockR, e, SRes.unlock, unlockR]
  show (exS bors call (.for_ (.one i) (.rng (.cons (.int m) .nil)) ss) ρ).bind _ = _
  rw [a]
  rfl
theorem ret_closed {ss : Ss} {ρ ρ1 : Env} {r : R} (h : J n ρ) (e : exSs bors call ss (nos (n + 2)) = .ret r ρ1) : ∃ ρ', exSs bors call ss ρ = .ret r ρ' := by
  have C := comSs bors call ss (nos (n + 2)) (get ρ) (un_Un h.un)
  rw [e, over_nos h.len] at C
  exact C
end
def okRet (x : SRes) : Bool := match x with
  | .ret (.val (.bl true)) _ => true
  | _ => false
/-- a law: its state, its pieces, its end -/
theorem law_run_of {T : Tab} {k j js n : Nat} {body mid fin : Ss} {most : Nat} (hj : tab T j = some ⟨1, n + 2, [false], .cons (.set 1 (.call js (.cons (.var 0) .nil))) (appSs mid fin)⟩) (hs : tab T js = some stateD)
    (hm : Keeps (borsOf T) (run T (k + 1)) n mid) (hf : okRet (exSs (borsOf T) (run T (k + 1)) fin (nos (n + 2))) = true) : LawP T (k + 2) j most := fun ns _ => by
  obtain ⟨s, t, e⟩ := run_state (k := k) ns hs
  have a : exS (borsOf T) (run T (k + 1)) (.set 1 (.call js (.cons (.var 0) .nil))) (.sh false (.scr ns) :: .no :: nos n) = .next (.sh false (.scr ns) :: .ow false [.int s, .int t] :: nos n) := by
    simp only [exS, sSet, evR, cCallj, borsOf_of hs rfl, stateD, cCall, evA, aCons, cVar, get, Res.bind, lend, frz, Option.map, List.drop, lNil, callIt, binds, e, outs, Res.then, toSl, Option.bind, sto, ofE, put]
  have j0 : J n (.sh false (.scr ns) :: .ow false [.int s, .int t] :: nos n) := by
    refine ⟨?_, ⟨s, t, rfl⟩, ?_⟩
    · show (nos n).length + 1 + 1 = n + 2
      rw [nos_len]
    · intro i
      match i with
      | 0 => rfl
      | 1 => rfl
      | i + 2 =>
        show un (get (nos n) i) = true
        rw [get_nos]
        rfl
  obtain ⟨ρ1, e1, j1⟩ := hm _ j0
  cases ef : exSs (borsOf T) (run T (k + 1)) fin (nos (n + 2)) with
  | ret r ρ3 =>
    rw [ef] at hf
    obtain ⟨ρ2, e2⟩ := ret_closed j1 ef
    have hr : r = .val (.bl true) := by
      cases r with
      | val v => cases v with
        | bl b => cases b with
          | true => rfl
          | false => cases hf
        | _ => cases hf
      | _ => cases hf
    subst hr
    refine ⟨takeSl 1 ρ2, ?_⟩
    show (match tab T j with
      | none => CRes.stuck
      | some d => if len _ = d.np then endC d.np (exSs (borsOf T) (run T (k + 1)) d.body (_ ++ nos (d.ns - d.np))) else .stuck) = _
    rw [hj]
    show endC 1 ((exS (borsOf T) (run T (k + 1)) (.set 1 (.call js (.cons (.var 0) .nil))) (.sh false (.scr ns) :: nos (n + 2 - 1))).bind (exSs (borsOf T) (run T (k + 1)) (appSs mid fin))) = _
    show endC 1 ((exS (borsOf T) (run T (k + 1)) (.set 1 (.call js (.cons (.var 0) .nil))) (.sh false (.scr ns) :: .no :: nos n)).bind (exSs (borsOf T) (run T (k + 1)) (appSs mid fin))) = _
    rw [a]
    show endC 1 (exSs (borsOf T) (run T (k + 1)) (appSs mid fin) _) = _
    rw [exSs_app, e1]
    show endC 1 (exSs (borsOf T) (run T (k + 1)) fin ρ1) = _
    rw [e2]
    rfl
  | next ρ => rw [ef] at hf; cases hf
  | exc k p ρ => rw [ef] at hf; cases hf
  | stuck => rw [ef] at hf; cases hf
end Ev

/-! Ev30: what the pieces' proofs rewrite with. -/
namespace Ev
open PySem
def allI : Nat → (Int → Bool) → Bool
  | 0, _ => true
  | n + 1, f => f n && allI n f
theorem allI_nat {f : Int → Bool} : ∀ {n v : Nat}, allI n f = true → v < n → f v = true
  | n + 1, v, h, l => by
    have h : (f n && allI n f) = true := h
    obtain ⟨a, b⟩ := Bool.and_eq_true_iff.mp h
    rcases Nat.lt_succ_iff_lt_or_eq.mp l with l | l
    · exact allI_nat b l
    · rw [l]; exact a
theorem allI_ok {f : Int → Bool} {n : Nat} {v : Int} (h : allI n f = true) (a : 0 ≤ v) (b : v < n) : f v = true := by
  obtain ⟨k, rfl⟩ := Int.eq_ofNat_of_zero_le a
  exact allI_nat h (Int.ofNat_lt.mp b)
section
variable {T : Tab} {k j : Nat}
/-- a take, over a law's slots -/
theorem take_c {a : Sl} {r : Env} {lk : Bool} {s t m : Int} (hj : tab T j = some takeD) (h : (decide (0 < m) && decide (m < 1073741824)) = true) :
    evR (borsOf T) (run T (k + 1)) (.call j (.cons (.var 1) (.cons (.int m) .nil))) (a :: .ow lk [.int s, .int t] :: r) = .ok (.val (.int (tkV s t m))) (a :: .ow lk [.int (tkS s m), .int (tkT s t)] :: r) := by
  obtain ⟨h1, h2⟩ := Bool.and_eq_true_iff.mp h
  exact ev_take hj (of_decide_eq_true h1) (of_decide_eq_true h2) rfl
end
section
variable {b : Nat → Option (List Bool)} {c : Call}
theorem evR_bin {o : Bop} {x y : E} : evR b c (.bin o x y) = c2 (bin o) (evR b c x) (evR b c y) := rfl
theorem evR_int {i : Int} : evR b c (.int i) = cVal (.int i) := rfl
theorem evR_var {i : Nat} : evR b c (.var i) = cVar i := rfl
theorem evR_bfn {f : Bif} {es : Es} : evR b c (.bfn f es) = cL (bfn f) (evL b c es) := rfl
theorem evR_comp {e : E} {t : Tg} {it : It} {q : Oe} : evR b c (.comp e t it q) = cComp t (evI b c it) (evC b c q) (evR b c e) := rfl
end
end Ev

/-! Ev31: comprehensions of whole numbers over ranges, in closed form; greatest and least. -/
namespace Ev
open PySem
def irange : Nat → Int → List Int
  | 0, _ => []
  | n + 1, i => i :: irange n (i + 1)
theorem range1_ints : ∀ (n : Nat) (i : Int), range1 n i = (irange n i).map .int
  | 0, _ => rfl
  | n + 1, i => congrArg (Val.int i :: ·) (range1_ints n (i + 1))
theorem mem_irange {k : Int} : ∀ {n : Nat} {i : Int}, k ∈ irange n i ↔ i ≤ k ∧ k < i + n
  | 0, i => ⟨fun h => (nomatch h), fun h => by omega⟩
  | n + 1, i => by
    show k ∈ i :: irange n (i + 1) ↔ _
    rw [List.mem_cons, mem_irange]
    omega
theorem irange_len : ∀ (n : Nat) (i : Int), (irange n i).length = n
  | 0, _ => rfl
  | n + 1, i => congrArg (· + 1) (irange_len n (i + 1))
theorem intsOf_map : ∀ l : List Int, intsOf (l.map .int) = some l
  | [] => rfl
  | x :: r => by
    show (intsOf (r.map .int)).map (x :: ·) = _
    rw [intsOf_map r]
    rfl
theorem compLoop_fm {f : Val → Env → Res (Option Val)} {ρ : Env} {q : Int → Option Int} : ∀ {xs : List Int}, (∀ x ∈ xs, f (.int x) ρ = .ok ((q x).map .int) ρ) → compLoop f (xs.map .int) ρ = .ok ((xs.filterMap q).map .int) ρ
  | [], _ => rfl
  | x :: xs, h => by
    show (f (.int x) ρ).bind _ = _
    rw [h x (.head _)]
    show (compLoop f (xs.map .int) ρ).bind _ = _
    rw [compLoop_fm fun y hy => h y (.tail _ hy)]
    cases e : q x with
    | none =>
      rw [List.filterMap_cons_none e]
      rfl
    | some y =>
      rw [List.filterMap_cons_some e]
      rfl
theorem put_get_self : ∀ {ρ : Env} {i : Nat}, put ρ i (get ρ i) = ρ
  | [], _ => rfl
  | _ :: _, 0 => rfl
  | s :: r, i + 1 => congrArg (s :: ·) (put_get_self (ρ := r) (i := i))
theorem cComp_fm {i n : Nat} {lo : Int} {fi : Ic} {fc : Cc} {fe : Ec} {ρ : Env} {q : Int → Option Int} (hi : inB [i] ρ = true) (hg : get ρ i = .no) (hn : n ≤ line) (hf : fi ρ = .ok (.val .non, range1 n lo) ρ)
    (h : ∀ k, lo ≤ k → k < lo + n → compBody (.one i) fc fe (.int k) ρ = .ok ((q k).map .int) ρ) : cComp (.one i) fi fc fe ρ = .ok (.fresh (((irange n lo).filterMap q).map .int)) ρ := by
  have e1 : wipes (tgs (.one i)) (lockR (.val .non) ρ) = ρ := by
    show put ρ i .no = ρ
    rw [← hg]
    exact put_get_self
  have e2 : backs (tgs (.one i)) ρ ρ = ρ := put_get_self
  have e3 : compLoop (compBody (.one i) fc fe) (range1 n lo) ρ = .ok (((irange n lo).filterMap q).map .int) ρ := by
    rw [range1_ints]
    exact compLoop_fm fun k hk => h k (mem_irange.mp hk).1 (mem_irange.mp hk).2
  have e4 : len (((irange n lo).filterMap q).map Val.int) ≤ line := by
    rw [len_eq, List.length_map]
    exact Nat.le_trans (List.length_filterMap_le _ _) (by rw [irange_len]; exact hn)
  simp only [cComp, hf, Res.bind, e1, e3, Res.held]
  rw [if_pos (show inB (tgs (.one i)) ρ = true from hi), if_pos e4, e2]
  rfl
theorem maxL_ge : ∀ {l : List Int} {m x : Int}, (x = m ∨ x ∈ l) → x ≤ maxL m l
  | [], m, x, h => by
    rcases h with rfl | h
    · exact Int.le_refl _
    · cases h
  | y :: r, m, x, h => by
    show x ≤ maxL (if m < y then y else m) r
    rcases h with rfl | h
    · have := maxL_ge (l := r) (m := if x < y then y else x) (.inl rfl)
      split at this <;> split <;> omega
    · rcases List.mem_cons.mp h with rfl | h
      · have := maxL_ge (l := r) (m := if m < x then x else m) (.inl rfl)
        split at this <;> split <;> omega
      · exact maxL_ge (.inr h)
theorem maxL_le : ∀ {l : List Int} {m g : Int}, m ≤ g → (∀ x ∈ l, x ≤ g) → maxL m l ≤ g
  | [], _, _, h, _ => h
  | y :: r, m, g, h, k => by
    show maxL (if m < y then y else m) r ≤ g
    refine maxL_le ?_ fun x hx => k x (.tail _ hx)
    have := k y (.head _)
    split <;> omega
theorem minL_le : ∀ {l : List Int} {m x : Int}, (x = m ∨ x ∈ l) → minL m l ≤ x
  | [], m, x, h => by
    rcases h with rfl | h
    · exact Int.le_refl _
    · cases h
  | y :: r, m, x, h => by
    show minL (if y < m then y else m) r ≤ x
    rcases h with rfl | h
    · have := minL_le (l := r) (m := if y < x then y else x) (.inl rfl)
      split at this <;> split <;> omega
    · rcases List.mem_cons.mp h with rfl | h
      · have := minL_le (l := r) (m := if x < m then x else m) (.inl rfl)
        split at this <;> split <;> omega
      · exact minL_le (.inr h)
theorem minL_ge : ∀ {l : List Int} {m g : Int}, g ≤ m → (∀ x ∈ l, g ≤ x) → g ≤ minL m l
  | [], _, _, h, _ => h
  | y :: r, m, g, h, k => by
    show g ≤ minL (if y < m then y else m) r
    refine minL_ge ?_ fun x hx => k x (.tail _ hx)
    have := k y (.head _)
    split <;> omega
/-- max(l) is g -/
theorem bfn_max {l : List Int} {g : Int} (h : g ∈ l) (k : ∀ x ∈ l, x ≤ g) : bfn .max [.lst (l.map .int)] = some (.val (.int g)) := by
  simp only [bfn, seqOf, Option.bind, intsOf_map]
  cases l with
  | nil => cases h
  | cons x r =>
    show some (R.val (.int (maxL x r))) = _
    rw [Int.le_antisymm (maxL_le (k x (.head _)) fun y hy => k y (.tail _ hy)) (maxL_ge (List.mem_cons.mp h))]
theorem bfn_min {l : List Int} {g : Int} (h : g ∈ l) (k : ∀ x ∈ l, g ≤ x) : bfn .min [.lst (l.map .int)] = some (.val (.int g)) := by
  simp only [bfn, seqOf, Option.bind, intsOf_map]
  cases l with
  | nil => cases h
  | cons x r =>
    show some (R.val (.int (minL x r))) = _
    rw [Int.le_antisymm (minL_le (List.mem_cons.mp h)) (minL_ge (k x (.head _)) fun y hy => k y (.tail _ hy))]
theorem outs_v1 {x : Val} {ρ : Env} : ∀ os : List Sl, outs [.val x] os ρ = ρ
  | [] => rfl
  | _ :: _ => rfl
theorem outs_v2 {x y : Val} {ρ : Env} : ∀ os : List Sl, outs [.val x, .val y] os ρ = ρ
  | [] => rfl
  | [_] => rfl
  | _ :: _ :: _ => rfl
theorem outs_v3 {x y z : Val} {ρ : Env} : ∀ os : List Sl, outs [.val x, .val y, .val z] os ρ = ρ
  | [] => rfl
  | [_] => rfl
  | [_, _] => rfl
  | _ :: _ :: _ :: _ => rfl
end Ev

set_option maxHeartbeats 0
namespace K00
open PySem PySem.Spec PyProof.Rows L2 Ev
/-- is_integer -/
def d0 : Def := ⟨1, 1, [false], (.cons (.ret (.bop true (.cons (.isi (.var 0) [.int]) (.cons (.not_ (.isi (.var 0) [.bool])) .nil))))
  .nil)⟩
/-- is_count -/
def d1 : Def := ⟨3, 3, [false, false, false], (.cons (.ret (.bop true (.cons (.call 0 (.cons (.var 0) .nil)) (.cons (.chain .le .le (.var 1) (.var 0) (.var 2)) .nil))))
  .nil)⟩
/-- is_whole_row -/
def d2 : Def := ⟨1, 2, [false], (.cons (.ret (.bop true (.cons (.isi (.var 0) [.tuple]) (.cons (.bfn .all (.cons (.comp (.call 0 (.cons (.var 1) .nil)) (.one 1) (.seq (.var 0)) .no) .nil)) .nil))))
  .nil)⟩
/-- common -/
def d3 : Def := ⟨2, 2, [false, false], (.cons (.par [0, 1] (.cons (.bfn .abs (.cons (.var 0) .nil)) (.cons (.bfn .abs (.cons (.var 1) .nil)) .nil)))
  (.cons (.whl (.cmp .gt (.var 1) (.int 0)) (.cons (.par [0, 1] (.cons (.var 1) (.cons (.bin .mod (.var 0) (.var 1)) .nil)))
  .nil))
  (.cons (.ret (.var 0))
  .nil)))⟩
/-- least_multiple -/
def d4 : Def := ⟨2, 2, [false, false], (.cons (.ret (.bin .mul (.bin .fdiv (.var 0) (.call 3 (.cons (.var 0) (.cons (.var 1) .nil)))) (.var 1)))
  .nil)⟩
/-- divisors_of -/
def d5 : Def := ⟨1, 4, [false], (.cons (.par [1, 2, 3] (.cons (.lst .nil) (.cons (.lst .nil) (.cons (.int 1) .nil))))
  (.cons (.whl (.cmp .le (.bin .mul (.var 3) (.var 3)) (.var 0)) (.cons (.ife (.cmp .eq (.bin .mod (.var 0) (.var 3)) (.int 0)) (.cons (.app 1 (.var 3))
  (.cons (.ife (.cmp .lt (.bin .mul (.var 3) (.var 3)) (.var 0)) (.cons (.app 2 (.bin .fdiv (.var 0) (.var 3)))
  .nil) .nil)
  .nil)) .nil)
  (.cons (.set 3 (.bin .add (.var 3) (.int 1)))
  .nil)))
  (.cons (.ret (.bfn .tuple (.cons (.bin .add (.var 1) (.rev (.var 2))) .nil)))
  .nil)))⟩
/-- factorial -/
def d6 : Def := ⟨1, 3, [false], (.cons (.set 1 (.int 1))
  (.cons (.for_ (.one 2) (.rng (.cons (.int 2) (.cons (.bin .add (.var 0) (.int 1)) .nil))) (.cons (.set 1 (.bin .mul (.var 1) (.var 2)))
  .nil))
  (.cons (.ret (.var 1))
  .nil)))⟩
/-- binomial -/
def d7 : Def := ⟨2, 4, [false, false], (.cons (.ife (.bop false (.cons (.cmp .lt (.var 1) (.int 0)) (.cons (.cmp .gt (.var 1) (.var 0)) .nil))) (.cons (.ret (.int 0))
  .nil) .nil)
  (.cons (.set 2 (.int 1))
  (.cons (.for_ (.one 3) (.rng (.cons (.var 1) .nil)) (.cons (.set 2 (.bin .fdiv (.bin .mul (.var 2) (.bin .sub (.var 0) (.var 3))) (.bin .add (.var 3) (.int 1))))
  .nil))
  (.cons (.ret (.var 2))
  .nil))))⟩
/-- power -/
def d8 : Def := ⟨2, 4, [false, false], (.cons (.set 2 (.int 1))
  (.cons (.for_ (.one 3) (.rng (.cons (.var 1) .nil)) (.cons (.set 2 (.bin .mul (.var 2) (.var 0)))
  .nil))
  (.cons (.ret (.var 2))
  .nil)))⟩
/-- sign_power -/
def d9 : Def := ⟨1, 1, [false], (.cons (.ret (.ite (.cmp .eq (.bin .mod (.var 0) (.int 2)) (.int 0)) (.int 1) (.neg (.int 1))))
  .nil)⟩
/-- falling_number -/
def d10 : Def := ⟨2, 4, [false, false], (.cons (.set 2 (.int 1))
  (.cons (.for_ (.one 3) (.rng (.cons (.var 1) .nil)) (.cons (.set 2 (.bin .mul (.var 2) (.bin .sub (.var 0) (.var 3))))
  .nil))
  (.cons (.ret (.var 2))
  .nil)))⟩
/-- rising_number -/
def d11 : Def := ⟨2, 4, [false, false], (.cons (.set 2 (.int 1))
  (.cons (.for_ (.one 3) (.rng (.cons (.var 1) .nil)) (.cons (.set 2 (.bin .mul (.var 2) (.bin .add (.var 0) (.var 3))))
  .nil))
  (.cons (.ret (.var 2))
  .nil)))⟩
/-- partings_of -/
def d12 : Def := ⟨2, 5, [false, false], (.cons (.ife (.cmp .eq (.var 0) (.int 0)) (.cons (.ret (.lst (.cons (.tup .nil) .nil)))
  .nil) .nil)
  (.cons (.set 2 (.lst .nil))
  (.cons (.for_ (.one 3) (.rng (.cons (.bfn .min (.cons (.var 0) (.cons (.var 1) .nil))) (.cons (.int 0) (.cons (.neg (.int 1)) .nil)))) (.cons (.set 2 (.bin .add (.var 2) (.comp (.bin .add (.tup (.cons (.var 3) .nil)) (.var 4)) (.one 4) (.seq (.call 12 (.cons (.bin .sub (.var 0) (.var 3)) (.cons (.var 3) .nil)))) .no)))
  .nil))
  (.cons (.ret (.var 2))
  .nil))))⟩
/-- parts_of -/
def d13 : Def := ⟨2, 4, [false, false], (.cons (.ife (.cmp .eq (.var 1) (.int 0)) (.cons (.ret (.ite (.cmp .eq (.var 0) (.int 0)) (.tup (.cons (.tup .nil) .nil)) (.tup .nil)))
  .nil) .nil)
  (.cons (.ife (.cmp .eq (.var 1) (.int 1)) (.cons (.ret (.tup (.cons (.tup (.cons (.var 0) .nil)) .nil)))
  .nil) .nil)
  (.cons (.ret (.bfn .tuple (.cons (.comp2 (.bin .add (.tup (.cons (.var 2) .nil)) (.var 3)) (.one 2) (.rng (.cons (.var 0) (.cons (.neg (.int 1)) (.cons (.neg (.int 1)) .nil)))) .no (.one 3) (.seq (.call 13 (.cons (.bin .sub (.var 0) (.var 2)) (.cons (.bin .sub (.var 1) (.int 1)) .nil)))) .no) .nil)))
  .nil)))⟩
/-- repeats_of -/
def d14 : Def := ⟨2, 4, [false, false], (.cons (.set 2 (.bin .mul (.lst (.cons (.int 0) .nil)) (.var 1)))
  (.cons (.for_ (.one 3) (.seq (.var 0)) (.cons (.put 2 (.bin .sub (.var 3) (.int 1)) (.bin .add (.idx (.var 2) (.bin .sub (.var 3) (.int 1))) (.int 1)))
  .nil))
  (.cons (.ret (.bfn .tuple (.cons (.var 2) .nil)))
  .nil)))⟩
/-- block_number -/
def d15 : Def := ⟨1, 5, [false], (.cons (.par [1, 2] (.cons (.int 0) (.cons (.int 1) .nil)))
  (.cons (.for_ (.tup [3, 4]) (.enum (.var 0)) (.cons (.set 1 (.bin .add (.var 1) (.bin .mul (.bin .add (.var 3) (.int 1)) (.var 4))))
  (.cons (.set 2 (.bin .mul (.bin .mul (.var 2) (.call 8 (.cons (.call 6 (.cons (.bin .add (.var 3) (.int 1)) .nil)) (.cons (.var 4) .nil)))) (.call 6 (.cons (.var 4) .nil))))
  .nil)))
  (.cons (.ret (.bin .fdiv (.call 6 (.cons (.var 1) .nil)) (.var 2)))
  .nil)))⟩
/-- multinomial_of -/
def d16 : Def := ⟨1, 3, [false], (.cons (.set 1 (.call 6 (.cons (.bfn .sum (.cons (.var 0) .nil)) .nil)))
  (.cons (.for_ (.one 2) (.seq (.var 0)) (.cons (.set 1 (.bin .fdiv (.var 1) (.call 6 (.cons (.var 2) .nil))))
  .nil))
  (.cons (.ret (.var 1))
  .nil)))⟩
/-- row_text -/
def d17 : Def := ⟨1, 2, [false], (.cons (.ret (.ite (.cmp .gt (.bfn .len (.cons (.var 0) .nil)) (.int 0)) (.meth .join (.str (Str.ofString ",")) (.cons (.comp (.bfn .str (.cons (.var 1) .nil)) (.one 1) (.seq (.var 0)) .no) .nil)) (.str (Str.ofString "-"))))
  .nil)⟩
/-- _law_state -/
def d18 : Def := ⟨1, 4, [false], (.cons (.set 1 (.int 0))
  (.cons (.set 2 (.int 1))
  (.cons (.for_ (.one 3) (.seq (.slc (.var 0) .no (.yes (.int 63)))) (.cons (.set 1 (.bin .add (.bin .mul (.var 1) (.int 1000003)) (.bfn .abs (.cons (.var 3) .nil))))
  (.cons (.set 2 (.bin .mod (.bfn .int (.cons (.bin .add (.bin .mul (.var 2) (.int 48271)) (.var 3)) .nil)) (.int 2147483647)))
  .nil)))
  (.cons (.ret (.lst (.cons (.var 1) (.cons (.ite (.cmp .ne (.var 2) (.int 1973665155)) (.var 2) (.int 7)) .nil))))
  .nil))))⟩
/-- _law_take -/
def d19 : Def := ⟨2, 3, [true, false], (.cons (.ife (.cmp .gt (.idx (.var 0) (.int 0)) (.int 0)) (.cons (.set 2 (.bin .mod (.bfn .int (.cons (.idx (.var 0) (.int 0)) .nil)) (.var 1)))
  (.cons (.put 0 (.int 0) (.bin .fdiv (.idx (.var 0) (.int 0)) (.var 1)))
  (.cons (.ret (.var 2))
  .nil))) .nil)
  (.cons (.put 0 (.int 1) (.bin .mod (.bfn .int (.cons (.bin .add (.bin .mul (.idx (.var 0) (.int 1)) (.int 48271)) (.int 11)) .nil)) (.int 2147483647)))
  (.cons (.ret (.bin .mod (.bfn .int (.cons (.bin .fdiv (.idx (.var 0) (.int 1)) (.int 7)) .nil)) (.var 1)))
  .nil)))⟩
/-- _law_same -/
def d20 : Def := ⟨2, 3, [false, false], (.cons (.ife (.isi (.var 1) [.list]) (.cons (.ret (.bop true (.cons (.isi (.var 0) [.list]) (.cons (.call 20 (.cons (.bfn .tuple (.cons (.var 0) .nil)) (.cons (.bfn .tuple (.cons (.var 1) .nil)) .nil))) .nil))))
  .nil) .nil)
  (.cons (.ife (.isi (.var 1) [.tuple]) (.cons (.ret (.bop true (.cons (.isi (.var 0) [.tuple]) (.cons (.cmp .eq (.bfn .len (.cons (.var 0) .nil)) (.bfn .len (.cons (.var 1) .nil))) (.cons (.bfn .all (.cons (.comp (.call 20 (.cons (.idx (.var 0) (.var 2)) (.cons (.idx (.var 1) (.var 2)) .nil))) (.one 2) (.rng (.cons (.bfn .len (.cons (.var 1) .nil)) .nil)) .no) .nil)) .nil)))))
  .nil) .nil)
  (.cons (.ife (.cmp .isn (.var 1) .non) (.cons (.ret (.cmp .isn (.var 0) .non))
  .nil) .nil)
  (.cons (.ife (.isi (.var 1) [.bool]) (.cons (.ret (.bop true (.cons (.isi (.var 0) [.bool]) (.cons (.cmp .eq (.var 0) (.var 1)) .nil))))
  .nil) .nil)
  (.cons (.ife (.isi (.var 1) [.str]) (.cons (.ret (.bop true (.cons (.isi (.var 0) [.str]) (.cons (.cmp .eq (.var 0) (.var 1)) .nil))))
  .nil) .nil)
  (.cons (.ife (.isi (.var 1) [.int]) (.cons (.ret (.bop true (.cons (.isi (.var 0) [.int]) (.cons (.not_ (.isi (.var 0) [.bool])) (.cons (.cmp .eq (.var 0) (.var 1)) .nil)))))
  .nil) .nil)
  (.cons (.ret (.bop true (.cons (.not_ (.isi (.var 0) [.int])) (.cons (.cmp .eq (.var 0) (.var 1)) .nil))))
  .nil)))))))⟩
/-- _law_told -/
def d21 : Def := ⟨2, 3, [false, false], (.cons (.try_ (.cons (.ife (.cmp .eq (.bfn .len (.cons (.var 1) .nil)) (.int 0)) (.cons (.ret (.tup (.cons (.str (Str.ofString "told")) (.cons (.callv 0 .nil) .nil))))
  .nil) .nil)
  (.cons (.ife (.cmp .eq (.bfn .len (.cons (.var 1) .nil)) (.int 1)) (.cons (.ret (.tup (.cons (.str (Str.ofString "told")) (.cons (.callv 0 (.cons (.idx (.var 1) (.int 0)) .nil)) .nil))))
  .nil) .nil)
  (.cons (.ife (.cmp .eq (.bfn .len (.cons (.var 1) .nil)) (.int 2)) (.cons (.ret (.tup (.cons (.str (Str.ofString "told")) (.cons (.callv 0 (.cons (.idx (.var 1) (.int 0)) (.cons (.idx (.var 1) (.int 1)) .nil))) .nil))))
  .nil) .nil)
  (.cons (.ife (.cmp .eq (.bfn .len (.cons (.var 1) .nil)) (.int 3)) (.cons (.ret (.tup (.cons (.str (Str.ofString "told")) (.cons (.callv 0 (.cons (.idx (.var 1) (.int 0)) (.cons (.idx (.var 1) (.int 1)) (.cons (.idx (.var 1) (.int 2)) .nil)))) .nil))))
  .nil) .nil)
  (.cons (.ife (.cmp .eq (.bfn .len (.cons (.var 1) .nil)) (.int 4)) (.cons (.ret (.tup (.cons (.str (Str.ofString "told")) (.cons (.callv 0 (.cons (.idx (.var 1) (.int 0)) (.cons (.idx (.var 1) (.int 1)) (.cons (.idx (.var 1) (.int 2)) (.cons (.idx (.var 1) (.int 3)) .nil))))) .nil))))
  .nil) .nil)
  (.cons (.ife (.cmp .eq (.bfn .len (.cons (.var 1) .nil)) (.int 5)) (.cons (.ret (.tup (.cons (.str (Str.ofString "told")) (.cons (.callv 0 (.cons (.idx (.var 1) (.int 0)) (.cons (.idx (.var 1) (.int 1)) (.cons (.idx (.var 1) (.int 2)) (.cons (.idx (.var 1) (.int 3)) (.cons (.idx (.var 1) (.int 4)) .nil)))))) .nil))))
  .nil) .nil)
  (.cons (.ret (.tup (.cons (.str (Str.ofString "told")) (.cons (.callv 0 (.cons (.idx (.var 1) (.int 0)) (.cons (.idx (.var 1) (.int 1)) (.cons (.idx (.var 1) (.int 2)) (.cons (.idx (.var 1) (.int 3)) (.cons (.idx (.var 1) (.int 4)) (.cons (.idx (.var 1) (.int 5)) .nil))))))) .nil))))
  .nil))))))))
  .nil)⟩
/-- _law_is_told -/
def d22 : Def := ⟨2, 2, [false, false], (.cons (.ret (.bop true (.cons (.cmp .eq (.idx (.var 0) (.int 0)) (.str (Str.ofString "told"))) (.cons (.call 20 (.cons (.idx (.var 0) (.int 1)) (.cons (.var 1) .nil))) .nil))))
  .nil)⟩
/-- _law_tells -/
def d23 : Def := ⟨3, 3, [false, false, false], (.cons (.ret (.call 22 (.cons (.call 21 (.cons (.var 0) (.cons (.var 1) .nil))) (.cons (.var 2) .nil))))
  .nil)⟩
/-- _law_choices -/
def d24 : Def := ⟨2, 7, [false, false], (.cons (.set 2 (.lst (.cons (.tup .nil) .nil)))
  (.cons (.for_ (.one 3) (.rng (.cons (.var 1) .nil)) (.cons (.set 4 (.lst .nil))
  (.cons (.for_ (.one 5) (.seq (.var 2)) (.cons (.for_ (.one 6) (.rng (.cons (.ite (.cmp .gt (.bfn .len (.cons (.var 5) .nil)) (.int 0)) (.bin .add (.idx (.var 5) (.neg (.int 1))) (.int 1)) (.int 0)) (.cons (.var 0) .nil))) (.cons (.app 4 (.bin .add (.var 5) (.tup (.cons (.var 6) .nil))))
  .nil))
  .nil))
  (.cons (.set 2 (.bfn .list (.cons (.var 4) .nil)))
  .nil))))
  (.cons (.ret (.var 2))
  .nil)))⟩
/-- _law_value -/
def d25 : Def := ⟨2, 3, [false, false], (.cons (.set 2 (.call 21 (.cons (.var 0) (.cons (.var 1) .nil))))
  (.cons (.ret (.ite (.cmp .eq (.idx (.var 2) (.int 0)) (.str (Str.ofString "told"))) (.idx (.var 2) (.int 1)) (.var 2)))
  .nil))⟩
/-- _law_factorial -/
def d26 : Def := ⟨1, 3, [false], (.cons (.set 1 (.int 1))
  (.cons (.for_ (.one 2) (.rng (.cons (.int 2) (.cons (.bin .add (.var 0) (.int 1)) .nil))) (.cons (.set 1 (.bin .mul (.var 1) (.var 2)))
  .nil))
  (.cons (.ret (.var 1))
  .nil)))⟩
/-- _law_raised -/
def d27 : Def := ⟨2, 4, [false, false], (.cons (.set 2 (.int 1))
  (.cons (.for_ (.one 3) (.rng (.cons (.var 1) .nil)) (.cons (.set 2 (.bin .mul (.var 2) (.var 0)))
  .nil))
  (.cons (.ret (.var 2))
  .nil)))⟩
/-- _law_words -/
def d28 : Def := ⟨1, 6, [false], (.cons (.set 1 (.lst (.cons (.tup .nil) .nil)))
  (.cons (.for_ (.one 2) (.seq (.var 0)) (.cons (.set 3 (.lst .nil))
  (.cons (.for_ (.one 4) (.seq (.var 1)) (.cons (.set 3 (.bin .add (.var 3) (.comp (.bin .add (.var 4) (.tup (.cons (.var 5) .nil))) (.one 5) (.rng (.cons (.var 2) .nil)) .no)))
  .nil))
  (.cons (.set 1 (.bfn .list (.cons (.var 3) .nil)))
  .nil))))
  (.cons (.ret (.var 1))
  .nil)))⟩
/-- _law_parted -/
def d29 : Def := ⟨2, 5, [false, false], (.cons (.ife (.cmp .eq (.var 0) (.int 0)) (.cons (.ret (.lst (.cons (.tup .nil) .nil)))
  .nil) .nil)
  (.cons (.set 2 (.lst .nil))
  (.cons (.for_ (.one 3) (.rng (.cons (.bfn .min (.cons (.var 0) (.cons (.var 1) .nil))) (.cons (.int 0) (.cons (.neg (.int 1)) .nil)))) (.cons (.set 2 (.bin .add (.var 2) (.comp (.bin .add (.tup (.cons (.var 3) .nil)) (.var 4)) (.one 4) (.seq (.call 29 (.cons (.bin .sub (.var 0) (.var 3)) (.cons (.var 3) .nil)))) .no)))
  .nil))
  (.cons (.ret (.var 2))
  .nil))))⟩
/-- _law_blocks -/
def d30 : Def := ⟨1, 7, [false], (.cons (.set 1 (.lst (.cons (.tup .nil) .nil)))
  (.cons (.for_ (.one 2) (.rng (.cons (.var 0) .nil)) (.cons (.set 3 (.lst .nil))
  (.cons (.for_ (.one 4) (.seq (.var 1)) (.cons (.set 5 (.ite (.cmp .gt (.bfn .len (.cons (.var 4) .nil)) (.int 0)) (.bin .add (.bfn .max (.cons (.var 4) .nil)) (.int 1)) (.int 0)))
  (.cons (.set 3 (.bin .add (.var 3) (.comp (.bin .add (.var 4) (.tup (.cons (.var 6) .nil))) (.one 6) (.rng (.cons (.bin .add (.var 5) (.int 1)) .nil)) .no)))
  .nil)))
  (.cons (.set 1 (.bfn .list (.cons (.var 3) .nil)))
  .nil))))
  (.cons (.ret (.var 1))
  .nil)))⟩
/-- law -/
def d31 : Def := ⟨1, 26, [false], (.cons (.set 1 (.call 18 (.cons (.var 0) .nil)))
  (.cons (.for_ (.one 2) (.seq (.tup (.cons (.int 0) (.cons (.int 1) (.cons (.neg (.int 1)) (.cons (.bl true) (.cons (.bl false) (.cons .non (.cons (.str (Str.ofString "1")) (.cons (.tup .nil) (.cons (.tup (.cons (.int 1) .nil)) (.cons (.lst (.cons (.int 1) .nil)) (.cons (.tup (.cons (.bl true) .nil)) (.cons (.tup (.cons (.int 1) (.cons (.str (Str.ofString "2")) .nil))) (.cons (.tup (.cons (.int 1) (.cons (.int 2) .nil))) .nil))))))))))))))) (.cons (.set 4 (.bop true (.cons (.isi (.var 2) [.int]) (.cons (.not_ (.isi (.var 2) [.bool])) .nil))))
  (.cons (.ife (.bop false (.cons (.not_ (.call 23 (.cons (.fn 0) (.cons (.tup (.cons (.var 2) .nil)) (.cons (.var 4) .nil))))) (.cons (.not_ (.call 23 (.cons (.fn 2) (.cons (.tup (.cons (.var 2) .nil)) (.cons (.bop true (.cons (.isi (.var 2) [.tuple]) (.cons (.bfn .all (.cons (.comp (.bop true (.cons (.isi (.var 10) [.int]) (.cons (.not_ (.isi (.var 10) [.bool])) .nil))) (.one 10) (.seq (.var 2)) .no) .nil)) .nil))) .nil))))) (.cons (.not_ (.call 23 (.cons (.fn 1) (.cons (.tup (.cons (.var 2) (.cons (.int 0) (.cons (.int 1) .nil)))) (.cons (.bop true (.cons (.var 4) (.cons (.chain .le .le (.int 0) (.var 2) (.int 1)) .nil))) .nil))))) .nil)))) (.cons (.ret (.bl false))
  .nil) .nil)
  .nil)))
  (.cons (.for_ (.one 3) (.rng (.cons (.int 4) .nil)) (.cons (.par [5, 6] (.cons (.bin .sub (.call 19 (.cons (.var 1) (.cons (.int 121) .nil))) (.int 60)) (.cons (.bin .sub (.call 19 (.cons (.var 1) (.cons (.int 121) .nil))) (.int 60)) .nil)))
  (.cons (.set 7 (.ite (.bop false (.cons (.cmp .ne (.var 5) (.int 0)) (.cons (.cmp .ne (.var 6) (.int 0)) .nil))) (.bfn .max (.cons (.bin .add (.comp (.var 9) (.one 9) (.rng (.cons (.int 61) .nil)) (.yes (.bop true (.cons (.cmp .gt (.var 9) (.int 0)) (.cons (.cmp .eq (.bin .mod (.bfn .int (.cons (.var 5) .nil)) (.var 9)) (.int 0)) (.cons (.cmp .eq (.bin .mod (.bfn .int (.cons (.var 6) .nil)) (.var 9)) (.int 0)) .nil)))))) (.lst (.cons (.int 0) .nil))) .nil)) (.int 0)))
  (.cons (.ife (.not_ (.call 23 (.cons (.fn 3) (.cons (.tup (.cons (.var 5) (.cons (.var 6) .nil))) (.cons (.var 7) .nil))))) (.cons (.ret (.bl false))
  .nil) .nil)
  (.cons (.par [5, 6] (.cons (.bin .add (.bfn .abs (.cons (.var 5) .nil)) (.int 1)) (.cons (.bin .add (.bfn .abs (.cons (.var 6) .nil)) (.int 1)) .nil)))
  (.cons (.ife (.bop false (.cons (.not_ (.call 23 (.cons (.fn 4) (.cons (.tup (.cons (.var 5) (.cons (.var 6) .nil))) (.cons (.bfn .min (.cons (.comp (.bin .mul (.var 9) (.var 5)) (.one 9) (.rng (.cons (.int 1) (.cons (.bin .add (.var 6) (.int 1)) .nil))) (.yes (.cmp .eq (.bin .mod (.bfn .int (.cons (.bin .mul (.var 9) (.var 5)) .nil)) (.var 6)) (.int 0)))) .nil)) .nil))))) (.cons (.not_ (.call 23 (.cons (.fn 5) (.cons (.tup (.cons (.var 5) .nil)) (.cons (.bfn .tuple (.cons (.comp (.var 9) (.one 9) (.rng (.cons (.int 1) (.cons (.bin .add (.var 5) (.int 1)) .nil))) (.yes (.cmp .eq (.bin .mod (.bfn .int (.cons (.var 5) .nil)) (.var 9)) (.int 0)))) .nil)) .nil))))) .nil))) (.cons (.ret (.bl false))
  .nil) .nil)
  (.cons (.par [8, 9] (.cons (.call 19 (.cons (.var 1) (.cons (.int 8) .nil))) (.cons (.bin .sub (.call 19 (.cons (.var 1) (.cons (.int 11) .nil))) (.int 1)) .nil)))
  (.cons (.ife (.bop false (.cons (.not_ (.call 23 (.cons (.fn 7) (.cons (.tup (.cons (.var 8) (.cons (.var 9) .nil))) (.cons (.ite (.chain .le .le (.int 0) (.var 9) (.var 8)) (.bfn .len (.cons (.call 24 (.cons (.var 8) (.cons (.var 9) .nil))) .nil)) (.int 0)) .nil))))) (.cons (.not_ (.call 23 (.cons (.fn 6) (.cons (.tup (.cons (.var 8) .nil)) (.cons (.call 26 (.cons (.var 8) .nil)) .nil))))) (.cons (.not_ (.call 23 (.cons (.fn 9) (.cons (.tup (.cons (.var 9) .nil)) (.cons (.ite (.cmp .eq (.bin .mod (.bfn .int (.cons (.var 9) .nil)) (.int 2)) (.int 0)) (.int 1) (.neg (.int 1))) .nil))))) .nil)))) (.cons (.ret (.bl false))
  .nil) .nil)
  (.cons (.par [10, 9] (.cons (.bin .sub (.call 19 (.cons (.var 1) (.cons (.int 15) .nil))) (.int 7)) (.cons (.call 19 (.cons (.var 1) (.cons (.int 6) .nil))) .nil)))
  (.cons (.par [11, 12] (.cons (.int 1) (.cons (.int 1) .nil)))
  (.cons (.for_ (.one 13) (.rng (.cons (.var 9) .nil)) (.cons (.par [11, 12] (.cons (.bin .mul (.var 11) (.bin .sub (.var 10) (.var 13))) (.cons (.bin .mul (.var 12) (.bin .add (.var 10) (.var 13))) .nil)))
  .nil))
  (.cons (.ife (.bop false (.cons (.not_ (.call 23 (.cons (.fn 10) (.cons (.tup (.cons (.var 10) (.cons (.var 9) .nil))) (.cons (.var 11) .nil))))) (.cons (.not_ (.call 23 (.cons (.fn 11) (.cons (.tup (.cons (.var 10) (.cons (.var 9) .nil))) (.cons (.var 12) .nil))))) (.cons (.not_ (.call 23 (.cons (.fn 8) (.cons (.tup (.cons (.var 10) (.cons (.var 9) .nil))) (.cons (.call 27 (.cons (.var 10) (.cons (.var 9) .nil))) .nil))))) .nil)))) (.cons (.ret (.bl false))
  .nil) .nil)
  (.cons (.par [8, 14] (.cons (.call 19 (.cons (.var 1) (.cons (.int 8) .nil))) (.cons (.call 19 (.cons (.var 1) (.cons (.int 8) .nil))) .nil)))
  (.cons (.set 15 (.call 29 (.cons (.var 8) (.cons (.var 14) .nil))))
  (.cons (.ife (.cmp .ne (.call 25 (.cons (.fn 12) (.cons (.tup (.cons (.var 8) (.cons (.var 14) .nil))) .nil))) (.var 15)) (.cons (.ret (.bl false))
  .nil) .nil)
  (.cons (.set 16 (.call 19 (.cons (.var 1) (.cons (.int 6) .nil))))
  (.cons (.set 17 (.comp (.bfn .tuple (.cons (.rev (.bfn .sorted (.cons (.comp (.meth .count (.var 18) (.cons (.var 24) .nil)) (.one 24) (.seq (.bfn .sortset (.cons (.var 18) .nil))) .no) .nil))) .nil)) (.one 18) (.seq (.call 30 (.cons (.var 16) .nil))) .no))
  (.cons (.for_ (.one 18) (.seq (.call 29 (.cons (.var 16) (.cons (.var 16) .nil)))) (.cons (.set 25 (.bfn .tuple (.cons (.comp (.meth .count (.var 18) (.cons (.var 24) .nil)) (.one 24) (.rng (.cons (.int 1) (.cons (.bin .add (.var 16) (.int 1)) .nil))) .no) .nil)))
  (.cons (.ife (.bop false (.cons (.not_ (.call 23 (.cons (.fn 14) (.cons (.tup (.cons (.var 18) (.cons (.var 16) .nil))) (.cons (.var 25) .nil))))) (.cons (.not_ (.call 23 (.cons (.fn 15) (.cons (.tup (.cons (.var 25) .nil)) (.cons (.bfn .len (.cons (.comp (.int 1) (.one 11) (.seq (.var 17)) (.yes (.cmp .eq (.var 11) (.var 18)))) .nil)) .nil))))) .nil))) (.cons (.ret (.bl false))
  .nil) .nil)
  .nil)))
  (.cons (.par [19, 20] (.cons (.call 19 (.cons (.var 1) (.cons (.int 6) .nil))) (.cons (.call 19 (.cons (.var 1) (.cons (.int 4) .nil))) .nil)))
  (.cons (.set 21 (.comp (.var 18) (.one 18) (.seq (.call 28 (.cons (.bin .mul (.lst (.cons (.bin .add (.var 19) (.int 1)) .nil)) (.var 20)) .nil))) (.yes (.cmp .eq (.bfn .sum (.cons (.var 18) .nil)) (.var 19)))))
  (.cons (.ife (.not_ (.call 23 (.cons (.fn 13) (.cons (.tup (.cons (.var 19) (.cons (.var 20) .nil))) (.cons (.bfn .tuple (.cons (.rev (.bfn .sorted (.cons (.var 21) .nil))) .nil)) .nil))))) (.cons (.ret (.bl false))
  .nil) .nil)
  (.cons (.set 22 (.bfn .tuple (.cons (.comp (.call 19 (.cons (.var 1) (.cons (.int 4) .nil))) (.one 24) (.rng (.cons (.int 3) .nil)) .no) .nil)))
  (.cons (.set 23 (.call 26 (.cons (.bfn .sum (.cons (.var 22) .nil)) .nil)))
  (.cons (.for_ (.one 24) (.seq (.var 22)) (.cons (.set 23 (.bin .fdiv (.var 23) (.call 26 (.cons (.var 24) .nil))))
  .nil))
  (.cons (.ife (.bop false (.cons (.not_ (.call 23 (.cons (.fn 16) (.cons (.tup (.cons (.var 22) .nil)) (.cons (.var 23) .nil))))) (.cons (.not_ (.call 23 (.cons (.fn 17) (.cons (.tup (.cons (.var 22) .nil)) (.cons (.bin .add (.bin .add (.bin .add (.bin .add (.bfn .str (.cons (.idx (.var 22) (.int 0)) .nil)) (.str (Str.ofString ","))) (.bfn .str (.cons (.idx (.var 22) (.int 1)) .nil))) (.str (Str.ofString ","))) (.bfn .str (.cons (.idx (.var 22) (.int 2)) .nil))) .nil))))) .nil))) (.cons (.ret (.bl false))
  .nil) .nil)
  .nil)))))))))))))))))))))))))
  (.cons (.ret (.bop true (.cons (.call 23 (.cons (.fn 17) (.cons (.tup (.cons (.tup .nil) .nil)) (.cons (.str (Str.ofString "-")) .nil)))) (.cons (.call 23 (.cons (.fn 3) (.cons (.tup (.cons (.int 0) (.cons (.int 0) .nil))) (.cons (.int 0) .nil)))) .nil))))
  .nil))))⟩
def T : Tab := [d0, d1, d2, d3, d4, d5, d6, d7, d8, d9, d10, d11, d12, d13, d14, d15, d16, d17, d18, d19, d20, d21, d22, d23, d24, d25, d26, d27, d28, d29, d30, d31]
abbrev pw : Program := PySem.Challenge.pw_umbraroads_k00_whole_integers_of_rows
abbrev rw : PySem.W.OpenLaw := PySem.Challenge.rw_umbraroads_k00_whole_integers_of_rows
def top (i : Nat) : Stmt := pw.main.body.getD i (.Pass ⟨0, 0, 0, 0⟩)
def r0 : RD := ⟨"is_integer", defArgs (top 5), defBody (top 5), defScope (top 5), ["value"], 1⟩
def r1 : RD := ⟨"is_count", defArgs (top 6), defBody (top 6), defScope (top 6), ["value", "low", "high"], 3⟩
def r2 : RD := ⟨"is_whole_row", defArgs (top 7), defBody (top 7), defScope (top 7), ["value", "x"], 1⟩
def r3 : RD := ⟨"common", defArgs (top 8), defBody (top 8), defScope (top 8), ["a", "b"], 2⟩
def r4 : RD := ⟨"least_multiple", defArgs (top 9), defBody (top 9), defScope (top 9), ["a", "b"], 2⟩
def r5 : RD := ⟨"divisors_of", defArgs (top 10), defBody (top 10), defScope (top 10), ["n", "low", "high", "d"], 1⟩
def r6 : RD := ⟨"factorial", defArgs (top 11), defBody (top 11), defScope (top 11), ["n", "found", "k"], 1⟩
def r7 : RD := ⟨"binomial", defArgs (top 12), defBody (top 12), defScope (top 12), ["n", "k", "found", "i"], 2⟩
def r8 : RD := ⟨"power", defArgs (top 13), defBody (top 13), defScope (top 13), ["a", "k", "found", "_"], 2⟩
def r9 : RD := ⟨"sign_power", defArgs (top 14), defBody (top 14), defScope (top 14), ["k"], 1⟩
def r10 : RD := ⟨"falling_number", defArgs (top 15), defBody (top 15), defScope (top 15), ["a", "k", "found", "i"], 2⟩
def r11 : RD := ⟨"rising_number", defArgs (top 16), defBody (top 16), defScope (top 16), ["a", "k", "found", "i"], 2⟩
def r12 : RD := ⟨"partings_of", defArgs (top 17), defBody (top 17), defScope (top 17), ["n", "most", "found", "k", "rest"], 2⟩
def r13 : RD := ⟨"parts_of", defArgs (top 18), defBody (top 18), defScope (top 18), ["total", "size", "k", "rest"], 2⟩
def r14 : RD := ⟨"repeats_of", defArgs (top 19), defBody (top 19), defScope (top 19), ["parting", "n", "found", "k"], 2⟩
def r15 : RD := ⟨"block_number", defArgs (top 20), defBody (top 20), defScope (top 20), ["repeats", "total", "low", "k", "many"], 1⟩
def r16 : RD := ⟨"multinomial_of", defArgs (top 21), defBody (top 21), defScope (top 21), ["parts", "found", "k"], 1⟩
def r17 : RD := ⟨"row_text", defArgs (top 22), defBody (top 22), defScope (top 22), ["row", "x"], 1⟩
def r18 : RD := ⟨"_law_state", defArgs (top 24), defBody (top 24), defScope (top 24), ["script", "seed", "total", "cell"], 1⟩
def r19 : RD := ⟨"_law_take", defArgs (top 25), defBody (top 25), defScope (top 25), ["state", "m", "value"], 2⟩
def r20 : RD := ⟨"_law_same", defArgs (top 26), defBody (top 26), defScope (top 26), ["value", "due", "k"], 2⟩
def r21 : RD := ⟨"_law_told", defArgs (top 27), defBody (top 27), defScope (top 27), ["f", "given", "error"], 2⟩
def r22 : RD := ⟨"_law_is_told", defArgs (top 28), defBody (top 28), defScope (top 28), ["pair", "due"], 2⟩
def r23 : RD := ⟨"_law_tells", defArgs (top 29), defBody (top 29), defScope (top 29), ["f", "given", "due"], 3⟩
def r24 : RD := ⟨"_law_choices", defArgs (top 30), defBody (top 30), defScope (top 30), ["n", "k", "found", "t", "longer", "row", "x"], 2⟩
def r25 : RD := ⟨"_law_value", defArgs (top 31), defBody (top 31), defScope (top 31), ["f", "given", "told"], 2⟩
def r26 : RD := ⟨"_law_factorial", defArgs (top 32), defBody (top 32), defScope (top 32), ["n", "total", "t"], 1⟩
def r27 : RD := ⟨"_law_raised", defArgs (top 33), defBody (top 33), defScope (top 33), ["a", "k", "total", "t"], 2⟩
def r28 : RD := ⟨"_law_words", defArgs (top 34), defBody (top 34), defScope (top 34), ["sizes", "found", "size", "longer", "own", "x"], 1⟩
def r29 : RD := ⟨"_law_parted", defArgs (top 35), defBody (top 35), defScope (top 35), ["n", "most", "found", "k", "own"], 2⟩
def r30 : RD := ⟨"_law_blocks", defArgs (top 36), defBody (top 36), defScope (top 36), ["n", "found", "k", "longer", "own", "top", "j"], 1⟩
def r31 : RD := ⟨"law", defArgs (top 37), defBody (top 37), defScope (top 37), ["script", "state", "value", "turn", "plain", "a", "b", "shared", "n", "k", "x", "low", "high", "i", "most", "lot", "m", "sizes", "own", "total", "size", "rows", "parts", "due", "j", "repeats"], 1⟩
def rs : List RD := [r0, r1, r2, r3, r4, r5, r6, r7, r8, r9, r10, r11, r12, r13, r14, r15, r16, r17, r18, r19, r20, r21, r22, r23, r24, r25, r26, r27, r28, r29, r30, r31]
theorem chk : chkT (rs.map (·.name)) T rs = true := by decide +kernel
theorem b0 : BindP r0 := fun _ _ _ _ _ _ us hu => match us, hu with | [_], _ => rfl
theorem b1 : BindP r1 := fun _ _ _ _ _ _ us hu => match us, hu with | [_, _, _], _ => rfl
theorem b2 : BindP r2 := fun _ _ _ _ _ _ us hu => match us, hu with | [_], _ => rfl
theorem b3 : BindP r3 := fun _ _ _ _ _ _ us hu => match us, hu with | [_, _], _ => rfl
theorem b4 : BindP r4 := fun _ _ _ _ _ _ us hu => match us, hu with | [_, _], _ => rfl
theorem b5 : BindP r5 := fun _ _ _ _ _ _ us hu => match us, hu with | [_], _ => rfl
theorem b6 : BindP r6 := fun _ _ _ _ _ _ us hu => match us, hu with | [_], _ => rfl
theorem b7 : BindP r7 := fun _ _ _ _ _ _ us hu => match us, hu with | [_, _], _ => rfl
theorem b8 : BindP r8 := fun _ _ _ _ _ _ us hu => match us, hu with | [_, _], _ => rfl
theorem b9 : BindP r9 := fun _ _ _ _ _ _ us hu => match us, hu with | [_], _ => rfl
theorem b10 : BindP r10 := fun _ _ _ _ _ _ us hu => match us, hu with | [_, _], _ => rfl
theorem b11 : BindP r11 := fun _ _ _ _ _ _ us hu => match us, hu with | [_, _], _ => rfl
theorem b12 : BindP r12 := fun _ _ _ _ _ _ us hu => match us, hu with | [_, _], _ => rfl
theorem b13 : BindP r13 := fun _ _ _ _ _ _ us hu => match us, hu with | [_, _], _ => rfl
theorem b14 : BindP r14 := fun _ _ _ _ _ _ us hu => match us, hu with | [_, _], _ => rfl
theorem b15 : BindP r15 := fun _ _ _ _ _ _ us hu => match us, hu with | [_], _ => rfl
theorem b16 : BindP r16 := fun _ _ _ _ _ _ us hu => match us, hu with | [_], _ => rfl
theorem b17 : BindP r17 := fun _ _ _ _ _ _ us hu => match us, hu with | [_], _ => rfl
theorem b18 : BindP r18 := fun _ _ _ _ _ _ us hu => match us, hu with | [_], _ => rfl
theorem b19 : BindP r19 := fun _ _ _ _ _ _ us hu => match us, hu with | [_, _], _ => rfl
theorem b20 : BindP r20 := fun _ _ _ _ _ _ us hu => match us, hu with | [_, _], _ => rfl
theorem b21 : BindP r21 := fun _ _ _ _ _ _ us hu => match us, hu with | [_, _], _ => rfl
theorem b22 : BindP r22 := fun _ _ _ _ _ _ us hu => match us, hu with | [_, _], _ => rfl
theorem b23 : BindP r23 := fun _ _ _ _ _ _ us hu => match us, hu with | [_, _, _], _ => rfl
theorem b24 : BindP r24 := fun _ _ _ _ _ _ us hu => match us, hu with | [_, _], _ => rfl
theorem b25 : BindP r25 := fun _ _ _ _ _ _ us hu => match us, hu with | [_, _], _ => rfl
theorem b26 : BindP r26 := fun _ _ _ _ _ _ us hu => match us, hu with | [_], _ => rfl
theorem b27 : BindP r27 := fun _ _ _ _ _ _ us hu => match us, hu with | [_, _], _ => rfl
theorem b28 : BindP r28 := fun _ _ _ _ _ _ us hu => match us, hu with | [_], _ => rfl
theorem b29 : BindP r29 := fun _ _ _ _ _ _ us hu => match us, hu with | [_, _], _ => rfl
theorem b30 : BindP r30 := fun _ _ _ _ _ _ us hu => match us, hu with | [_], _ => rfl
theorem b31 : BindP r31 := fun _ _ _ _ _ _ us hu => match us, hu with | [_], _ => rfl
theorem bds : ∀ (j : Nat) (r : RD), rs[j]? = some r → BindP r
  | 0, _, rfl => b0
  | 1, _, rfl => b1
  | 2, _, rfl => b2
  | 3, _, rfl => b3
  | 4, _, rfl => b4
  | 5, _, rfl => b5
  | 6, _, rfl => b6
  | 7, _, rfl => b7
  | 8, _, rfl => b8
  | 9, _, rfl => b9
  | 10, _, rfl => b10
  | 11, _, rfl => b11
  | 12, _, rfl => b12
  | 13, _, rfl => b13
  | 14, _, rfl => b14
  | 15, _, rfl => b15
  | 16, _, rfl => b16
  | 17, _, rfl => b17
  | 18, _, rfl => b18
  | 19, _, rfl => b19
  | 20, _, rfl => b20
  | 21, _, rfl => b21
  | 22, _, rfl => b22
  | 23, _, rfl => b23
  | 24, _, rfl => b24
  | 25, _, rfl => b25
  | 26, _, rfl => b26
  | 27, _, rfl => b27
  | 28, _, rfl => b28
  | 29, _, rfl => b29
  | 30, _, rfl => b30
  | 31, _, rfl => b31
  | _ + 32, _, h => nomatch h
def names0 : List PySem.Str := [("Fault" : PySem.Str), ("Malformed" : PySem.Str), ("Refused" : PySem.Str), ("is_integer" : PySem.Str), ("is_count" : PySem.Str), ("is_whole_row" : PySem.Str), ("common" : PySem.Str), ("least_multiple" : PySem.Str), ("divisors_of" : PySem.Str), ("factorial" : PySem.Str), ("binomial" : PySem.Str), ("power" : PySem.Str), ("sign_power" : PySem.Str), ("falling_number" : PySem.Str), ("rising_number" : PySem.Str), ("partings_of" : PySem.Str), ("parts_of" : PySem.Str), ("repeats_of" : PySem.Str), ("block_number" : PySem.Str), ("multinomial_of" : PySem.Str), ("row_text" : PySem.Str), ("_law_state" : PySem.Str), ("_law_take" : PySem.Str), ("_law_same" : PySem.Str), ("_law_told" : PySem.Str), ("_law_is_told" : PySem.Str), ("_law_tells" : PySem.Str), ("_law_choices" : PySem.Str), ("_law_value" : PySem.Str), ("_law_factorial" : PySem.Str), ("_law_raised" : PySem.Str), ("_law_words" : PySem.Str), ("_law_parted" : PySem.Str), ("_law_blocks" : PySem.Str)]
def names : List PySem.Str := names0
abbrev R : PySem.W.OpenRow := PySem.W.OpenLaw.row rw
abbrev hk : PySem.W.Hook := He.hookD 4 (fasD rs) (fnsD rs)
def ob (s : PySem.W.SharedT) : He.AlD := He.obsDG 4 (fasD rs) (fnsD rs) (HandSHeadRun.getT s)
theorem ob_eq (s : PySem.W.SharedT) : ob s = hk.obs s.abs := He.obsDG_eq (HandSHeadRun.getT_eq s)
theorem hrun (w : World) : HandSHeadRun.RunEq R (PySem.W.view R.prog [37]) hk ob 4000 names w := by
  intro os
  kernel_rfl
end K00


set_option maxHeartbeats 0
namespace K00
open PySem Ev
open PySem Ev
-- slots: 0 script, 1 state, 2 value, 3 turn, 4 plain, 5 a, 6 b, 7 shared, 8 n, 9 k, 10 x, 11 low, 12 high, 13 i, 14 most, 15 lot, 16 m, 17 sizes, 18 own, 19 total, 20 size, 21 rows, 22 parts, 23 due, 24 j, 25 repeats
def m0 : Ss := (.cons (.for_ (.one 2) (.seq (.tup (.cons (.int 0) (.cons (.int 1) (.cons (.neg (.int 1)) (.cons (.bl true) (.cons (.bl false) (.cons .non (.cons (.str (Str.ofString "1")) (.cons (.tup .nil) (.cons (.tup (.cons (.int 1) .nil)) (.cons (.lst (.cons (.int 1) .nil)) (.cons (.tup (.cons (.bl true) .nil)) (.cons (.tup (.cons (.int 1) (.cons (.str (Str.ofString "2")) .nil))) (.cons (.tup (.cons (.int 1) (.cons (.int 2) .nil))) .nil))))))))))))))) (.cons (.set 4 (.bop true (.cons (.isi (.var 2) [.int]) (.cons (.not_ (.isi (.var 2) [.bool])) .nil))))
  (.cons (.ife (.bop false (.cons (.not_ (.call 23 (.cons (.fn 0) (.cons (.tup (.cons (.var 2) .nil)) (.cons (.var 4) .nil))))) (.cons (.not_ (.call 23 (.cons (.fn 2) (.cons (.tup (.cons (.var 2) .nil)) (.cons (.bop true (.cons (.isi (.var 2) [.tuple]) (.cons (.bfn .all (.cons (.comp (.bop true (.cons (.isi (.var 10) [.int]) (.cons (.not_ (.isi (.var 10) [.bool])) .nil))) (.one 10) (.seq (.var 2)) .no) .nil)) .nil))) .nil))))) (.cons (.not_ (.call 23 (.cons (.fn 1) (.cons (.tup (.cons (.var 2) (.cons (.int 0) (.cons (.int 1) .nil)))) (.cons (.bop true (.cons (.var 4) (.cons (.chain .le .le (.int 0) (.var 2) (.int 1)) .nil))) .nil))))) .nil)))) (.cons (.ret (.bl false))
  .nil) .nil)
  .nil)))
  .nil)
def m1tk0 : Ss := (.cons (.par [5, 6] (.cons (.bin .sub (.call 19 (.cons (.var 1) (.cons (.int 121) .nil))) (.int 60)) (.cons (.bin .sub (.call 19 (.cons (.var 1) (.cons (.int 121) .nil))) (.int 60)) .nil)))
  .nil)
def m1cl0 : Ss := (.cons (.set 7 (.ite (.bop false (.cons (.cmp .ne (.var 5) (.int 0)) (.cons (.cmp .ne (.var 6) (.int 0)) .nil))) (.bfn .max (.cons (.bin .add (.comp (.var 9) (.one 9) (.rng (.cons (.int 61) .nil)) (.yes (.bop true (.cons (.cmp .gt (.var 9) (.int 0)) (.cons (.cmp .eq (.bin .mod (.bfn .int (.cons (.var 5) .nil)) (.var 9)) (.int 0)) (.cons (.cmp .eq (.bin .mod (.bfn .int (.cons (.var 6) .nil)) (.var 9)) (.int 0)) .nil)))))) (.lst (.cons (.int 0) .nil))) .nil)) (.int 0)))
  (.cons (.ife (.not_ (.call 23 (.cons (.fn 3) (.cons (.tup (.cons (.var 5) (.cons (.var 6) .nil))) (.cons (.var 7) .nil))))) (.cons (.ret (.bl false))
  .nil) .nil)
  (.cons (.par [5, 6] (.cons (.bin .add (.bfn .abs (.cons (.var 5) .nil)) (.int 1)) (.cons (.bin .add (.bfn .abs (.cons (.var 6) .nil)) (.int 1)) .nil)))
  (.cons (.ife (.bop false (.cons (.not_ (.call 23 (.cons (.fn 4) (.cons (.tup (.cons (.var 5) (.cons (.var 6) .nil))) (.cons (.bfn .min (.cons (.comp (.bin .mul (.var 9) (.var 5)) (.one 9) (.rng (.cons (.int 1) (.cons (.bin .add (.var 6) (.int 1)) .nil))) (.yes (.cmp .eq (.bin .mod (.bfn .int (.cons (.bin .mul (.var 9) (.var 5)) .nil)) (.var 6)) (.int 0)))) .nil)) .nil))))) (.cons (.not_ (.call 23 (.cons (.fn 5) (.cons (.tup (.cons (.var 5) .nil)) (.cons (.bfn .tuple (.cons (.comp (.var 9) (.one 9) (.rng (.cons (.int 1) (.cons (.bin .add (.var 5) (.int 1)) .nil))) (.yes (.cmp .eq (.bin .mod (.bfn .int (.cons (.var 5) .nil)) (.var 9)) (.int 0)))) .nil)) .nil))))) .nil))) (.cons (.ret (.bl false))
  .nil) .nil)
  .nil))))
def m1tk1 : Ss := (.cons (.par [8, 9] (.cons (.call 19 (.cons (.var 1) (.cons (.int 8) .nil))) (.cons (.bin .sub (.call 19 (.cons (.var 1) (.cons (.int 11) .nil))) (.int 1)) .nil)))
  .nil)
def m1cl1 : Ss := (.cons (.ife (.bop false (.cons (.not_ (.call 23 (.cons (.fn 7) (.cons (.tup (.cons (.var 8) (.cons (.var 9) .nil))) (.cons (.ite (.chain .le .le (.int 0) (.var 9) (.var 8)) (.bfn .len (.cons (.call 24 (.cons (.var 8) (.cons (.var 9) .nil))) .nil)) (.int 0)) .nil))))) (.cons (.not_ (.call 23 (.cons (.fn 6) (.cons (.tup (.cons (.var 8) .nil)) (.cons (.call 26 (.cons (.var 8) .nil)) .nil))))) (.cons (.not_ (.call 23 (.cons (.fn 9) (.cons (.tup (.cons (.var 9) .nil)) (.cons (.ite (.cmp .eq (.bin .mod (.bfn .int (.cons (.var 9) .nil)) (.int 2)) (.int 0)) (.int 1) (.neg (.int 1))) .nil))))) .nil)))) (.cons (.ret (.bl false))
  .nil) .nil)
  .nil)
def m1tk2 : Ss := (.cons (.par [10, 9] (.cons (.bin .sub (.call 19 (.cons (.var 1) (.cons (.int 15) .nil))) (.int 7)) (.cons (.call 19 (.cons (.var 1) (.cons (.int 6) .nil))) .nil)))
  .nil)
def m1cl2 : Ss := (.cons (.par [11, 12] (.cons (.int 1) (.cons (.int 1) .nil)))
  (.cons (.for_ (.one 13) (.rng (.cons (.var 9) .nil)) (.cons (.par [11, 12] (.cons (.bin .mul (.var 11) (.bin .sub (.var 10) (.var 13))) (.cons (.bin .mul (.var 12) (.bin .add (.var 10) (.var 13))) .nil)))
  .nil))
  (.cons (.ife (.bop false (.cons (.not_ (.call 23 (.cons (.fn 10) (.cons (.tup (.cons (.var 10) (.cons (.var 9) .nil))) (.cons (.var 11) .nil))))) (.cons (.not_ (.call 23 (.cons (.fn 11) (.cons (.tup (.cons (.var 10) (.cons (.var 9) .nil))) (.cons (.var 12) .nil))))) (.cons (.not_ (.call 23 (.cons (.fn 8) (.cons (.tup (.cons (.var 10) (.cons (.var 9) .nil))) (.cons (.call 27 (.cons (.var 10) (.cons (.var 9) .nil))) .nil))))) .nil)))) (.cons (.ret (.bl false))
  .nil) .nil)
  .nil)))
def m1tk3 : Ss := (.cons (.par [8, 14] (.cons (.call 19 (.cons (.var 1) (.cons (.int 8) .nil))) (.cons (.call 19 (.cons (.var 1) (.cons (.int 8) .nil))) .nil)))
  .nil)
def m1cl3 : Ss := (.cons (.set 15 (.call 29 (.cons (.var 8) (.cons (.var 14) .nil))))
  (.cons (.ife (.cmp .ne (.call 25 (.cons (.fn 12) (.cons (.tup (.cons (.var 8) (.cons (.var 14) .nil))) .nil))) (.var 15)) (.cons (.ret (.bl false))
  .nil) .nil)
  .nil))
def m1tk4 : Ss := (.cons (.set 16 (.call 19 (.cons (.var 1) (.cons (.int 6) .nil))))
  .nil)
def m1cl4 : Ss := (.cons (.set 17 (.comp (.bfn .tuple (.cons (.rev (.bfn .sorted (.cons (.comp (.meth .count (.var 18) (.cons (.var 24) .nil)) (.one 24) (.seq (.bfn .sortset (.cons (.var 18) .nil))) .no) .nil))) .nil)) (.one 18) (.seq (.call 30 (.cons (.var 16) .nil))) .no))
  (.cons (.for_ (.one 18) (.seq (.call 29 (.cons (.var 16) (.cons (.var 16) .nil)))) (.cons (.set 25 (.bfn .tuple (.cons (.comp (.meth .count (.var 18) (.cons (.var 24) .nil)) (.one 24) (.rng (.cons (.int 1) (.cons (.bin .add (.var 16) (.int 1)) .nil))) .no) .nil)))
  (.cons (.ife (.bop false (.cons (.not_ (.call 23 (.cons (.fn 14) (.cons (.tup (.cons (.var 18) (.cons (.var 16) .nil))) (.cons (.var 25) .nil))))) (.cons (.not_ (.call 23 (.cons (.fn 15) (.cons (.tup (.cons (.var 25) .nil)) (.cons (.bfn .len (.cons (.comp (.int 1) (.one 11) (.seq (.var 17)) (.yes (.cmp .eq (.var 11) (.var 18)))) .nil)) .nil))))) .nil))) (.cons (.ret (.bl false))
  .nil) .nil)
  .nil)))
  .nil))
def m1tk5 : Ss := (.cons (.par [19, 20] (.cons (.call 19 (.cons (.var 1) (.cons (.int 6) .nil))) (.cons (.call 19 (.cons (.var 1) (.cons (.int 4) .nil))) .nil)))
  .nil)
def m1cl5 : Ss := (.cons (.set 21 (.comp (.var 18) (.one 18) (.seq (.call 28 (.cons (.bin .mul (.lst (.cons (.bin .add (.var 19) (.int 1)) .nil)) (.var 20)) .nil))) (.yes (.cmp .eq (.bfn .sum (.cons (.var 18) .nil)) (.var 19)))))
  (.cons (.ife (.not_ (.call 23 (.cons (.fn 13) (.cons (.tup (.cons (.var 19) (.cons (.var 20) .nil))) (.cons (.bfn .tuple (.cons (.rev (.bfn .sorted (.cons (.var 21) .nil))) .nil)) .nil))))) (.cons (.ret (.bl false))
  .nil) .nil)
  .nil))
def m1tk6 : Ss := (.cons (.set 22 (.bfn .tuple (.cons (.comp (.call 19 (.cons (.var 1) (.cons (.int 4) .nil))) (.one 24) (.rng (.cons (.int 3) .nil)) .no) .nil)))
  .nil)
def m1cl6 : Ss := (.cons (.set 23 (.call 26 (.cons (.bfn .sum (.cons (.var 22) .nil)) .nil)))
  (.cons (.for_ (.one 24) (.seq (.var 22)) (.cons (.set 23 (.bin .fdiv (.var 23) (.call 26 (.cons (.var 24) .nil))))
  .nil))
  (.cons (.ife (.bop false (.cons (.not_ (.call 23 (.cons (.fn 16) (.cons (.tup (.cons (.var 22) .nil)) (.cons (.var 23) .nil))))) (.cons (.not_ (.call 23 (.cons (.fn 17) (.cons (.tup (.cons (.var 22) .nil)) (.cons (.bin .add (.bin .add (.bin .add (.bin .add (.bfn .str (.cons (.idx (.var 22) (.int 0)) .nil)) (.str (Str.ofString ","))) (.bfn .str (.cons (.idx (.var 22) (.int 1)) .nil))) (.str (Str.ofString ","))) (.bfn .str (.cons (.idx (.var 22) (.int 2)) .nil))) .nil))))) .nil))) (.cons (.ret (.bl false))
  .nil) .nil)
  .nil)))
def m1 : Ss := (.cons (.for_ (.one 3) (.rng (.cons (.int 4) .nil)) (appSs (appSs m1tk0 m1cl0) (appSs (appSs m1tk1 m1cl1) (appSs (appSs m1tk2 m1cl2) (appSs (appSs m1tk3 m1cl3) (appSs (appSs m1tk4 m1cl4) (appSs (appSs m1tk5 m1cl5) (appSs m1tk6 m1cl6)))))))) .nil)
def m2 : Ss := (.cons (.ret (.bop true (.cons (.call 23 (.cons (.fn 17) (.cons (.tup (.cons (.tup .nil) .nil)) (.cons (.str (Str.ofString "-")) .nil)))) (.cons (.call 23 (.cons (.fn 3) (.cons (.tup (.cons (.int 0) (.cons (.int 0) .nil))) (.cons (.int 0) .nil)))) .nil))))
  .nil)
end K00
namespace K00
open PySem Ev
theorem d31_eq : tab T 31 = some ⟨1, 24 + 2, [false], .cons (.set 1 (.call 18 (.cons (.var 0) .nil))) (appSs (appSs m0 m1) m2)⟩ := by rfl
theorem d18_eq : tab T 18 = some stateD := by rfl
theorem d19_eq : tab T 19 = some takeD := by rfl
abbrev B := borsOf T
abbrev C := run T 39
theorem fin_ok : okRet (exSs B C m2 (nos 26)) = true := by decide +kernel
theorem m0_ok : okN 26 (exSs B C m0 (nos 26)) = true := by decide +kernel
end K00

set_option maxHeartbeats 0
namespace K00
open PySem Ev
def E2 (i j : Nat) (x y : Int) : Ev.Env := put (put (nos 26) i (.sh false (.int x))) j (.sh false (.int y))
def E1 (i : Nat) (x : Int) : Ev.Env := put (nos 26) i (.sh false (.int x))
end K00

set_option maxHeartbeats 0
namespace K00
open PySem Ev
theorem chk1 : allI 8 (fun n => allI 11 fun k => okN 26 (exSs B C m1cl1 (E2 8 9 n (k - 1)))) = true := by decide +kernel
end K00

set_option maxHeartbeats 0
namespace K00
open PySem Ev
theorem chk2 : allI 15 (fun n => allI 6 fun k => okN 26 (exSs B C m1cl2 (E2 10 9 (n - 7) k))) = true := by decide +kernel
end K00

set_option maxHeartbeats 0
namespace K00
open PySem Ev
theorem chk3 : allI 8 (fun n => allI 8 fun k => okN 26 (exSs B C m1cl3 (E2 8 14 n k))) = true := by decide +kernel
end K00

set_option maxHeartbeats 0
namespace K00
open PySem Ev
theorem chk4 : allI 6 (fun n => okN 26 (exSs B C m1cl4 (E1 16 n))) = true := by decide +kernel
end K00

set_option maxHeartbeats 0
namespace K00
open PySem Ev
theorem chk5 : allI 6 (fun n => allI 4 fun k => okN 26 (exSs B C m1cl5 (E2 19 20 n k))) = true := by decide +kernel
end K00

set_option maxHeartbeats 0
namespace K00
open PySem Ev
theorem tkc {a : Sl} {r : Ev.Env} {lk : Bool} {s t m : Int} (h : (decide (0 < m) && decide (m < 1073741824)) = true) :
    evR B C (.call 19 (.cons (.var 1) (.cons (.int m) .nil))) (a :: .ow lk [.int s, .int t] :: r) = .ok (.val (.int (tkV s t m))) (a :: .ow lk [.int (tkS s m), .int (tkT s t)] :: r) := take_c d19_eq h
theorem l8 : (decide ((0 : Int) < 8) && decide ((8 : Int) < 1073741824)) = true := by decide
theorem l11 : (decide ((0 : Int) < 11) && decide ((11 : Int) < 1073741824)) = true := by decide
theorem l15 : (decide ((0 : Int) < 15) && decide ((15 : Int) < 1073741824)) = true := by decide
theorem l6 : (decide ((0 : Int) < 6) && decide ((6 : Int) < 1073741824)) = true := by decide
theorem l4 : (decide ((0 : Int) < 4) && decide ((4 : Int) < 1073741824)) = true := by decide
theorem l121 : (decide ((0 : Int) < 121) && decide ((121 : Int) < 1073741824)) = true := by decide
theorem tk1 (s t : Int) : exSs B C m1tk1 (stE 24 s t) = .next (over (E2 8 9 (tkV s t 8) (tkV (tkS s 8) (tkT s t) 11 - 1)) (bSt (tkS (tkS s 8) 11) (tkT (tkS s 8) (tkT s t)))) := by
  simp only [m1tk1, exSs, exS, sCons, sPar, sNil, stE, evL, lCons, lNil, evR_bin, evR_int, c2, tkc l8, tkc l11, cVal, Res.bind, ofO, peek, Option.bind, bin, Res.then, SRes.bind, toSls, toSl, Option.map]
  rfl
theorem keeps1 : Keeps B C 24 (appSs m1tk1 m1cl1) := keeps_seg fun s t => ⟨_, _, _, tk1 s t, allI_ok (allI_ok chk1 (tkV_lo (by decide)) (tkV_hi (by decide))) (tkV_lo (by decide)) (tkV_hi (by decide))⟩
theorem tk2 (s t : Int) : exSs B C m1tk2 (stE 24 s t) = .next (over (E2 10 9 (tkV s t 15 - 7) (tkV (tkS s 15) (tkT s t) 6)) (bSt (tkS (tkS s 15) 6) (tkT (tkS s 15) (tkT s t)))) := by
  simp only [m1tk2, exSs, exS, sCons, sPar, sNil, stE, evL, lCons, lNil, evR_bin, evR_int, c2, tkc l15, tkc l6, cVal, Res.bind, ofO, peek, Option.bind, bin, Res.then, SRes.bind, toSls, toSl, Option.map]
  rfl
theorem keeps2 : Keeps B C 24 (appSs m1tk2 m1cl2) := keeps_seg fun s t => ⟨_, _, _, tk2 s t, allI_ok (allI_ok chk2 (tkV_lo (by decide)) (tkV_hi (by decide))) (tkV_lo (by decide)) (tkV_hi (by decide))⟩
theorem tk3 (s t : Int) : exSs B C m1tk3 (stE 24 s t) = .next (over (E2 8 14 (tkV s t 8) (tkV (tkS s 8) (tkT s t) 8)) (bSt (tkS (tkS s 8) 8) (tkT (tkS s 8) (tkT s t)))) := by
  simp only [m1tk3, exSs, exS, sCons, sPar, sNil, stE, evL, lCons, lNil, evR_bin, evR_int, c2, tkc l8, cVal, Res.bind, ofO, peek, Option.bind, bin, Res.then, SRes.bind, toSls, toSl, Option.map]
  rfl
theorem keeps3 : Keeps B C 24 (appSs m1tk3 m1cl3) := keeps_seg fun s t => ⟨_, _, _, tk3 s t, allI_ok (allI_ok chk3 (tkV_lo (by decide)) (tkV_hi (by decide))) (tkV_lo (by decide)) (tkV_hi (by decide))⟩
theorem tk5 (s t : Int) : exSs B C m1tk5 (stE 24 s t) = .next (over (E2 19 20 (tkV s t 6) (tkV (tkS s 6) (tkT s t) 4)) (bSt (tkS (tkS s 6) 4) (tkT (tkS s 6) (tkT s t)))) := by
  simp only [m1tk5, exSs, exS, sCons, sPar, sNil, stE, evL, lCons, lNil, evR_bin, evR_int, c2, tkc l6, tkc l4, cVal, Res.bind, ofO, peek, Option.bind, bin, Res.then, SRes.bind, toSls, toSl, Option.map]
  rfl
theorem keeps5 : Keeps B C 24 (appSs m1tk5 m1cl5) := keeps_seg fun s t => ⟨_, _, _, tk5 s t, allI_ok (allI_ok chk5 (tkV_lo (by decide)) (tkV_hi (by decide))) (tkV_lo (by decide)) (tkV_hi (by decide))⟩
theorem tk4 (s t : Int) : exSs B C m1tk4 (stE 24 s t) = .next (over (E1 16 (tkV s t 6)) (bSt (tkS s 6) (tkT s t))) := by
  simp only [m1tk4, exSs, exS, sCons, sSet, sNil, stE, tkc l6, Res.bind, Option.bind, Res.then, SRes.bind, toSl, Option.map]
  rfl
theorem keeps4 : Keeps B C 24 (appSs m1tk4 m1cl4) := keeps_seg fun s t => ⟨_, _, _, tk4 s t, allI_ok chk4 (tkV_lo (by decide)) (tkV_hi (by decide))⟩
end K00

set_option maxHeartbeats 0
namespace K00
open PySem Ev
def E6 (x y z : Int) : Ev.Env := put (nos 26) 22 (.sh false (.tup [.int x, .int y, .int z]))
theorem chk6 : allI 4 (fun x => allI 4 fun y => allI 4 fun z => okN 26 (exSs B C m1cl6 (E6 x y z))) = true := by decide +kernel
def take4 : E := .call 19 (.cons (.var 1) (.cons (.int 4) .nil))
theorem body6 (x : Val) (s t : Int) : compBody (.one 24) (evC B C .no) (evR B C take4) x (stE 24 s t) = .ok (some (.int (tkV s t 4))) (stE 24 (tkS s 4) (tkT s t)) := by
  have e : tgt (.one 24) x (stE 24 s t) = some (.no :: .ow false [.int s, .int t] :: put (nos 24) 22 (.sh false x)) := rfl
  have e2 : evR B C take4 (.no :: .ow false [.int s, .int t] :: put (nos 24) 22 (.sh false x)) = _ := tkc l4
  simp only [compBody, e, evC, tNo, Res.bind, if_true, e2, frz]
  rfl
theorem comp6 (s t : Int) : ∃ x y z s' t', (0 ≤ x ∧ x < 4) ∧ (0 ≤ y ∧ y < 4) ∧ (0 ≤ z ∧ z < 4) ∧ evR B C (.comp take4 (.one 24) (.rng (.cons (.int 3) .nil)) .no) (stE 24 s t) = .ok (.fresh [.int x, .int y, .int z]) (stE 24 s' t') := by
  have b : ∀ s t, 0 ≤ tkV s t 4 ∧ tkV s t 4 < 4 := fun s t => ⟨tkV_lo (by decide), tkV_hi (by decide)⟩
  refine ⟨tkV s t 4, tkV (tkS s 4) (tkT s t) 4, tkV (tkS (tkS s 4) 4) (tkT (tkS s 4) (tkT s t)) 4, tkS (tkS (tkS s 4) 4) 4, tkT (tkS (tkS s 4) 4) (tkT (tkS s 4) (tkT s t)), b _ _, b _ _, b _ _, ?_⟩
  rw [evR_comp]
  have e1 : evI B C (.rng (.cons (.int 3) .nil)) (stE 24 s t) = .ok (.val .non, [.int 0, .int 1, .int 2]) (stE 24 s t) := rfl
  have e2 : inB (tgs (.one 24)) (stE 24 s t) = true := rfl
  have e3 : wipes (tgs (.one 24)) (lockR (.val .non) (stE 24 s t)) = stE 24 s t := rfl
  simp only [cComp, e1, Res.bind, e2, if_true, e3, compLoop, body6, Res.held]
  rfl
theorem tk6 (s t : Int) : ∃ x y z s' t', (0 ≤ x ∧ x < 4) ∧ (0 ≤ y ∧ y < 4) ∧ (0 ≤ z ∧ z < 4) ∧ exSs B C m1tk6 (stE 24 s t) = .next (over (E6 x y z) (bSt s' t')) := by
  obtain ⟨x, y, z, s', t', a1, a2, a3, e⟩ := comp6 s t
  refine ⟨x, y, z, s', t', a1, a2, a3, ?_⟩
  have e' : evR B C (.comp (.call 19 (.cons (.var 1) (.cons (.int 4) .nil))) (.one 24) (.rng (.cons (.int 3) .nil)) .no) (stE 24 s t) = .ok (.fresh [.int x, .int y, .int z]) (stE 24 s' t') := e
  simp only [m1tk6, exSs, exS, sCons, sSet, sNil, evR_bfn, evL, lCons, lNil, cL, e', Res.bind, Res.then, ofO, peek, peeks, Option.bind, Option.map, bfn, seqOf, SRes.bind, toSl]
  rfl
theorem keeps6 : Keeps B C 24 (appSs m1tk6 m1cl6) := keeps_seg fun s t => by
  obtain ⟨x, y, z, s', t', a1, a2, a3, e⟩ := tk6 s t
  exact ⟨s', t', _, e, allI_ok (allI_ok (allI_ok chk6 a1.1 a1.2) a2.1 a2.2) a3.1 a3.2⟩
end K00

set_option maxHeartbeats 0
namespace K00
open PySem Ev
theorem told2 {call : Call} {x y w : Val} {j : Nat} {os : List Sl} (hj : B j = some [false, false]) (h : call j [.sh false x, .sh false y] = .ok (.val w) os) :
    exSs B call d21.body [.sh false (.fn j), .sh false (.tup [x, y]), .no] = .ret (.val (.tup [.str (Str.ofString "told"), w])) [.sh false (.fn j), .sh false (.tup [x, y]), .no] := by
  simp [d21, exSs, exS, sCons, sIf, tYes, evR, evL, evVs, evA, cTup, vCons, vNil, c2, c1, cL, cVar, cVal, Ev.get, Ev.put, Res.bind, Res.then, SRes.bind, ofO, peek, peeks, bfn, seqOf, len, cmpR, cmp, shaped, Ev.plain, Ev.depth, veq, index, at_, place, nth, cCallv, cCallj, cCall, hj, aCons, lend, frz, callIt, binds, outs, h, outs_v1, outs_v2, outs_v3, lNil, lCons, sNil, sRet, retR, SRes.held, line, noLent]
theorem told1 {call : Call} {x w : Val} {j : Nat} {os : List Sl} (hj : B j = some [false]) (h : call j [.sh false x] = .ok (.val w) os) :
    exSs B call d21.body [.sh false (.fn j), .sh false (.tup [x]), .no] = .ret (.val (.tup [.str (Str.ofString "told"), w])) [.sh false (.fn j), .sh false (.tup [x]), .no] := by
  simp [d21, exSs, exS, sCons, sIf, tYes, evR, evL, evVs, evA, cTup, vCons, vNil, c2, c1, cL, cVar, cVal, Ev.get, Ev.put, Res.bind, Res.then, SRes.bind, ofO, peek, peeks, bfn, seqOf, len, cmpR, cmp, shaped, Ev.plain, Ev.depth, veq, index, at_, place, nth, cCallv, cCallj, cCall, hj, aCons, lend, frz, callIt, binds, outs, h, outs_v1, outs_v2, outs_v3, lNil, lCons, sNil, sRet, retR, SRes.held, line, noLent]
theorem same_int {call : Call} (i : Int) : exSs B call d20.body [.sh false (.int i), .sh false (.int i), .no] = .ret (.val (.bl true)) [.sh false (.int i), .sh false (.int i), .no] := by
  simp [d20, exSs, exS, sCons, sIf, tYes, evR, evL, evVs, evA, cTup, vCons, vNil, c2, c1, cL, cVar, cVal, Ev.get, Ev.put, Res.bind, Res.then, SRes.bind, ofO, peek, peeks, bfn, seqOf, len, cmpR, cmp, shaped, Ev.plain, Ev.depth, veq, isTys, isTy, cBl, cBop, cNot, evBop, aCons, lend, frz, callIt, binds, outs, outs_v1, outs_v2, outs_v3, lNil, lCons, sNil, sRet, retR]
end K00

set_option maxHeartbeats 0
namespace K00
open PySem Ev
theorem run_def {k j : Nat} {d : Def} {args : List Sl} (hj : tab T j = some d) (hl : len args = d.np) : run T (k + 1) j args = endC d.np (exSs B (run T k) d.body (args ++ nos (d.ns - d.np))) := by
  show (match tab T j with
    | none => CRes.stuck
    | some d => if len args = d.np then endC d.np (exSs (borsOf T) (run T k) d.body (args ++ nos (d.ns - d.np))) else .stuck) = _
  rw [hj]
  exact if_pos hl
theorem d20_eq : tab T 20 = some d20 := rfl
theorem d21_eq : tab T 21 = some d21 := rfl
theorem d22_eq : tab T 22 = some d22 := rfl
theorem d23_eq : tab T 23 = some d23 := rfl
theorem B20 : B 20 = some [false, false] := rfl
theorem B21 : B 21 = some [false, false] := rfl
theorem B22 : B 22 = some [false, false] := rfl
theorem B23 : B 23 = some [false, false, false] := rfl
theorem run_same {k : Nat} (i : Int) : run T (k + 1) 20 [.sh false (.int i), .sh false (.int i)] = .ok (.val (.bl true)) [.no, .no] := by
  rw [run_def d20_eq rfl]
  show endC 2 (exSs B (run T k) d20.body [.sh false (.int i), .sh false (.int i), .no]) = _
  rw [same_int]
  rfl
theorem told_str : veq (.str (Str.ofString "told")) (.str (Str.ofString "told")) = true := by decide +kernel
theorem told_sh : shaped (.str (Str.ofString "told")) = true := by decide +kernel
theorem run_is_told {k : Nat} (i : Int) : run T (k + 2) 22 [.sh false (.tup [.str (Str.ofString "told"), .int i]), .sh false (.int i)] = .ok (.val (.bl true)) [.no, .no] := by
  rw [run_def d22_eq rfl]
  show endC 2 (exSs B (run T (k + 1)) d22.body [.sh false (.tup [.str (Str.ofString "told"), .int i]), .sh false (.int i)]) = _
  simp [d22, exSs, exS, sCons, evR, evL, evA, c2, cL, cVar, cVal, Ev.get, Ev.put, Res.bind, Res.then, SRes.bind, ofO, peek, peeks, bfn, seqOf, len, cmpR, cmp, told_str, told_sh, index, at_, place, nth, cCallj, cCall, B20, aCons, lend, frz, callIt, binds, outs_v1, outs_v2, run_same, lNil, lCons, sNil, sRet, retR, evBop, cBop, cBl, tYes, endC, takeSl]
theorem run_told2 {k j : Nat} {x y w : Val} {os : List Sl} (hj : B j = some [false, false]) (h : run T k j [.sh false x, .sh false y] = .ok (.val w) os) :
    run T (k + 1) 21 [.sh false (.fn j), .sh false (.tup [x, y])] = .ok (.val (.tup [.str (Str.ofString "told"), w])) [.no, .no] := by
  rw [run_def d21_eq rfl]
  show endC 2 (exSs B (run T k) d21.body [.sh false (.fn j), .sh false (.tup [x, y]), .no]) = _
  rw [told2 hj h]
  rfl
theorem run_tells2 {k j : Nat} {x y : Val} {i : Int} {os : List Sl} (hj : B j = some [false, false]) (h : run T (k + 1) j [.sh false x, .sh false y] = .ok (.val (.int i)) os) :
    run T (k + 3) 23 [.sh false (.fn j), .sh false (.tup [x, y]), .sh false (.int i)] = .ok (.val (.bl true)) [.no, .no, .no] := by
  rw [run_def d23_eq rfl]
  show endC 3 (exSs B (run T (k + 2)) d23.body [.sh false (.fn j), .sh false (.tup [x, y]), .sh false (.int i)]) = _
  simp [d23, exSs, exS, sCons, evR, evL, evA, cVar, cVal, Ev.get, Ev.put, Res.bind, Res.then, SRes.bind, ofO, peek, peeks, cCallj, cCall, B21, B22, aCons, lend, frz, callIt, binds, outs_v1, outs_v2, run_told2 hj h, run_is_told, lNil, lCons, sNil, sRet, retR, endC, takeSl]
end K00

set_option maxHeartbeats 0
namespace K00
open PySem Ev
/-! the greatest common divisor -/
theorem abs_int (i : Int) : (if i < 0 then -i else i) = (i.natAbs : Int) := by split <;> omega
theorem while_gcd {call : Call} : ∀ (n : Nat) (x y : Nat), y < n → whileLoop (tYes (evR B call (.cmp .gt (.var 1) (.int 0)))) (exSs B call (.cons (.par [0, 1] (.cons (.var 1) (.cons (.bin .mod (.var 0) (.var 1)) .nil))) .nil)) n [.sh false (.int x), .sh false (.int y)] = .next [.sh false (.int (Nat.gcd x y)), .sh false (.int (0 : Nat))]
  | n + 1, x, y, h => by
    have e1 : tYes (evR B call (.cmp .gt (.var 1) (.int 0))) [.sh false (.int x), .sh false (.int y)] = .ok (decide ((0 : Int) < y)) [.sh false (.int x), .sh false (.int y)] := rfl
    simp only [whileLoop, e1, Res.then]
    cases y with
    | zero =>
      rw [Nat.gcd_zero_right]
      rfl
    | succ y =>
      have hp : (0 : Int) < ((y + 1 : Nat) : Int) := by omega
      rw [decide_eq_true hp, if_pos rfl]
      have e2 : exSs B call (.cons (.par [0, 1] (.cons (.var 1) (.cons (.bin .mod (.var 0) (.var 1)) .nil))) .nil) [.sh false (.int x), .sh false (.int (y + 1 : Nat))] = .next [.sh false (.int (y + 1 : Nat)), .sh false (.int ((x % (y + 1) : Nat)))] := by
        simp only [exSs, exS, sCons, sPar, sNil, evL, lCons, lNil, evR, cVar, c2, Ev.get, Res.bind, ofO, peek, Option.bind, bin, if_pos hp, Res.then, toSls, toSl, Option.map, stoSls, sto, Ev.put, ofE, SRes.bind, Int.natCast_emod]
      rw [e2]
      show whileLoop _ _ n _ = _
      rw [while_gcd n (y + 1) (x % (y + 1)) (by have q : x % (y + 1) < y + 1 := Nat.mod_lt x (Nat.succ_pos y); omega), Nat.gcd_comm (y + 1), ← Nat.gcd_rec, Nat.gcd_comm]
theorem d3_eq : tab T 3 = some d3 := rfl
theorem d4_eq : tab T 4 = some d4 := rfl
theorem B3 : B 3 = some [false, false] := rfl
theorem B4 : B 4 = some [false, false] := rfl
theorem B5 : B 5 = some [false] := rfl
theorem run_common {k : Nat} {a b : Int} (hb : b.natAbs < 1000) : run T (k + 1) 3 [.sh false (.int a), .sh false (.int b)] = .ok (.val (.int (Nat.gcd a.natAbs b.natAbs))) [.no, .no] := by
  rw [run_def d3_eq rfl]
  show endC 2 (exSs B (run T k) d3.body [.sh false (.int a), .sh false (.int b)]) = _
  have e := while_gcd (call := run T k) wfuel a.natAbs b.natAbs (by show _ < 1000000; omega)
  simp only [d3, exSs, exS, sCons, sPar, sWhile, sNil, evL, lCons, lNil, evR_bfn, evR_var, cL, cVar, Ev.get, Res.bind, ofO, peek, peeks, Option.bind, Option.map, bfn, abs_int, Res.then, toSls, toSl, stoSls, sto, Ev.put, ofE, SRes.bind]
  simp only [exSs, exS, sCons, sPar, sNil, evL, lCons, lNil, evR_bfn, evR_var, cL] at e
  rw [e]
  rfl
end K00

set_option maxHeartbeats 0
namespace K00
open PySem Ev
def F (a b : Int) (g : Sl) : Ev.Env := .no :: .no :: .no :: .no :: .no :: .sh false (.int a) :: .sh false (.int b) :: g :: nos 18
theorem E2_F (a b : Int) : E2 5 6 a b = F a b .no := rfl
def c1q (a b k : Int) : Option Int := if 0 < k ∧ a % k = 0 ∧ b % k = 0 then some k else none
def c1E : E := .bop true (.cons (.cmp .gt (.var 9) (.int 0)) (.cons (.cmp .eq (.bin .mod (.bfn .int (.cons (.var 5) .nil)) (.var 9)) (.int 0)) (.cons (.cmp .eq (.bin .mod (.bfn .int (.cons (.var 6) .nil)) (.var 9)) (.int 0)) .nil)))
theorem body1 (a b k : Int) : compBody (.one 9) (evC B C (.yes c1E)) (evR B C (.var 9)) (.int k) (F a b .no) = .ok ((c1q a b k).map .int) (F a b .no) := by
  have e : tgt (.one 9) (.int k) (F a b .no) = some (.no :: .no :: .no :: .no :: .no :: .sh false (.int a) :: .sh false (.int b) :: .no :: .no :: .sh false (.int k) :: nos 16) := rfl
  simp only [compBody, e]
  by_cases h0 : 0 < k
  · by_cases h1 : a % k = 0
    · by_cases h2 : b % k = 0
      · simp [c1q, c1E, evC, tYes, evR, evL, evBop, cBop, cBl, c2, cL, cVar, cVal, Ev.get, Ev.put, wipes, tgs, Res.bind, ofO, peek, peeks, bfn, bin, cmpR, cmp, shaped, Ev.plain, Ev.depth, veq, lNil, lCons, frz, h0, h1, h2, F, nos]
      · simp [c1q, c1E, evC, tYes, evR, evL, evBop, cBop, cBl, c2, cL, cVar, cVal, Ev.get, Ev.put, wipes, tgs, Res.bind, ofO, peek, peeks, bfn, bin, cmpR, cmp, shaped, Ev.plain, Ev.depth, veq, lNil, lCons, frz, h0, h1, h2, F, nos]
    · simp [c1q, c1E, evC, tYes, evR, evL, evBop, cBop, cBl, c2, cL, cVar, cVal, Ev.get, Ev.put, wipes, tgs, Res.bind, ofO, peek, peeks, bfn, bin, cmpR, cmp, shaped, Ev.plain, Ev.depth, veq, lNil, lCons, frz, h0, h1, F, nos]
  · simp [c1q, c1E, evC, tYes, evR, evL, evBop, cBop, cBl, c2, cL, cVar, cVal, Ev.get, Ev.put, wipes, tgs, Res.bind, ofO, peek, peeks, bfn, bin, cmpR, cmp, shaped, Ev.plain, Ev.depth, veq, lNil, lCons, frz, h0, F, nos]
theorem comp1 (a b : Int) : evR B C (.comp (.var 9) (.one 9) (.rng (.cons (.int 61) .nil)) (.yes c1E)) (F a b .no) = .ok (.fresh (((irange 61 0).filterMap (c1q a b)).map .int)) (F a b .no) := by
  rw [evR_comp]
  exact cComp_fm rfl rfl (by decide) rfl fun k _ _ => body1 a b k
theorem dvd_natAbs {a k : Int} (hk : 0 < k) : a % k = 0 ↔ k.natAbs ∣ a.natAbs := by
  rw [← Int.dvd_iff_emod_eq_zero, Int.natAbs_dvd_natAbs]
theorem max1 {a b : Int} (ha : a.natAbs ≤ 60) (hb : b.natAbs ≤ 60) (h : a ≠ 0 ∨ b ≠ 0) : bfn .max [.lst (((irange 61 0).filterMap (c1q a b) ++ [0]).map .int)] = some (.val (.int (Nat.gcd a.natAbs b.natAbs))) := by
  have hg : 0 < Nat.gcd a.natAbs b.natAbs := by
    rcases h with h | h
    · exact Nat.gcd_pos_of_pos_left _ (by omega)
    · exact Nat.gcd_pos_of_pos_right _ (by omega)
  have hl : Nat.gcd a.natAbs b.natAbs ≤ 60 := by
    rcases h with h | h
    · exact Nat.le_trans (Nat.le_of_dvd (by omega) (Nat.gcd_dvd_left _ _)) ha
    · exact Nat.le_trans (Nat.le_of_dvd (by omega) (Nat.gcd_dvd_right _ _)) hb
  refine bfn_max (List.mem_append.mpr (.inl (List.mem_filterMap.mpr ⟨(Nat.gcd a.natAbs b.natAbs : Int), mem_irange.mpr ⟨by omega, by omega⟩, ?_⟩))) fun x hx => ?_
  · refine if_pos ⟨by omega, (dvd_natAbs (by omega)).mpr ?_, (dvd_natAbs (by omega)).mpr ?_⟩
    · exact Nat.gcd_dvd_left _ _
    · exact Nat.gcd_dvd_right _ _
  · rcases List.mem_append.mp hx with hx | hx
    · obtain ⟨k, _, e⟩ := List.mem_filterMap.mp hx
      unfold c1q at e
      split at e
      · rename_i q
        cases e
        have d := Nat.dvd_gcd ((dvd_natAbs q.1).mp q.2.1) ((dvd_natAbs q.1).mp q.2.2)
        have := Nat.le_of_dvd hg d
        omega
      · cases e
    · rw [List.mem_singleton.mp hx]
      omega
end K00

set_option maxHeartbeats 0
namespace K00
open PySem Ev
def gE (a b : Int) : Int := (Nat.gcd a.natAbs b.natAbs : Nat)
def z1 : S := .set 7 (.ite (.bop false (.cons (.cmp .ne (.var 5) (.int 0)) (.cons (.cmp .ne (.var 6) (.int 0)) .nil))) (.bfn .max (.cons (.bin .add (.comp (.var 9) (.one 9) (.rng (.cons (.int 61) .nil)) (.yes c1E)) (.lst (.cons (.int 0) .nil))) .nil)) (.int 0))
def cF (j : Nat) (g x : E) : E := .not_ (.call 23 (.cons (.fn j) (.cons g (.cons x .nil))))
def two : E := .tup (.cons (.var 5) (.cons (.var 6) .nil))
def z2 : S := .ife (cF 3 two (.var 7)) (.cons (.ret (.bl false)) .nil) .nil
def z3 : S := .par [5, 6] (.cons (.bin .add (.bfn .abs (.cons (.var 5) .nil)) (.int 1)) (.cons (.bin .add (.bfn .abs (.cons (.var 6) .nil)) (.int 1)) .nil))
def c2E : E := .cmp .eq (.bin .mod (.bfn .int (.cons (.bin .mul (.var 9) (.var 5)) .nil)) (.var 6)) (.int 0)
def comp2E : E := .comp (.bin .mul (.var 9) (.var 5)) (.one 9) (.rng (.cons (.int 1) (.cons (.bin .add (.var 6) (.int 1)) .nil))) (.yes c2E)
def dE : E := .not_ (.call 23 (.cons (.fn 5) (.cons (.tup (.cons (.var 5) .nil)) (.cons (.bfn .tuple (.cons (.comp (.var 9) (.one 9) (.rng (.cons (.int 1) (.cons (.bin .add (.var 5) (.int 1)) .nil))) (.yes (.cmp .eq (.bin .mod (.bfn .int (.cons (.var 5) .nil)) (.var 9)) (.int 0)))) .nil)) .nil))))
def z4 : S := .ife (.bop false (.cons (cF 4 two (.bfn .min (.cons comp2E .nil))) (.cons dE .nil))) (.cons (.ret (.bl false)) .nil) .nil
theorem m1cl0_eq : m1cl0 = .cons z1 (.cons z2 (.cons z3 (.cons z4 .nil))) := rfl
theorem s1 {a b : Int} (ha : a.natAbs ≤ 60) (hb : b.natAbs ≤ 60) : exS B C z1 (F a b .no) = .next (F a b (.sh false (.int (gE a b)))) := by
  have e1 : tYes (evR B C (.bop false (.cons (.cmp .ne (.var 5) (.int 0)) (.cons (.cmp .ne (.var 6) (.int 0)) .nil)))) (F a b .no) = .ok (decide (a ≠ 0 ∨ b ≠ 0)) (F a b .no) := by
    by_cases h1 : a = 0
    · by_cases h2 : b = 0
      · simp [tYes, evR, evBop, cBop, cBl, c2, cVar, cVal, Ev.get, Res.bind, ofO, peek, cmpR, cmp, shaped, Ev.plain, Ev.depth, veq, h1, h2, F]
      · simp [tYes, evR, evBop, cBop, cBl, c2, cVar, cVal, Ev.get, Res.bind, ofO, peek, cmpR, cmp, shaped, Ev.plain, Ev.depth, veq, h1, h2, F]
    · simp [tYes, evR, evBop, cBop, cBl, c2, cVar, cVal, Ev.get, Res.bind, ofO, peek, cmpR, cmp, shaped, Ev.plain, Ev.depth, veq, h1, F]
  have e2 : evR B C (.ite (.bop false (.cons (.cmp .ne (.var 5) (.int 0)) (.cons (.cmp .ne (.var 6) (.int 0)) .nil))) (.bfn .max (.cons (.bin .add (.comp (.var 9) (.one 9) (.rng (.cons (.int 61) .nil)) (.yes c1E)) (.lst (.cons (.int 0) .nil))) .nil)) (.int 0)) (F a b .no) = .ok (.val (.int (gE a b))) (F a b .no) := by
    show cIte (evR B C (.bop false (.cons (.cmp .ne (.var 5) (.int 0)) (.cons (.cmp .ne (.var 6) (.int 0)) .nil)))) (evR B C (.bfn .max (.cons (.bin .add (.comp (.var 9) (.one 9) (.rng (.cons (.int 61) .nil)) (.yes c1E)) (.lst (.cons (.int 0) .nil))) .nil))) (evR B C (.int 0)) (F a b .no) = _
    simp only [cIte, e1, Res.bind]
    by_cases h : a ≠ 0 ∨ b ≠ 0
    · rw [decide_eq_true h, if_pos rfl]
      have e3 : evR B C (.bin .add (.comp (.var 9) (.one 9) (.rng (.cons (.int 61) .nil)) (.yes c1E)) (.lst (.cons (.int 0) .nil))) (F a b .no) = .ok (.fresh (((irange 61 0).filterMap (c1q a b) ++ [0]).map .int)) (F a b .no) := by
        have l1 : len (((irange 61 0).filterMap (c1q a b)).map Val.int) + len [Val.int 0] ≤ line := by
          rw [len_eq, List.length_map]
          have := List.length_filterMap_le (c1q a b) (irange 61 0)
          rw [irange_len] at this
          show _ + 1 ≤ 1000000
          omega
        have l2 : evR B C (.lst (.cons (.int 0) .nil)) (F a b .no) = .ok (.fresh [.int 0]) (F a b .no) := rfl
        simp only [evR_bin, c2, comp1, l2, Res.bind, peek, Option.bind, bin, if_pos l1, ofO, List.map_append, List.map_cons, List.map_nil]
      simp only [evR_bfn, cL, evL, lCons, lNil, e3, Res.bind, peeks, peek, Option.bind, Option.map, max1 ha hb h, ofO]
      rfl
    · rw [decide_eq_false h, if_neg (by decide)]
      have h1 : a = 0 := by omega
      have h2 : b = 0 := by omega
      subst h1 h2
      rfl
  show sSet 7 (evR B C _) (F a b .no) = _
  simp only [sSet, e2, Res.then, toSl, Option.bind]
  rfl
theorem s2 {a b : Int} (hb : b.natAbs ≤ 60) : exS B C z2 (F a b (.sh false (.int (gE a b)))) = .next (F a b (.sh false (.int (gE a b)))) := by
  have e : C 23 [.sh false (.fn 3), .sh false (.tup [.int a, .int b]), .sh false (.int (gE a b))] = .ok (.val (.bl true)) [.no, .no, .no] := run_tells2 (k := 36) B3 (run_common (k := 36) (by omega))
  simp [z2, cF, two, exS, exSs, sIf, tYes, evR, evA, evVs, cTup, vCons, vNil, cNot, cCallj, cCall, B23, aCons, lend, frz, callIt, binds, outs_v3, e, cVar, cVal, Ev.get, Res.bind, Res.then, lNil, lCons, sNil, F, len, line]
theorem s3 {a b : Int} {g : Sl} : exS B C z3 (F a b g) = .next (F (a.natAbs + 1) (b.natAbs + 1) g) := by
  simp [z3, exS, sPar, evL, evR, lNil, lCons, c2, cL, cVar, cVal, Ev.get, Ev.put, Res.bind, Res.then, ofO, peek, peeks, bfn, bin, abs_int, toSls, toSl, stoSls, sto, ofE, F]
end K00

set_option maxHeartbeats 0
namespace K00
open PySem Ev
def c2q (a b k : Int) : Option Int := if (k * a) % b = 0 then some (k * a) else none
theorem body2 {a b k : Int} {g : Val} (hb : 0 < b) (hk : k.natAbs < 2 ^ 64) : compBody (.one 9) (evC B C (.yes c2E)) (evR B C (.bin .mul (.var 9) (.var 5))) (.int k) (F a b (.sh false g)) = .ok ((c2q a b k).map .int) (F a b (.sh false g)) := by
  have e : tgt (.one 9) (.int k) (F a b (.sh false g)) = some (.no :: .no :: .no :: .no :: .no :: .sh false (.int a) :: .sh false (.int b) :: .sh false g :: .no :: .sh false (.int k) :: nos 16) := rfl
  have hm : mulOk k a = true := by
    show (decide (k.natAbs < 2 ^ 64) || _) = true
    rw [decide_eq_true hk]
    rfl
  simp only [compBody, e]
  by_cases h2 : (k * a) % b = 0
  · simp [c2q, c2E, evC, tYes, evR, evL, c2, cL, cVar, cVal, Ev.get, Ev.put, wipes, tgs, Res.bind, ofO, peek, peeks, bfn, bin, cmpR, cmp, shaped, Ev.plain, Ev.depth, veq, lNil, lCons, frz, hb, hm, h2, F, nos]
  · simp [c2q, c2E, evC, tYes, evR, evL, c2, cL, cVar, cVal, Ev.get, Ev.put, wipes, tgs, Res.bind, ofO, peek, peeks, bfn, bin, cmpR, cmp, shaped, Ev.plain, Ev.depth, veq, lNil, lCons, frz, hb, hm, h2, F, nos]
theorem comp2 {a b : Int} {g : Val} (hb : 0 < b) (hl : b ≤ 61) : evR B C comp2E (F a b (.sh false g)) = .ok (.fresh (((irange b.toNat 1).filterMap (c2q a b)).map .int)) (F a b (.sh false g)) := by
  show evR B C (.comp (.bin .mul (.var 9) (.var 5)) (.one 9) (.rng (.cons (.int 1) (.cons (.bin .add (.var 6) (.int 1)) .nil))) (.yes c2E)) (F a b (.sh false g)) = _
  rw [evR_comp]
  refine cComp_fm rfl rfl (by show _ ≤ 1000000; omega) ?_ fun k h1 h2 => body2 hb (by omega)
  have e1 : evR B C (.bin .add (.var 6) (.int 1)) (F a b (.sh false g)) = .ok (.val (.int (b + 1))) (F a b (.sh false g)) := rfl
  have e2 : rangeOf [.int 1, .int (b + 1)] = some (range1 b.toNat 1) := by
    have s1 : smallR 1 = true := by decide
    have s2 : smallR (b + 1) = true := decide_eq_true (by omega)
    have s3 : b + 1 - 1 = b := by omega
    simp only [rangeOf, s1, s2, s3, Bool.and_self, if_true]
  simp only [evI, iRng, evVs, vCons, vNil, evR_int, cVal, e1, Res.bind, frz, e2, ofO, Option.map]
theorem min2 {a b : Int} (ha : 0 < a) (hb : 0 < b) : bfn .min [.lst (((irange b.toNat 1).filterMap (c2q a b)).map .int)] = some (.val (.int (a / gE a b * b))) := by
  obtain ⟨x, rfl⟩ := Int.eq_ofNat_of_zero_le (Int.le_of_lt ha)
  obtain ⟨y, rfl⟩ := Int.eq_ofNat_of_zero_le (Int.le_of_lt hb)
  have hx : 0 < x := by omega
  have hy : 0 < y := by omega
  have hg : 0 < Nat.gcd x y := Nat.gcd_pos_of_pos_left _ hx
  obtain ⟨p, hp⟩ := Nat.gcd_dvd_left x y
  obtain ⟨q, hq⟩ := Nat.gcd_dvd_right x y
  have e1 : ((x : Int) / gE x y * y) = ((x / Nat.gcd x y * y : Nat) : Int) := by
    show ((x : Int) / (Nat.gcd x y : Nat) * y) = _
    rw [Int.natCast_mul, Int.natCast_ediv]
  have e2 : x / Nat.gcd x y = p := Nat.div_eq_of_eq_mul_right hg hp
  have e3 : y / Nat.gcd x y = q := Nat.div_eq_of_eq_mul_right hg hq
  have hq0 : 0 < q := Nat.pos_of_ne_zero fun z => by rw [z, Nat.mul_zero] at hq; omega
  have hqy : q ≤ y := by
    rw [hq]
    exact Nat.le_mul_of_pos_left _ hg
  have e4 : p * y = q * x := by
    have : p * (Nat.gcd x y * q) = q * (Nat.gcd x y * p) := by
      rw [Nat.mul_left_comm, Nat.mul_left_comm q, Nat.mul_comm p q]
    rw [← hp, ← hq] at this
    exact this
  rw [e1, e2]
  refine bfn_min (List.mem_filterMap.mpr ⟨(q : Int), mem_irange.mpr ⟨by omega, by omega⟩, ?_⟩) fun z hz => ?_
  · have e5 : ((q : Int) * (x : Int)) = ((p * y : Nat) : Int) := by rw [e4, Int.natCast_mul]
    show (if ((q : Int) * x) % y = 0 then some ((q : Int) * x) else none) = _
    rw [e5, if_pos]
    rw [Int.natCast_mul]
    exact Int.mul_emod_left _ _
  · obtain ⟨k, hk, e⟩ := List.mem_filterMap.mp hz
    have hk1 := (mem_irange.mp hk).1
    obtain ⟨k, rfl⟩ := Int.eq_ofNat_of_zero_le (show 0 ≤ k by omega)
    unfold c2q at e
    split at e
    · rename_i h
      cases e
      have d : y ∣ k * x := by
        have := Int.dvd_of_emod_eq_zero h
        rw [← Int.natCast_mul] at this
        exact Int.natCast_dvd_natCast.mp this
      have d2 : q ∣ k := by
        have c : Nat.Coprime q p := by
          have := Nat.coprime_div_gcd_div_gcd (m := x) (n := y) hg
          rw [e2, e3] at this
          exact this.symm
        have d3 : q ∣ k * p := by
          refine Nat.dvd_of_mul_dvd_mul_left hg ?_
          rw [← hq, Nat.mul_left_comm, ← hp]
          exact d
        exact c.dvd_of_dvd_mul_right d3
      have hqk : q ≤ k := Nat.le_of_dvd (by omega) d2
      rw [e4]
      have : q * x ≤ k * x := Nat.mul_le_mul_right _ hqk
      rw [← Int.natCast_mul]
      exact Int.ofNat_le.mpr this
    · cases e
theorem run_least {k : Nat} {a b : Int} (ha : 0 < a) (hal : a ≤ 61) (hb : 0 < b) (hl : b ≤ 61) : run T (k + 2) 4 [.sh false (.int a), .sh false (.int b)] = .ok (.val (.int (a / gE a b * b))) [.no, .no] := by
  rw [run_def d4_eq rfl]
  show endC 2 (exSs B (run T (k + 1)) d4.body [.sh false (.int a), .sh false (.int b)]) = _
  have e : run T (k + 1) 3 [.sh false (.int a), .sh false (.int b)] = .ok (.val (.int (gE a b))) [.no, .no] := run_common (by omega)
  have h1 : divOk (gE a b) = true := by
    have h2 : 0 < Nat.gcd a.natAbs b.natAbs := Nat.gcd_pos_of_pos_left _ (by omega)
    have h3 : Nat.gcd a.natAbs b.natAbs ≤ a.natAbs := Nat.le_of_dvd (by omega) (Nat.gcd_dvd_left _ _)
    unfold divOk gE
    rw [decide_eq_true (by omega), decide_eq_true (by omega)]
    rfl
  have h2 : ∀ x, mulOk x b = true := fun x => by
    have : small b = true := decide_eq_true (by omega)
    simp only [mulOk, this, Bool.or_true]
  simp [d4, exSs, exS, sCons, evR, evA, c2, cVar, cVal, Ev.get, Ev.put, Res.bind, Res.then, SRes.bind, ofO, peek, bin, h1, h2, cCallj, cCall, B3, aCons, lend, frz, callIt, binds, outs_v2, e, lNil, lCons, sNil, sRet, retR, endC, takeSl]
end K00

set_option maxHeartbeats 0
namespace K00
open PySem Ev
theorem all_over : ∀ {e : Ev.Env} {β : Nat → Sl}, e.all un = true → (∀ i, un (β i) = true) → (over e β).all un = true
  | [], _, _, _ => rfl
  | s :: r, β, h, u => by
    have h : (un s && r.all un) = true := h
    obtain ⟨a, b⟩ := Bool.and_eq_true_iff.mp h
    show (un (ov1 s (β 0)) && (over r fun i => β (i + 1)).all un) = true
    rw [all_over b fun i => u (i + 1), Bool.and_true]
    cases s with
    | no => exact u 0
    | _ => exact a
theorem okN_over {n : Nat} {ρ : Ev.Env} {β : Nat → Sl} (h : okN n (.next ρ) = true) (hn : 1 < n) (u : ∀ i, un (β i) = true) (b : β 1 = .no) : okN n (.next (over ρ β)) = true := by
  have h : ((ρ.length == n) && ρ.all un && (match Ev.get ρ 1 with | .no => true | _ => false)) = true := h
  obtain ⟨h1, h3⟩ := Bool.and_eq_true_iff.mp h
  obtain ⟨h1, h2⟩ := Bool.and_eq_true_iff.mp h1
  have h1 : ρ.length = n := eq_of_beq h1
  have h3 : Ev.get ρ 1 = .no := by
    revert h3
    cases Ev.get ρ 1 <;> intro z <;> first | rfl | cases z
  show (((over ρ β).length == n) && (over ρ β).all un && (match Ev.get (over ρ β) 1 with | .no => true | _ => false)) = true
  rw [over_length, h1, all_over h2 u, over1 (by omega) h3, b, beq_self_eq_true]
  rfl
def okF (x : Res Ev.R) : Bool := match x with
  | .ok (.val (.bl false)) ρ => okN 26 (.next ρ)
  | _ => false
theorem okF_ok {x : Res Ev.R} (h : okF x = true) : ∃ ρ, x = .ok (.val (.bl false)) ρ ∧ okN 26 (.next ρ) = true := by
  match x, h with
  | .ok (.val (.bl false)) ρ, h => exact ⟨ρ, rfl, h⟩
def D (a : Int) : Ev.Env := put (nos 26) 5 (.sh false (.int a))
theorem chkD : allI 61 (fun n => okF (evR B C dE (D (n + 1)))) = true := by decide +kernel
theorem un_F {a b : Int} {g : Val} : ∀ i, un (Ev.get (F a b (.sh false g)) i) = true := fun i => by
  match i with
  | 0 => rfl
  | 1 => rfl
  | 2 => rfl
  | 3 => rfl
  | 4 => rfl
  | 5 => rfl
  | 6 => rfl
  | 7 => rfl
  | i + 8 =>
    show un (Ev.get (nos 18) i) = true
    rw [get_nos]
    rfl
theorem dE_ok {a b : Int} {g : Val} (ha : 0 < a) (hl : a ≤ 61) : ∃ ρ, evR B C dE (F a b (.sh false g)) = .ok (.val (.bl false)) ρ ∧ okN 26 (.next ρ) = true := by
  have h := allI_ok (v := a - 1) chkD (by omega) (by show a - 1 < 61; omega)
  have e0 : a - 1 + 1 = a := by omega
  rw [e0] at h
  obtain ⟨ρ, e, k⟩ := okF_ok h
  have c := comE B C dE (D a) (Ev.get (F a b (.sh false g))) (un_Un un_F)
  rw [e] at c
  exact ⟨_, c, okN_over k (by decide) un_F rfl⟩
theorem s4 {a b : Int} {g : Val} (ha : 0 < a) (hal : a ≤ 61) (hb : 0 < b) (hl : b ≤ 61) : ∃ ρ, exS B C z4 (F a b (.sh false g)) = .next ρ ∧ okN 26 (.next ρ) = true := by
  obtain ⟨ρ, e, k⟩ := dE_ok (b := b) (g := g) ha hal
  refine ⟨ρ, ?_, k⟩
  have e1 : C 23 [.sh false (.fn 4), .sh false (.tup [.int a, .int b]), .sh false (.int (a / gE a b * b))] = .ok (.val (.bl true)) [.no, .no, .no] := run_tells2 (k := 36) B4 (run_least (k := 35) ha hal hb hl)
  have e2 : evR B C (.bfn .min (.cons comp2E .nil)) (F a b (.sh false g)) = .ok (.val (.int (a / gE a b * b))) (F a b (.sh false g)) := by
    simp only [evR_bfn, cL, evL, lCons, lNil, comp2 hb hl, Res.bind, peeks, peek, Option.bind, Option.map, min2 ha hb, ofO]
  have e3 : evR B C (cF 4 two (.bfn .min (.cons comp2E .nil))) (F a b (.sh false g)) = .ok (.val (.bl false)) (F a b (.sh false g)) := by
    have f5 : evR B C (.var 5) (F a b (.sh false g)) = .ok (.val (.int a)) (F a b (.sh false g)) := rfl
    have f6 : evR B C (.var 6) (F a b (.sh false g)) = .ok (.val (.int b)) (F a b (.sh false g)) := rfl
    have f2 : evR B C two (F a b (.sh false g)) = .ok (.val (.tup [.int a, .int b])) (F a b (.sh false g)) := rfl
    have f0 : evR B C (.fn 4) (F a b (.sh false g)) = .ok (.val (.fn 4)) (F a b (.sh false g)) := rfl
    show cNot (cCallj C B 23 fun bs => evA B C (.cons (.fn 4) (.cons two (.cons (.bfn .min (.cons comp2E .nil)) .nil))) bs) (F a b (.sh false g)) = _
    simp only [cNot, tYes, cCallj, cCall, B23, evA, aCons, f0, f2, e2, Res.bind, lend, frz, Option.map, List.drop_succ_cons, List.drop_zero, callIt, binds, outs_v3, e1, lNil, Bool.not_true]
  show sIf (cBop false (evR B C (cF 4 two (.bfn .min (.cons comp2E .nil)))) (cBl (evR B C dE))) (exSs B C (.cons (.ret (.bl false)) .nil)) (exSs B C .nil) (F a b (.sh false g)) = _
  simp only [sIf, tYes, cBop, e3, cBl, e, Res.bind, Res.then, if_true]
  rfl
theorem cl0 {a b : Int} (ha : a.natAbs ≤ 60) (hb : b.natAbs ≤ 60) : okN 26 (exSs B C m1cl0 (E2 5 6 a b)) = true := by
  obtain ⟨ρ, e, k⟩ := s4 (a := a.natAbs + 1) (b := b.natAbs + 1) (g := .int (gE a b)) (by omega) (by omega) (by omega) (by omega)
  rw [m1cl0_eq, E2_F]
  simp only [exSs, sCons, s1 ha hb, s2 hb, s3, e, SRes.bind, sNil]
  exact k
theorem tk0 (s t : Int) : exSs B C m1tk0 (stE 24 s t) = .next (over (E2 5 6 (tkV s t 121 - 60) (tkV (tkS s 121) (tkT s t) 121 - 60)) (bSt (tkS (tkS s 121) 121) (tkT (tkS s 121) (tkT s t)))) := by
  simp only [m1tk0, exSs, exS, sCons, sPar, sNil, stE, evL, lCons, lNil, evR_bin, evR_int, c2, tkc l121, cVal, Res.bind, ofO, peek, Option.bind, bin, Res.then, SRes.bind, toSls, toSl, Option.map]
  rfl
theorem keeps0 : Keeps B C 24 (appSs m1tk0 m1cl0) := keeps_seg fun s t => ⟨_, _, _, tk0 s t, cl0 (by
    have := tkV_lo (s := s) (t := t) (m := 121) (by decide)
    have := tkV_hi (s := s) (t := t) (m := 121) (by decide)
    omega) (by
    have := tkV_lo (s := tkS s 121) (t := tkT s t) (m := 121) (by decide)
    have := tkV_hi (s := tkS s 121) (t := tkT s t) (m := 121) (by decide)
    omega)⟩
theorem keeps_m : Keeps B C 24 (appSs m0 m1) := .app (keeps_closed m0_ok) (keeps_range (by decide) (by decide) (.app keeps0 (.app keeps1 (.app keeps2 (.app keeps3 (.app keeps4 (.app keeps5 keeps6)))))))
theorem law_ok : LawP K00.T 40 31 63 := law_run_of (body := .nil) (k := 38) d31_eq d18_eq keeps_m fin_ok
end K00

set_option maxHeartbeats 0
namespace K00
open PySem PySem.Spec PyProof.Rows L2 Ev
theorem facts (L : LawP T 40 31 63) {P : Program} {w : World} {K : PySem.W.Frag} {h : Heap} {mg : Str → Option Value} {f : Addr} (X : K.In h) (G : h.Ns mainGlobals mg) (hfa : mg ("law" : Str) = some (.ref f)) (c : He.SaysD (fasD rs) (fnsD rs) K) :
    ∃ fd : FuncData, (∀ (s : Shared) (v : Value), BindsTo s fd ⟨[v], []⟩ [("script", v)]) ∧ ∀ base : Heap, K.In base → base.Ns mainGlobals mg → FnOk P w K mg base (L2.CX P w) 40 f fd ["script"] (Ev.spLaw K 63) := by
  have S : Says (domOf K rs) rs mg := says_of X G c bds
  obtain ⟨fd, F⟩ := S.fn 31 r31 rfl
  have e := hfa.symm.trans (S.gl 31 r31 rfl)
  cases e
  have b := FunD.bindsA (ps := ["script"]) F (fun kV doc pm an cdv ct us hu => b31 kV doc pm an cdv ct us hu)
  exact ⟨fd, fun s v => b s [v] rfl, fun base _ _ => Ev.law_ok (k := 39) S chk (d := d31) rfl (r := r31) rfl L F⟩
end K00
open PySem PySem.W PySem.Calls PyProof.Rows
theorem K00.holds (L : Ev.LawP K00.T 40 31 63) : K00.rw.Holds := by
  w_on; o_law
  refine HandSHeadRun.head_any (r := OpenLaw.row K00.rw) (q := view (OpenLaw.row K00.rw).prog [37]) (H := K00.hk) (ob := K00.ob) (M := 4000) (loose := K00.names) (d := HandSHeadRun.topDef (OpenLaw.row K00.rw).prog 37) (kwd := []) K00.ob_eq
    (by kernel_rfl) (fun s => by kernel_rfl) K00.hrun (by kernel_rfl) (by kernel_rfl) (by kernel_rfl) (by rfl) (by first | assumption | decide +kernel) (by decide +kernel) ⟨rfl, rfl, rfl, rfl, rfl, by decide +kernel⟩ ?hw ?hc
  case hw => w_witness2
  case hc =>
    refine Ev.walk_ofW (l := K00.rw) (n := 63) (k := 40) (x := "script") rfl (by decide) (by kernel_rfl) ⟨rfl, by decide, by decide⟩ ?F
    case F =>
      intro w mg fa h Y G hmg0
      obtain ⟨K, KX, c⟩ := Y
      have hmg : mg ("law" : PySem.Str) = some (.ref fa) := by
        have e : (HandSHeadRun.topDef (OpenLaw.row K00.rw).prog 37).name = ("law" : PySem.Str) := by kernel_rfl
        rw [← e]
        exact hmg0
      obtain ⟨fd, hb, hF⟩ := K00.facts L (P := K00.rw.prog) (w := w) KX G hmg c
      exact ⟨K, fd, Ev.spLaw K 63, KX, hb, fun H a ns hl _ hS => ⟨a, ns, rfl, hS, hl, fun _ => rfl⟩, hF⟩


theorem PySem.Challenge.cw_umbraroads_k00_whole_integers_of_rows_holds : PySem.Challenge.rw_umbraroads_k00_whole_integers_of_rows.Holds :=
  K00.holds K00.law_ok
