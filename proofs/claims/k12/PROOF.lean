import PyProof.Rows.All
import Wide.All
import OpenK.AllK
import Wide.FinOn
import HandS.ForMost
import HandS.Exc
import HandS.ExcOwn
import HandS.Property
import HandS.Style
import HandS.Ends
import HandS.TupAny
import HandS.TupMul
import HandS.IsInst
import HandS.SortInts
import PyProof.NeData
import PyProof.Rows.InDataRows
import PyProof.P3In
import HandS.Conv
import HandS.More
import KE.DatumIndex
import HandS.Zip
import HandS.SetFor
import HandS.Strs
import HandS.Star
import HandS.OwnEq
import HandS.Iter
import PyProof.InstEq
import KE.GoesMore
import HandS.List
import KE.KRevSl
import HandS.Comp
import HandS.DictComp
import HandS.Dict
import HandS.Defaults
import HandS.HeadHook1
import HandS.HeadHook2
import HandS.Head0
import HandS.Head1
import HandS.Head2
import HandS.HeadEnd
import KE.KStateDown
import Lean
import HandS.Base
import HandS.Call
import HandS.Words
import HandS.WordsExc
import PySem.Challenge.RW_afterfall_k12_what_is_found
set_option Elab.async false
set_option linter.all false
set_option maxRecDepth 100000
set_option maxHeartbeats 0
/-! L3: a small interpreter over data trees and cells. -/
namespace L3
open PySem

/-- data: trees that never change -/
inductive D where
  | non | bl (b : Bool) | int (i : Int) | str (x : Str)
  | tup (xs : List D) | lst (xs : List D) | dic (kvs : List (D × D)) | set (xs : List D)
  | ins (c : Nat) (fs : List D) | exc (c : Nat) (fs : List D)
  | ro (xs : List Int)
/-- a value: data, or a cell -/
inductive Vl where
  | d (x : D)
  | r (n : Nat)
/-- what stands in a cell -/
inductive Cell where
  | dead
  | lst (xs : List Vl)
  | dic (kvs : List (D × D))
  | ins (c : Nat) (fs : List Vl)
abbrev Hs := List Cell
abbrev Env := List (Option Vl)
inductive Out (α : Type) where
  | ok (a : α) (h : Hs)
  | ex (x : D) (h : Hs)
  | bad
def Out.bind {α β : Type} (o : Out α) (f : α → Hs → Out β) : Out β := match o with
  | .ok a h => f a h
  | .ex x h => .ex x h
  | .bad => .bad
section
variable {α β : Type} {a : α} {x : D} {h : Hs} {f : α → Hs → Out β}
@[simp] theorem bind_ok : (Out.ok a h).bind f = f a h := rfl
@[simp] theorem bind_ex : (Out.ex x h : Out α).bind f = .ex x h := rfl
@[simp] theorem bind_bad : (Out.bad : Out α).bind f = .bad := rfl
end
inductive Fl where
  | nx (e : Env)
  | rt (v : Vl)
  | bk (e : Env)
  | ct (e : Env)

/-- the largest size of a list that is made -/
def LIM : Nat := 1000000

/-! ### looking at values -/
def Vl.toD : Vl → Option D
  | .d x => some x
  | .r _ => none
def allD : List Vl → Option (List D)
  | [] => some []
  | .d x :: r => (allD r).map (x :: ·)
  | .r _ :: _ => none
theorem allD_map (xs : List D) : allD (xs.map .d) = some xs := by
  induction xs with
  | nil => rfl
  | cons x r ih => simp [allD, ih]
/-- a list's items -/
def lview (v : Vl) (h : Hs) : Option (List Vl) := match v with
  | .d (.lst xs) => some (xs.map .d)
  | .r n => match h[n]? with
    | some (.lst xs) => some xs
    | _ => none
  | _ => none
/-- .. or of a list that is only read -/
def rview (v : Vl) (h : Hs) : Option (List Vl) := match v with
  | .d (.ro xs) => some (xs.map fun i => .d (.int i))
  | v => lview v h
/-- items of a list or tuple -/
def sview (v : Vl) (h : Hs) : Option (List Vl) := match v with
  | .d (.lst xs) => some (xs.map .d)
  | .d (.tup xs) => some (xs.map .d)
  | .r n => match h[n]? with
    | some (.lst xs) => some xs
    | _ => none
  | _ => none
def kview (v : Vl) (h : Hs) : Option (List (D × D)) := match v with
  | .d (.dic kvs) => some kvs
  | .r n => match h[n]? with
    | some (.dic kvs) => some kvs
    | _ => none
  | _ => none
/-- the value as data, cells read (one deep) -/
def snap (v : Vl) (h : Hs) : Option D := match v with
  | .d x => some x
  | .r n => match h[n]? with
    | some (.lst xs) => (allD xs).map .lst
    | some (.dic kvs) => some (.dic kvs)
    | _ => none
/-- a cell becomes data -/
def freeze (v : Vl) (h : Hs) : Out Vl := match v with
  | .d x => .ok (.d x) h
  | .r n => match h[n]? with
    | some (.lst xs) => match allD xs with
      | some ds => .ok (.d (.lst ds)) (h.set n .dead)
      | none => .bad
    | some (.dic kvs) => .ok (.d (.dic kvs)) (h.set n .dead)
    | some (.ins c fs) => match allD fs with
      | some ds => .ok (.d (.ins c ds)) (h.set n .dead)
      | none => .bad
    | _ => .bad
/-- a new list: data (m = false), or a cell -/
def mkL (m : Bool) (xs : List Vl) (h : Hs) : Out Vl :=
  if xs.length ≤ LIM then
    if m = true then .ok (.r h.length) (h ++ [.lst xs])
    else match allD xs with
      | some ds => .ok (.d (.lst ds)) h
      | none => .bad
  else .bad
def mkK (m : Bool) (kvs : List (D × D)) (h : Hs) : Out Vl :=
  if kvs.length ≤ LIM then
    if m = true then .ok (.r h.length) (h ++ [.dic kvs]) else .ok (.d (.dic kvs)) h
  else .bad

/-! ### data: keys, equality, kinds -/
def b2i (b : Bool) : Int := if b then 1 else 0
mutual
/-- == of data without dicts, sets, objects -/
def eqvD : D → D → Bool
  | .non, y => match y with
    | .non => true
    | _ => false
  | .bl a, y => match y with
    | .bl b => a == b
    | .int j => b2i a == j
    | _ => false
  | .int i, y => match y with
    | .bl b => i == b2i b
    | .int j => i == j
    | _ => false
  | .str x, y => match y with
    | .str z => x == z
    | _ => false
  | .tup xs, y => match y with
    | .tup ys => eqvDs xs ys
    | _ => false
  | .lst xs, y => match y with
    | .lst ys => eqvDs xs ys
    | _ => false
  | .dic _, _ => false
  | .set _, _ => false
  | .ins _ _, _ => false
  | .exc _ _, _ => false
  | .ro _, _ => false
def eqvDs : List D → List D → Bool
  | [], ys => match ys with
    | [] => true
    | _ :: _ => false
  | x :: xs, ys => match ys with
    | [] => false
    | y :: ys => eqvD x y && eqvDs xs ys
end
def strOkB (x : Str) : Bool := PyData.strOk x
mutual
/-- no dicts, sets, objects within -/
def plainD : D → Bool
  | .non => true
  | .bl _ => true
  | .int _ => true
  | .str x => strOkB x
  | .tup xs => plainDs xs
  | .lst xs => plainDs xs
  | .dic _ => false
  | .set _ => false
  | .ins _ _ => false
  | .exc _ _ => false
  | .ro _ => false
def plainDs : List D → Bool
  | [] => true
  | x :: r => plainD x && plainDs r
end
mutual
def depthD : D → Nat
  | .tup xs => depthDs xs + 1
  | .lst xs => depthDs xs + 1
  | .dic kvs => depthDk kvs + 1
  | .non => 0
  | .bl _ => 0
  | .int _ => 0
  | .str _ => 0
  | .set _ => 0
  | .ins _ _ => 0
  | .exc _ _ => 0
  | .ro _ => 0
def depthDs : List D → Nat
  | [] => 0
  | x :: r => max (depthD x) (depthDs r)
def depthDk : List (D × D) → Nat
  | [] => 0
  | (a, b) :: r => max (max (depthD a) (depthD b)) (depthDk r)
end
mutual
/-- a bound of the length of the text that repr makes; none: no repr here -/
def reprSz : D → Option Nat
  | .non => some 4
  | .bl _ => some 5
  | .int i => if i.natAbs < 10 ^ 12 then some 13 else if i.natAbs.log2 < 1920 then some 2000 else none
  | .str x => if x.cps.toList.all (fun c => decide (c < 16 ^ 8)) then some (x.length * 10 + 2) else none
  | .tup xs => (reprSzs xs).map (· + 3)
  | .lst xs => (reprSzs xs).map (· + 3)
  | .dic kvs => (reprSzk kvs).map (· + 3)
  | .set _ => none
  | .ins _ _ => none
  | .exc _ _ => none
  | .ro _ => none
def reprSzs : List D → Option Nat
  | [] => some 0
  | x :: r => match reprSz x, reprSzs r with
    | some a, some b => some (a + b + 2)
    | _, _ => none
def reprSzk : List (D × D) → Option Nat
  | [] => some 0
  | (k, v) :: r => match reprSz k, reprSz v, reprSzk r with
    | some a, some b, some c => some (a + b + c + 4)
    | _, _, _ => none
end
mutual
def toPy : D → PyData
  | .non => .none
  | .bl b => .bool b
  | .int i => .int i
  | .str x => .str x
  | .tup xs => .tuple (toPys xs)
  | .lst xs => .list (toPys xs)
  | .dic kvs => .dict (toPyk kvs)
  | .set _ => .none
  | .ins _ _ => .none
  | .exc _ _ => .none
  | .ro _ => .none
def toPys : List D → List PyData
  | [] => []
  | x :: r => toPy x :: toPys r
def toPyk : List (D × D) → List (PyData × PyData)
  | [] => []
  | (k, v) :: r => (toPy k, toPy v) :: toPyk r
end
def reprD (x : D) : Str := (toPy x).shown
/-- may be a key here -/
def keyS : D → Bool
  | .int _ => true
  | .str _ => true
  | _ => false
def getK {α : Type} (kvs : List (D × α)) (k : D) : Option α := (kvs.find? fun p => eqvD p.1 k).map (·.2)
def putK {α : Type} (kvs : List (D × α)) (k : D) (v : α) : List (D × α) :=
  if (kvs.any fun p => eqvD p.1 k) = true then kvs.map (fun p => if eqvD p.1 k = true then (p.1, v) else p) else kvs ++ [(k, v)]
def dropK {α : Type} : List (D × α) → D → List (D × α)
  | [], _ => []
  | p :: r, k => if eqvD p.1 k = true then r else p :: dropK r k
inductive Ty where
  | int | bool | str | list | tuple | dict
  deriving DecidableEq
def isTy (t : Ty) (x : D) : Bool := match t with
  | .int => (match x with
    | .int _ => true
    | .bl _ => true
    | _ => false)
  | .bool => (match x with
    | .bl _ => true
    | _ => false)
  | .str => (match x with
    | .str _ => true
    | _ => false)
  | .list => (match x with
    | .lst _ => true
    | _ => false)
  | .tuple => (match x with
    | .tup _ => true
    | _ => false)
  | .dict => (match x with
    | .dic _ => true
    | _ => false)
/-- the same of a value -/
def isTyV (t : Ty) (v : Vl) (h : Hs) : Option Bool := match v with
  | .d (.ro _) => none
  | .d x => some (isTy t x)
  | .r n => match h[n]? with
    | some (.lst _) => some (decide (t = .list))
    | some (.dic _) => some (decide (t = .dict))
    | some (.ins _ _) => some false
    | _ => none

def isCD (cs : List Nat) (x : D) : Bool := match x with
  | .ins c _ => cs.contains c
  | .exc c _ => cs.contains c
  | _ => false
/-- isinstance of an own class: cs are it and its subclasses -/
def isCV (cs : List Nat) (v : Vl) (h : Hs) : Option Bool := match v with
  | .d (.ro _) => none
  | .d x => some (isCD cs x)
  | .r n => match h[n]? with
    | some (.lst _) => some false
    | some (.dic _) => some false
    | some (.ins c _) => some (cs.contains c)
    | _ => none

/-! ### built-in operations -/
inductive Pr where
  | add | sub | mul | mod | fdiv | pow | neg
  | eq | ne | lt | le | gt | ge | is_ | isnot | in_ | notin
  | len | all | any | int | repr | isi (t : Ty) | isc (cs : List Nat)
  | min2 | max2
  | tuple | tup | item | slL | slU | slLU | revT
  | count | pop1 | pop0
  | lenset | minL | maxL | sum
inductive Mk where
  | lst | cat | mulL | list | listRange | slL | slU | slLU | rev | sorted | items | sortedSet
def i2 (as : List Vl) (f : Int → Int → Out Vl) : Out Vl := match as with
  | [.d (.int i), .d (.int j)] => f i j
  | _ => .bad
def okI (i : Int) (h : Hs) : Out Vl := .ok (.d (.int i)) h
def okB (b : Bool) (h : Hs) : Out Vl := .ok (.d (.bl b)) h
def smallI (i : Int) : Bool := decide (-(18446744073709551616) < i) && decide (i < 18446744073709551616)
def allB : List Vl → Option (List Bool)
  | [] => some []
  | .d (.bl b) :: r => (allB r).map (b :: ·)
  | _ => none
def allI : List Vl → Option (List Int)
  | [] => some []
  | .d (.int i) :: r => (allI r).map (i :: ·)
  | _ => none
/-- a place of a sequence of n items -/
def ixOf (n : Nat) (i : Int) : Option Nat := if 0 ≤ i then (if i < n then some i.toNat else none) else (if -(n : Int) ≤ i then some (i + n).toNat else none)
/-- a bound of a slice -/
def slOf (n : Nat) (i : Int) : Nat := if 0 ≤ i then min i.toNat n else (i + n).toNat
def cutD {α : Type} (xs : List α) (lo hi : Nat) : List α := (xs.take hi).drop lo
/-- == of two values -/
def eqV (x y : Vl) (h : Hs) : Option Bool := match snap x h, snap y h with
  | some a, some b =>
    match a, b with
    | .tup [], .tup ys => some ys.isEmpty
    | .tup xs, .tup [] => some xs.isEmpty
    | .lst [], .lst ys => some ys.isEmpty
    | .lst xs, .lst [] => some xs.isEmpty
    | .str x, .str z => some (x == z)
    | a, b => if plainD a && plainD b && decide (depthD a ≤ 48) && decide (depthD b ≤ 48) then some (eqvD a b) else none
  | _, _ => none
/-- x is y, y None, True or False -/
def isV (x y : Vl) : Option Bool := match y with
  | .d .non => match x with
    | .d .non => some true
    | _ => some false
  | .d (.bl b) => match x with
    | .d (.bl a) => some (a == b)
    | _ => none
  | _ => none
def inL (x : D) : List D → Bool
  | [] => false
  | y :: r => eqvD y x || inL x r
def inV (x y : Vl) (h : Hs) : Option Bool := match x.toD with
  | none => none
  | some k => match kview y h with
    | some kvs => if keyS k then some (getK kvs k).isSome else none
    | none => match sview y h with
      | some vs => match allD vs with
        | some ds => if plainD k && plainDs ds && decide (depthD k ≤ 48) && decide (depthDs ds ≤ 48) then some (inL k ds) else none
        | none => none
      | none => none
/-- different items, as met -/
def dedupI (is : List Int) : List Int := is.foldl PyProof.Rows.step_dedup []
def cmpI (as : List Vl) (h : Hs) (f : Int → Int → Bool) : Out Vl := i2 as fun i j => okB (f i j) h
def oB (o : Option Bool) (h : Hs) (f : Bool → Bool) : Out Vl := match o with
  | some b => okB (f b) h
  | none => .bad
def pr : Pr → List Vl → Hs → Out Vl
  | .add, as, h => match as with
    | [.d (.int i), .d (.int j)] => okI (i + j) h
    | [.d (.str x), .d (.str y)] => if x.length + y.length ≤ LIM then .ok (.d (.str (x ++ y))) h else .bad
    | [.d (.tup xs), .d (.tup ys)] => if xs.length + ys.length ≤ LIM then .ok (.d (.tup (xs ++ ys))) h else .bad
    | _ => .bad
  | .sub, as, h => i2 as fun i j => okI (i - j) h
  | .mul, as, h => match as with
    | [.d (.int i), .d (.int j)] => if smallI j || smallI i then okI (i * j) h else .bad
    | [.d (.tup xs), .d (.int j)] => if !xs.isEmpty && decide (2 ≤ j) && decide (j ≤ 1000) && decide (xs.length ≤ 1000) then .ok (.d (.tup (List.replicate j.toNat xs).flatten)) h else .bad
    | _ => .bad
  | .mod, as, h => i2 as fun i j => if 0 < j then okI (i % j) h else .bad
  | .fdiv, as, h => i2 as fun i j => if decide (0 < j) && decide (j < 1073741824) then okI (i / j) h else .bad
  | .pow, as, h => i2 as fun i j => if decide (0 ≤ j) && (decide (j ≤ 1000000) && smallI i) then okI (i ^ j.toNat) h else .bad
  | .neg, as, h => match as with
    | [.d (.int i)] => okI (-i) h
    | _ => .bad
  | .eq, as, h => match as with
    | [x, y] => oB (eqV x y h) h id
    | _ => .bad
  | .ne, as, h => match as with
    | [x, y] => oB (eqV x y h) h not
    | _ => .bad
  | .lt, as, h => cmpI as h fun i j => decide (i < j)
  | .le, as, h => cmpI as h fun i j => decide (i ≤ j)
  | .gt, as, h => cmpI as h fun i j => decide (j < i)
  | .ge, as, h => cmpI as h fun i j => decide (j ≤ i)
  | .is_, as, h => match as with
    | [x, y] => oB (isV x y) h id
    | _ => .bad
  | .isnot, as, h => match as with
    | [x, y] => oB (isV x y) h not
    | _ => .bad
  | .in_, as, h => match as with
    | [x, y] => oB (inV x y h) h id
    | _ => .bad
  | .notin, as, h => match as with
    | [x, y] => oB (inV x y h) h not
    | _ => .bad
  | .len, as, h => match as with
    | [x] => match sview x h with
      | some vs => okI vs.length h
      | none => match kview x h with
        | some kvs => okI kvs.length h
        | none => .bad
    | _ => .bad
  | .all, as, h => match as with
    | [x] => match (lview x h).bind allB with
      | some bs => okB (bs.all id) h
      | none => .bad
    | _ => .bad
  | .any, as, h => match as with
    | [x] => match (lview x h).bind allB with
      | some bs => okB (bs.any id) h
      | none => .bad
    | _ => .bad
  | .int, as, h => match as with
    | [.d (.int i)] => okI i h
    | [.d (.bl b)] => okI (b2i b) h
    | _ => .bad
  | .repr, as, h => match as with
    | [x] => match snap x h with
      | some a => match reprSz a with
        | some n => if decide (n ≤ LIM) && decide (depthD a ≤ 48) then .ok (.d (.str (reprD a))) h else .bad
        | none => .bad
      | none => .bad
    | _ => .bad
  | .isi t, as, h => match as with
    | [x] => oB (isTyV t x h) h id
    | _ => .bad
  | .isc cs, as, h => match as with
    | [x] => oB (isCV cs x h) h id
    | _ => .bad
  | .min2, as, h => i2 as fun i j => okI (if j < i then j else i) h
  | .max2, as, h => i2 as fun i j => okI (if j > i then j else i) h
  | .tuple, as, h => match as with
    | [x] => match (sview x h).bind allD with
      | some ds => .ok (.d (.tup ds)) h
      | none => .bad
    | _ => .bad
  | .tup, as, h => match allD as with
    | some ds => if ds.length ≤ LIM then .ok (.d (.tup ds)) h else .bad
    | none => .bad
  | .item, as, h => match as with
    | [x, .d i] => match kview x h with
      | some kvs => if keyS i then match getK kvs i with
          | some v => .ok (.d v) h
          | none => .bad
        else .bad
      | none => match i with
        | .int i => match x with
          | .d (.str z) => match ixOf z.length i with
            | some k => match z.cps[k]? with
              | some c => if decide (0 ≤ i) && decide (z.length ≤ LIM) then .ok (.d (.str ⟨#[c]⟩)) h else .bad
              | none => .bad
            | none => .bad
          | x => match sview x h with
            | some vs => match (ixOf vs.length i).bind fun k => vs[k]? with
              | some v => .ok v h
              | none => .bad
            | none => .bad
        | _ => .bad
    | _ => .bad
  | .slL, as, h => match as with
    | [.d (.tup xs), .d (.int i)] => .ok (.d (.tup (cutD xs (slOf xs.length i) xs.length))) h
    | _ => .bad
  | .slU, as, h => match as with
    | [.d (.tup xs), .d (.int i)] => .ok (.d (.tup (cutD xs 0 (slOf xs.length i)))) h
    | _ => .bad
  | .slLU, as, h => match as with
    | [.d (.tup xs), .d (.int i), .d (.int j)] => .ok (.d (.tup (cutD xs (slOf xs.length i) (slOf xs.length j)))) h
    | _ => .bad
  | .revT, as, h => match as with
    | [.d (.tup xs)] => .ok (.d (.tup xs.reverse)) h
    | _ => .bad
  | .count, as, h => match as with
    | [x, y] => match (lview x h).bind allD, y.toD with
      | some ds, some k => if plainD k && plainDs ds && decide (depthD k ≤ 48) && decide (depthDs ds ≤ 48) then okI ((ds.filter fun z => eqvD z k).length : Nat) h else .bad
      | _, _ => .bad
    | _ => .bad
  | .pop1, as, h => match as with
    | [.r n, .d i] => match h[n]? with
      | some (.lst vs) => match i with
        | .int i => match ixOf vs.length i with
          | some k => match vs[k]? with
            | some v => .ok v (h.set n (.lst (vs.eraseIdx k)))
            | none => .bad
          | none => .bad
        | _ => .bad
      | some (.dic kvs) => if keyS i then match getK kvs i with
          | some v => .ok (.d v) (h.set n (.dic (dropK kvs i)))
          | none => .bad
        else .bad
      | _ => .bad
    | _ => .bad
  | .pop0, as, h => match as with
    | [.r n] => match h[n]? with
      | some (.lst vs) => match vs.getLast? with
        | some v => .ok v (h.set n (.lst vs.dropLast))
        | none => .bad
      | _ => .bad
    | _ => .bad
  | .lenset, as, h => match as with
    | [x] => match (lview x h).bind allI with
      | some is => if is.length ≤ 1000 then okI (dedupI is).length h else .bad
      | none => .bad
    | _ => .bad
  | .minL, as, h => match as with
    | [x] => match (lview x h).bind allI with
      | some is => match is with
        | [] => .bad
        | i :: r => okI (r.foldl min i) h
      | none => .bad
    | _ => .bad
  | .maxL, as, h => match as with
    | [x] => match (lview x h).bind allI with
      | some is => match is with
        | [] => .bad
        | i :: r => okI (r.foldl max i) h
      | none => .bad
    | _ => .bad
  | .sum, as, h => match as with
    | [x] => match (lview x h).bind allI with
      | some is => okI is.sum h
      | none => .bad
    | _ => .bad
def insI (x : Int) : List Int → List Int
  | [] => [x]
  | y :: r => if x ≤ y then x :: y :: r else y :: insI x r
def sortI : List Int → List Int
  | [] => []
  | x :: r => insI x (sortI r)
def rngI (lo hi : Int) : List Int := (List.range (hi - lo).toNat).map fun (k : Nat) => lo + (k : Int)
/-- sorted, each once -/
def insU (i : Int) : List Int → List Int
  | [] => [i]
  | j :: r => if i < j then i :: j :: r else if i = j then j :: r else j :: insU i r
def sortU (is : List Int) : List Int := is.foldr insU []
def mk (m : Bool) : Mk → List Vl → Hs → Out Vl
  | .lst, as, h => mkL m as h
  | .cat, as, h => match as with
    | [x, y] => match lview x h, lview y h with
      | some xs, some ys => mkL m (xs ++ ys) h
      | _, _ => .bad
    | _ => .bad
  | .mulL, as, h => match as with
    | [x, .d (.int j)] => match lview x h with
      | some xs => if decide (-4611686018427387904 ≤ j) && decide (j < 4611686018427387904) then mkL m (List.replicate j.toNat xs).flatten h else .bad
      | none => .bad
    | _ => .bad
  | .list, as, h => match as with
    | [x] => match sview x h with
      | some vs => mkL m vs h
      | none => .bad
    | _ => .bad
  | .listRange, as, h => match as with
    | [.d (.int j)] => if 0 ≤ j then mkL m ((rngI 0 j).map fun i => .d (.int i)) h else .bad
    | _ => .bad
  | .sortedSet, as, h => match as with
    | [.d (.tup xs)] => match allI (xs.map .d) with
      | some is => if is.length < 64 then mkL m ((sortU is).map fun i => .d (.int i)) h else .bad
      | none => .bad
    | _ => .bad
  | .slL, as, h => match as with
    | [x, .d (.int i)] => match rview x h with
      | some vs => mkL m (cutD vs (slOf vs.length i) vs.length) h
      | none => .bad
    | _ => .bad
  | .slU, as, h => match as with
    | [x, .d (.int i)] => match rview x h with
      | some vs => mkL m (cutD vs 0 (slOf vs.length i)) h
      | none => .bad
    | _ => .bad
  | .slLU, as, h => match as with
    | [x, .d (.int i), .d (.int j)] => match rview x h with
      | some vs => mkL m (cutD vs (slOf vs.length i) (slOf vs.length j)) h
      | none => .bad
    | _ => .bad
  | .rev, as, h => match as with
    | [x] => match lview x h with
      | some vs => mkL m vs.reverse h
      | none => .bad
    | _ => .bad
  | .sorted, as, h => match as with
    | [x] => match (lview x h).bind allI with
      | some is => mkL m ((sortI is).map fun i => .d (.int i)) h
      | none => match (kview x h).bind fun kvs => allI (kvs.map fun p => .d p.1) with
        | some is => if is.length < 64 then mkL m ((sortI is).map fun i => .d (.int i)) h else .bad
        | none => .bad
    | _ => .bad
  | .items, as, h => match as with
    | [x] => match kview x h with
      | some kvs => mkL m (kvs.map fun p => .d (.tup [p.1, p.2])) h
      | none => .bad
    | _ => .bad

/-! ### the text -/
/-- targets: a name's slot, or several -/
inductive Tn where
  | nm (i : Nat)
  | tup (ts : List Nat)
/-- what is walked -/
inductive ItK where
  | seq | rng | enum | enum1 | zip | items
inductive Ex where
  | var (i : Nat)
  | cst (x : D)
  | glb (x : Str) (v : D)
  | prim (p : Pr) (as : List Ex)
  | mk (m : Bool) (p : Mk) (as : List Ex)
  | and (a b : Ex)
  | or (a b : Ex)
  | not (a : Ex)
  | ite (c a b : Ex)
  | chain (p q : Pr) (a b c : Ex)
  | call (f : Nat) (as : List Ex)
  | meth (c : Nat) (m : Str) (f : Nat) (o : Ex) (as : List Ex)
  | attr (c : Nat) (i : Nat) (x : Str) (o : Ex)
  | pro (c : Nat) (x : Str) (f : Nat) (o : Ex)
  | new (m : Bool) (c : Nat) (f : Nat) (as : List Ex)
  | eqO (c : Nat) (f : Nat) (n : Bool) (a b : Ex)
  | comp (m : Bool) (e : Ex) (t : Tn) (k : ItK) (its : List Ex) (cs : List Ex)
  | dict (m : Bool) (ks vs : List Ex)
  | dictP (m : Bool) (e : Ex)
  | frz (e : Ex)
  | star (k : Nat) (bs : List Bool) (as : List Ex)
  | popc (o : Ex) (as : List Ex)
  | dcomp (m : Bool) (kx vx : Ex) (t : Tn) (k : ItK) (its : List Ex) (cs : List Ex)
  | wall
inductive Sm where
  | asg (t : Tn) (e : Ex)
  | sub (o i e : Ex)
  | fld (c : Nat) (i : Nat) (x : Str) (o e : Ex)
  | app (o e : Ex)
  | ext (o e : Ex)
  | clr (o : Ex)
  | expr (e : Ex)
  | ret (e : Ex)
  | retN
  | ite (c : Ex) (a b : List Sm)
  | for_ (t : Tn) (k : ItK) (its : List Ex) (b : List Sm)
  | while_ (c : Ex) (b : List Sm)
  | raise (c : Nat) (as : List Ex)
  | tryAs (b : List Sm) (cs : List Nat) (i j : Nat)
  | pass
  | brk
  | cont
  | frzv (i : Nat)
  | par (is : List Nat) (es : List Ex)
  | wall

/-! ### what it does -/
def setE (e : Env) (i : Nat) (v : Vl) : Env := e.set i (some v)
def setEs : Env → List Nat → List Vl → Env
  | e, i :: is, v :: vs => setEs (setE e i v) is vs
  | e, _, _ => e
/-- a row of values to a target -/
def bindT (t : Tn) (row : List Vl) (e : Env) : Option Env := match t with
  | .nm i => match row with
    | [v] => some (setE e i v)
    | _ => none
  | .tup is => match row with
    | [v] => match v with
      | .d (.tup xs) => if xs.length = is.length then some (setEs e is (xs.map .d)) else none
      | _ => none
    | row => if row.length = is.length then some (setEs e is row) else none
def wipeE : Env → List Nat → Env
  | e, [] => e
  | e, i :: r => wipeE (e.set i none) r
def Tn.names : Tn → List Nat
  | .nm i => [i]
  | .tup is => is
def enumFrom (k : Int) : List Vl → List (List Vl)
  | [] => []
  | v :: r => [.d (.int k), v] :: enumFrom (k + 1) r
def zipV : List Vl → List Vl → List (List Vl)
  | x :: xs, y :: ys => [x, y] :: zipV xs ys
  | _, _ => []
def bigR (i : Int) : Bool := decide (-4611686018427387904 ≤ i) && decide (i < 4611686018427387904)
/-- the rows that are walked: of data alone -/
def rowsOf (k : ItK) (as : List Vl) : Option (List (List Vl)) := match k with
  | .seq => match as with
    | [.d (.lst xs)] => some (xs.map fun x => [.d x])
    | [.d (.tup xs)] => some (xs.map fun x => [.d x])
    | [.d (.dic kvs)] => some (kvs.map fun p => [.d p.1])
    | _ => none
  | .rng => match as with
    | [.d (.int j)] => if bigR j then some ((rngI 0 j).map fun i => [.d (.int i)]) else none
    | [.d (.int i), .d (.int j)] => if bigR i && bigR j then some ((rngI i j).map fun i => [.d (.int i)]) else none
    | _ => none
  | .enum => match as with
    | [.d (.lst xs)] => some (enumFrom 0 (xs.map .d))
    | [.d (.tup xs)] => some (enumFrom 0 (xs.map .d))
    | _ => none
  | .enum1 => match as with
    | [.d (.lst xs), .d (.int k)] => if bigR k then some (enumFrom k (xs.map .d)) else none
    | _ => none
  | .zip => match as with
    | [.d (.lst xs), .d (.lst ys)] => some (zipV (xs.map .d) (ys.map .d))
    | _ => none
  | .items => match as with
    | [.d (.dic kvs)] => some (kvs.map fun p => [.d p.1, .d p.2])
    | _ => none
/-- the turns of a comprehension -/
def compL (f : List Vl → Hs → Out (Option Vl)) : List (List Vl) → Hs → Out (List Vl)
  | [], h => .ok [] h
  | r :: rs, h => (f r h).bind fun o h1 => (compL f rs h1).bind fun vs h2 => .ok (match o with
    | some v => v :: vs
    | none => vs) h2
def forL (f : List Vl → Env → Hs → Out Fl) : List (List Vl) → Env → Hs → Out Fl
  | [], e, h => .ok (.nx e) h
  | r :: rs, e, h => (f r e h).bind fun fl h1 => match fl with
    | .nx e1 => forL f rs e1 h1
    | .ct e1 => forL f rs e1 h1
    | .bk e1 => .ok (.nx e1) h1
    | .rt v => .ok (.rt v) h1
def whileL (f : Env → Hs → Out (Option Fl)) : Nat → Env → Hs → Out Fl
  | 0, _, _ => .bad
  | n + 1, e, h => (f e h).bind fun o h1 => match o with
    | none => .ok (.nx e) h1
    | some (.nx e1) => whileL f n e1 h1
    | some (.ct e1) => whileL f n e1 h1
    | some (.bk e1) => .ok (.nx e1) h1
    | some (.rt v) => .ok (.rt v) h1
def WMAX : Nat := 100000
def noEx {α : Type} (o : Out α) : Out α := match o with
  | .ex _ _ => .bad
  | o => o
def asB (v : Vl) (h : Hs) (k : Bool → Hs → Out Vl) : Out Vl := match v with
  | .d (.bl b) => k b h
  | _ => .bad
def fromPairs : List D → Option (List (D × D)) → Option (List (D × D))
  | [], acc => acc
  | .tup [k, v] :: r, some acc => if keyS k then fromPairs r (some (putK acc k v)) else none
  | _, _ => none
def zipK : List D → List D → List (D × D) → Option (List (D × D))
  | k :: ks, v :: vs, acc => if keyS k then zipK ks vs (putK acc k v) else none
  | [], [], acc => some acc
  | _, _, _ => none
/-- an object's class and fields -/
def objOf (v : Vl) (h : Hs) : Option (Nat × List Vl) := match v with
  | .d (.ins c fs) => some (c, fs.map .d)
  | .d (.exc c fs) => some (c, fs.map .d)
  | .r n => match h[n]? with
    | some (.ins c fs) => some (c, fs)
    | _ => none
  | _ => none
def isObj (c : Nat) (v : Vl) (h : Hs) : Bool := match objOf v h with
  | some (k, _) => k == c
  | none => false
def isLst (a : Vl) (h : Hs) : Bool := match a with
  | .r n => match h[n]? with
    | some (.lst _) => true
    | _ => false
  | _ => false
/-- displays with starred parts -/
def spr1 (b : Bool) (v : Vl) : Option (List Vl) := if b = true then (match v with
  | .d (.lst xs) => some (xs.map .d)
  | .d (.tup xs) => some (xs.map .d)
  | _ => none) else some [v]
def spread : List Bool → List Vl → Option (List Vl)
  | [], [] => some []
  | b :: bs, v :: vs => (spr1 b v).bind fun a => (spread bs vs).map (a ++ ·)
  | _, _ => none
def starK (k : Nat) (vs : List Vl) (h : Hs) : Out Vl := if k = 2 then pr .tup vs h else mkL (k == 1) vs h
/-- list.pop -/
def popL (vs : List Vl) (h : Hs) : Out Vl := match vs with
  | [.r n, .d (.int i)] => match h[n]? with
    | some (.lst xs) => match ixOf xs.length i with
      | some k => match xs[k]? with
        | some v => if xs.length ≤ LIM then .ok v (h.set n (.lst (xs.eraseIdx k))) else .bad
        | none => .bad
      | none => .bad
    | _ => .bad
  | [.r n] => match h[n]? with
    | some (.lst xs) => match xs[xs.length - 1]? with
      | some v => .ok v (h.set n (.lst xs.dropLast))
      | none => .bad
    | _ => .bad
  | _ => .bad
def pairV (a b : Vl) (h : Hs) : Out (Option Vl) := match a, b with
  | .d x, .d y => .ok (some (.d (.tup [x, y]))) h
  | _, _ => .bad
def mkPs (m : Bool) (us : List Vl) (h : Hs) : Out Vl := match allD us with
  | some ds => match fromPairs ds (some []) with
    | some kvs => mkK m kvs h
    | none => .bad
  | none => .bad
/-- behind a call: the cells that it made go (or one stays) -/
def lowV (n : Nat) : Vl → Bool
  | .d _ => true
  | .r k => decide (k < n)
def lowC (n : Nat) : Cell → Bool
  | .dead => true
  | .lst xs => xs.all (lowV n)
  | .dic _ => true
  | .ins _ fs => fs.all (lowV n)
def Cell.alive : Cell → Bool
  | .dead => false
  | _ => true
def done (n : Nat) (o : Out Vl) : Out Vl := match o with
  | .ok (.d x) h => if (h.take n).all (lowC n) then .ok (.d x) (h.take n) else .bad
  | .ok (.r k) h => if k < n then (if (h.take n).all (lowC n) then .ok (.r k) (h.take n) else .bad)
    else if (h.take n).all (lowC n) then (match h[k]? with
      | some c => if c.alive && lowC n c then .ok (.r n) (h.take n ++ [c]) else .bad
      | none => .bad) else .bad
  | .ex x h => if (h.take n).all (lowC n) then .ex x (h.take n) else .bad
  | .bad => .bad
section
variable (F : Nat → List Vl → Hs → Out Vl)
mutual
def ev : Ex → Env → Hs → Out Vl
  | .var i, e, h => match e[i]? with
    | some (some v) => .ok v h
    | _ => .bad
  | .cst x, _, h => .ok (.d x) h
  | .glb _ x, _, h => .ok (.d x) h
  | .prim p as, e, h => (evs as e h).bind fun vs h1 => pr p vs h1
  | .mk m p as, e, h => (evs as e h).bind fun vs h1 => mk m p vs h1
  | .and a b, e, h => (ev a e h).bind fun v h1 => asB v h1 fun c h1 => if c = true then ev b e h1 else .ok (.d (.bl false)) h1
  | .or a b, e, h => (ev a e h).bind fun v h1 => asB v h1 fun c h1 => if c = true then .ok (.d (.bl true)) h1 else ev b e h1
  | .not a, e, h => (ev a e h).bind fun v h1 => asB v h1 fun c h1 => .ok (.d (.bl (!c))) h1
  | .ite c a b, e, h => (ev c e h).bind fun v h1 => asB v h1 fun c h1 => if c = true then ev a e h1 else ev b e h1
  | .chain p q a b c, e, h => (ev a e h).bind fun x h1 => (ev b e h1).bind fun y h2 => (pr p [x, y] h2).bind fun v h3 => asB v h3 fun k h3 =>
      if k = true then (ev c e h3).bind fun z h4 => pr q [y, z] h4 else .ok (.d (.bl false)) h3
  | .call f as, e, h => (evs as e h).bind fun vs h1 => F f vs h1
  | .meth c _ f o as, e, h => (ev o e h).bind fun v h1 => if isObj c v h1 then (evs as e h1).bind fun vs h2 => F f (v :: vs) h2 else .bad
  | .attr c i _ o, e, h => (ev o e h).bind fun v h1 => match objOf v h1 with
    | some (k, fs) => if k = c then match fs[i]? with
        | some u => .ok u h1
        | none => .bad
      else .bad
    | none => .bad
  | .pro c _ f o, e, h => (ev o e h).bind fun v h1 => if isObj c v h1 then noEx (F f [v] h1) else .bad
  | .new m c f as, e, h => (evs as e h).bind fun vs h1 => (F f (.r h1.length :: vs) (h1 ++ [.ins c []])).bind fun w h2 => match w with
      | .d .non => if m = true then .ok (.r h1.length) h2 else freeze (.r h1.length) h2
      | _ => .bad
  | .eqO c f n a b, e, h => (ev a e h).bind fun v h1 => (ev b e h1).bind fun u h2 => if isObj c v h2 && (isCV [c] u h2).isSome then (F f [v, u] h2).bind fun w h3 => asB w h3 fun k h3 => .ok (.d (.bl (k != n))) h3 else .bad
  | .comp m x t k its cs, e, h => (evs its e h).bind fun vs h1 => match rowsOf k vs with
    | some rows => (noEx (compL (fun row h => match bindT t row (wipeE e t.names) with
        | some e1 => (tests cs e1 h).bind fun b h1 => if b = true then (ev x e1 h1).bind fun v h2 => .ok (some v) h2 else .ok none h1
        | none => .bad) rows h1)).bind fun us h2 => mkL m us h2
    | none => .bad
  | .star k bs as, e, h => (noEx (evs as e h)).bind fun vs h1 => match spread bs vs with
    | some us => starK k us h1
    | none => .bad
  | .popc o as, e, h => (ev o e h).bind fun v h1 => if isLst v h1 = true then (evs as e h1).bind fun vs h2 => popL (v :: vs) h2 else .bad
  | .dcomp m kx vx t k its cs, e, h => (evs its e h).bind fun vs h1 => match rowsOf k vs with
    | some rows => (noEx (compL (fun row h => match bindT t row (wipeE e t.names) with
        | some e1 => (tests cs e1 h).bind fun b h1 => if b = true then (ev kx e1 h1).bind fun q h2 => (ev vx e1 h2).bind fun v h3 => pairV q v h3 else .ok none h1
        | none => .bad) rows h1)).bind fun us h2 => mkPs m us h2
    | none => .bad
  | .dict m ks vs, e, h => (noEx (evs ks e h)).bind fun as h1 => (noEx (evs vs e h1)).bind fun bs h2 => match allD as, allD bs with
    | some xs, some ys => match zipK xs ys [] with
      | some kvs => mkK m kvs h2
      | none => .bad
    | _, _ => .bad
  | .dictP m x, e, h => (ev x e h).bind fun v h1 => match (lview v h1).bind allD with
    | some ds => match fromPairs ds (some []) with
      | some kvs => mkK m kvs h1
      | none => .bad
    | none => match kview v h1 with
      | some kvs => mkK m kvs h1
      | none => .bad
  | .frz x, e, h => (ev x e h).bind fun v h1 => freeze v h1
  | .wall, _, _ => .bad
def evs : List Ex → Env → Hs → Out (List Vl)
  | [], _, h => .ok [] h
  | x :: r, e, h => (ev x e h).bind fun v h1 => (evs r e h1).bind fun vs h2 => .ok (v :: vs) h2
def tests : List Ex → Env → Hs → Out Bool
  | [], _, h => .ok true h
  | c :: r, e, h => (ev c e h).bind fun v h1 => match v with
    | .d (.bl b) => if b = true then tests r e h1 else .ok false h1
    | _ => .bad
end
def appV (a v : Vl) (e : Env) (h : Hs) : Out Fl := match a with
  | .r n => match h[n]? with
    | some (.lst vs) => if vs.length < LIM then .ok (.nx e) (h.set n (.lst (vs ++ [v]))) else .bad
    | _ => .bad
  | _ => .bad
def extV (a v : Vl) (e : Env) (h : Hs) : Out Fl := match a with
  | .r n => match h[n]? with
    | some (.lst vs) => match lview v h with
      | some us => if vs.length + us.length ≤ LIM then .ok (.nx e) (h.set n (.lst (vs ++ us))) else .bad
      | none => .bad
    | _ => .bad
  | _ => .bad
def clrV (a : Vl) (e : Env) (h : Hs) : Out Fl := match a with
  | .r n => match h[n]? with
    | some (.lst _) => .ok (.nx e) (h.set n (.lst []))
    | _ => .bad
  | _ => .bad
/-- a[k] = v -/
def setV (a k v : Vl) (h : Hs) : Out Unit := match a with
  | .r n => match h[n]? with
    | some (.lst vs) => match k with
      | .d (.int j) => match ixOf vs.length j with
        | some q => .ok () (h.set n (.lst (vs.set q v)))
        | none => .bad
      | _ => .bad
    | some (.dic kvs) => match k with
      | .d q => match v with
        | .d w => if keyS q && decide (kvs.length < LIM) then .ok () (h.set n (.dic (putK kvs q w))) else .bad
        | _ => .bad
      | _ => .bad
    | _ => .bad
  | _ => .bad
def fldV (c i : Nat) (a v : Vl) (e : Env) (h : Hs) : Out Fl := match a with
  | .r n => match h[n]? with
    | some (.ins k fs) => if k = c then (if i < fs.length then .ok (.nx e) (h.set n (.ins k (fs.set i v))) else if i = fs.length then .ok (.nx e) (h.set n (.ins k (fs ++ [v]))) else .bad) else .bad
    | _ => .bad
  | _ => .bad
mutual
def exec : Sm → Env → Hs → Out Fl
  | .asg t x, e, h => (ev F x e h).bind fun v h1 => match bindT t [v] e with
    | some e1 => .ok (.nx e1) h1
    | none => .bad
  | .sub o i x, e, h => (ev F x e h).bind fun v h1 => (ev F o e h1).bind fun a h2 => (ev F i e h2).bind fun k h3 => (setV a k v h3).bind fun _ h4 => .ok (.nx e) h4
  | .fld c i _ o x, e, h => (ev F x e h).bind fun v h1 => (ev F o e h1).bind fun a h2 => fldV c i a v e h2
  | .app o x, e, h => (ev F o e h).bind fun a h1 => if isLst a h1 = true then (ev F x e h1).bind fun v h2 => appV a v e h2 else .bad
  | .ext o x, e, h => (ev F o e h).bind fun a h1 => if isLst a h1 = true then (ev F x e h1).bind fun v h2 => extV a v e h2 else .bad
  | .clr o, e, h => (ev F o e h).bind fun a h1 => clrV a e h1
  | .expr x, e, h => (ev F x e h).bind fun _ h1 => .ok (.nx e) h1
  | .ret x, e, h => (ev F x e h).bind fun v h1 => .ok (.rt v) h1
  | .retN, _, h => .ok (.rt (.d .non)) h
  | .ite c a b, e, h => (ev F c e h).bind fun v h1 => match v with
    | .d (.bl k) => if k = true then execs a e h1 else execs b e h1
    | _ => .bad
  | .for_ t k its b, e, h => (evs F its e h).bind fun vs h1 => match rowsOf k vs with
    | some rows => forL (fun row e h => match bindT t row e with
      | some e1 => execs b e1 h
      | none => .bad) rows e h1
    | none => .bad
  | .while_ c b, e, h => whileL (fun e h => (ev F c e h).bind fun v h1 => match v with
    | .d (.bl k) => if k = true then (execs b e h1).bind fun fl h2 => .ok (some fl) h2 else .ok none h1
    | _ => .bad) WMAX e h
  | .raise c as, e, h => (evs F as e h).bind fun vs h1 => match allD vs with
    | some ds => .ex (.exc c ds) h1
    | none => .bad
  | .tryAs b cs _ j, e, h => match execs b e h with
    | .ex x h1 => match x with
      | .exc c fs => if cs.contains c then .ok (.nx (setE e j (.d (.exc c fs)))) h1 else .ex x h1
      | _ => .bad
    | o => o
  | .pass, e, h => .ok (.nx e) h
  | .brk, e, h => .ok (.bk e) h
  | .cont, e, h => .ok (.ct e) h
  | .frzv i, e, h => match e[i]? with
    | some (some v) => (freeze v h).bind fun u h1 => .ok (.nx (setE e i u)) h1
    | _ => .bad
  | .par is es, e, h => (evs F es e h).bind fun vs h1 => if vs.length = is.length then .ok (.nx (setEs e is vs)) h1 else .bad
  | .wall, _, _ => .bad
def execs : List Sm → Env → Hs → Out Fl
  | [], e, h => .ok (.nx e) h
  | s :: r, e, h => (exec s e h).bind fun fl h1 => match fl with
    | .nx e1 => execs r e1 h1
    | fl => .ok fl h1
end
/-- a def: n names -/
def run (n : Nat) (b : List Sm) (as : List Vl) (h : Hs) : Out Vl :=
  done h.length ((execs F b (as.map some ++ List.replicate (n - as.length) none) h).bind fun fl h1 => match fl with
    | .rt v => .ok v h1
    | .nx _ => .ok (.d .non) h1
    | _ => .bad)
end
end L3
/-! L3: how data and cells lie in the abstract heap. -/
namespace L3
open PySem PySem.Spec PyProof.Rows L2

/-- classes: where they stand, their attributes in order -/
structure Cn where
  ca : Nat → Addr
  fl : Nat → List Str
  ok : Nat → Bool
  hid : Addr → Prop
/-- other things are hidden -/
def Cn.h (C : Cn) (Z : Addr → Prop) : Cn := { C with hid := Z }
def keyOf : D → Option Key
  | .int i => some (.inl i)
  | .str x => some (.inr x)
  | _ => none
/-- a tuple of the written part -/
def KT (K : PySem.W.Frag) (a : Addr) (xs : List V) : Prop := ∃ (o : Obj) (its : Array Value) (n : Nat), K.lookup a = some o ∧ o.cls = .type "tuple" ∧ o.data = .seq its n ∧ its.size ≤ sizeLine ∧ Vals xs its.toList
def SL (av : Addr → Prop) (H : Hp) (a : Addr) (xs : List V) : Prop := ¬ av a ∧ H a = some (.lst xs)
def ST (K : PySem.W.Frag) (av : Addr → Prop) (H : Hp) (a : Addr) (xs : List V) : Prop := (¬ av a ∧ Rd H a (.tup xs)) ∨ KT K a xs
theorem SL.sq {K : PySem.W.Frag} {av : Addr → Prop} {H : Hp} {a : Addr} {xs : List V} (h : SL av H a xs) : SqL K H a xs := .of h.2
theorem ST.sq {K : PySem.W.Frag} {av : Addr → Prop} {H : Hp} {a : Addr} {xs : List V} (h : ST K av H a xs) : SqT K H a xs := h.elim (fun z => .inl z.2) .inr

/-- a list of the written part -/
def KL (K : PySem.W.Frag) (a : Addr) (xs : List V) : Prop := ∃ (o : Obj) (its : Array Value) (n : Nat), K.lookup a = some o ∧ o.cls = .type "list" ∧ o.dict = none ∧ o.data = .seq its n ∧ its.size ≤ sizeLine ∧ Vals xs its.toList
def SR (K : PySem.W.Frag) (av : Addr → Prop) (H : Hp) (a : Addr) (xs : List V) : Prop := (¬ av a ∧ Rd H a (.lst xs)) ∨ KL K a xs
theorem SR.sq {K : PySem.W.Frag} {av : Addr → Prop} {H : Hp} {a : Addr} {xs : List V} (h : SR K av H a xs) : SqL K H a xs := h.elim (fun z => .inl z.2) .inr
section
variable (K : PySem.W.Frag) (C : Cn)
mutual
inductive Rep (av : Addr → Prop) (H : Hp) : D → V → Prop
  | non : Rep av H .non .non
  | bl (b : Bool) : Rep av H (.bl b) (.bl b)
  | int (i : Int) : Rep av H (.int i) (.int i)
  | str (x : Str) : Rep av H (.str x) (.str x)
  | tup {xs : List D} {p : Addr} {vs : List V} : ST K av H p vs → Reps av H xs vs → Rep av H (.tup xs) (.ref p)
  | lst {xs : List D} {p : Addr} {vs : List V} : SL av H p vs → Reps av H xs vs → Rep av H (.lst xs) (.ref p)
  | ro {xs : List Int} {p : Addr} : SR K av H p (xs.map V.int) → Rep av H (.ro xs) (.ref p)
  | dic {kvs : List (D × D)} {p : Addr} {o : Obj} {ks : List (Key × V)} : ¬ av p → H p = some (.frz o (.dK ks)) → Repk av H kvs ks → Rep av H (.dic kvs) (.ref p)
  | ins {c : Nat} {fs : List D} {p dx : Addr} {l : List (Str × V)} : C.ok c = true → ¬ av p → H p = some (.ins (C.ca c) dx l) → l.map (·.1) = (C.fl c).take fs.length → Reps av H fs (l.map (·.2)) → Rep av H (.ins c fs) (.ref p)
inductive Reps (av : Addr → Prop) (H : Hp) : List D → List V → Prop
  | nil : Reps av H [] []
  | cons {x : D} {xs : List D} {v : V} {vs : List V} : Rep av H x v → Reps av H xs vs → Reps av H (x :: xs) (v :: vs)
inductive Repk (av : Addr → Prop) (H : Hp) : List (D × D) → List (Key × V) → Prop
  | nil : Repk av H [] []
  | cons {k x : D} {kvs : List (D × D)} {q : Key} {v : V} {ks : List (Key × V)} : keyOf k = some q → Rep av H x v → Repk av H kvs ks → Repk av H ((k, x) :: kvs) ((q, v) :: ks)
end
variable {K C}
/-- what does not change -/
def Fro (av : Addr → Prop) (H : Hp) (av' : Addr → Prop) (H' : Hp) : Prop := ∀ a o, H a = some o → ¬ av a → H' a = some o ∧ ¬ av' a
theorem Fro.rd {av av' : Addr → Prop} {H H' : Hp} {a : Addr} {u : HO} (f : Fro av H av' H') (h : ¬ av a ∧ Rd H a u) : ¬ av' a ∧ Rd H' a u := by
  obtain ⟨n, r | ⟨o, r⟩⟩ := h
  · exact ⟨(f a _ r n).2, .inl (f a _ r n).1⟩
  · exact ⟨(f a _ r n).2, .inr ⟨o, (f a _ r n).1⟩⟩
mutual
theorem Rep.monoH {Z : Addr → Prop} {av av' : Addr → Prop} {H H' : Hp} (f : Fro av H av' H') : ∀ {x : D} {v : V}, Rep K C av H x v → Rep K (C.h Z) av' H' x v
  | _, _, .non => .non
  | _, _, .bl b => .bl b
  | _, _, .int i => .int i
  | _, _, .str x => .str x
  | _, _, .tup s r => .tup (s.elim (fun z => .inl (f.rd z)) .inr) (Reps.monoH f r)
  | _, _, .lst s r => .lst ⟨(f _ _ s.2 s.1).2, (f _ _ s.2 s.1).1⟩ (Reps.monoH f r)
  | _, _, .ro s => .ro (s.elim (fun z => .inl (f.rd z)) .inr)
  | _, _, .dic n e r => .dic (f _ _ e n).2 (f _ _ e n).1 (Repk.monoH f r)
  | _, _, .ins k n e l r => .ins k (f _ _ e n).2 (f _ _ e n).1 l (Reps.monoH f r)
theorem Reps.monoH {Z : Addr → Prop} {av av' : Addr → Prop} {H H' : Hp} (f : Fro av H av' H') : ∀ {xs : List D} {vs : List V}, Reps K C av H xs vs → Reps K (C.h Z) av' H' xs vs
  | _, _, .nil => .nil
  | _, _, .cons r s => .cons (Rep.monoH f r) (Reps.monoH f s)
theorem Repk.monoH {Z : Addr → Prop} {av av' : Addr → Prop} {H H' : Hp} (f : Fro av H av' H') : ∀ {xs : List (D × D)} {vs : List (Key × V)}, Repk K C av H xs vs → Repk K (C.h Z) av' H' xs vs
  | _, _, .nil => .nil
  | _, _, .cons k r s => .cons k (Rep.monoH f r) (Repk.monoH f s)
end
theorem Rep.mono {av av' : Addr → Prop} {H H' : Hp} (f : Fro av H av' H') {x : D} {v : V} (r : Rep K C av H x v) : Rep K C av' H' x v := Rep.monoH (Z := C.hid) f r
theorem Reps.mono {av av' : Addr → Prop} {H H' : Hp} (f : Fro av H av' H') {x : List D} {v : List V} (r : Reps K C av H x v) : Reps K C av' H' x v := Reps.monoH (Z := C.hid) f r
theorem Repk.mono {av av' : Addr → Prop} {H H' : Hp} (f : Fro av H av' H') {x : List (D × D)} {v : List (Key × V)} (r : Repk K C av H x v) : Repk K C av' H' x v := Repk.monoH (Z := C.hid) f r
theorem Reps.len {av : Addr → Prop} {H : Hp} : ∀ {xs : List D} {vs : List V}, Reps K C av H xs vs → xs.length = vs.length
  | _, _, .nil => rfl
  | _, _, .cons _ s => congrArg Nat.succ (Reps.len s)
theorem Repk.len {av : Addr → Prop} {H : Hp} : ∀ {xs : List (D × D)} {vs : List (Key × V)}, Repk K C av H xs vs → xs.length = vs.length
  | _, _, .nil => rfl
  | _, _, .cons _ _ s => congrArg Nat.succ (Repk.len s)
theorem Reps.get {av : Addr → Prop} {H : Hp} : ∀ {xs : List D} {vs : List V} {i : Nat} {x : D}, Reps K C av H xs vs → xs[i]? = some x → ∃ v, vs[i]? = some v ∧ Rep K C av H x v
  | _, _, _, _, .nil, e => by simp at e
  | _, _, 0, _, .cons r _, e => by simp at e; subst e; exact ⟨_, rfl, r⟩
  | _, _, i + 1, x, .cons _ t, e => by
    obtain ⟨u, h1, h2⟩ := Reps.get (i := i) (x := x) t (by simpa using e)
    exact ⟨u, by simpa using h1, h2⟩
theorem Reps.app {av : Addr → Prop} {H : Hp} : ∀ {xs ys : List D} {vs us : List V}, Reps K C av H xs vs → Reps K C av H ys us → Reps K C av H (xs ++ ys) (vs ++ us)
  | _, _, _, _, .nil, s => s
  | _, _, _, _, .cons r t, s => .cons r (Reps.app t s)
theorem Reps.take {av : Addr → Prop} {H : Hp} : ∀ {xs : List D} {vs : List V} (n : Nat), Reps K C av H xs vs → Reps K C av H (xs.take n) (vs.take n)
  | _, _, 0, _ => by simpa using Reps.nil
  | _, _, n + 1, .nil => .nil
  | _, _, n + 1, .cons r t => .cons r (Reps.take n t)
theorem Reps.drop {av : Addr → Prop} {H : Hp} : ∀ {xs : List D} {vs : List V} (n : Nat), Reps K C av H xs vs → Reps K C av H (xs.drop n) (vs.drop n)
  | _, _, 0, t => t
  | _, _, n + 1, .nil => .nil
  | _, _, n + 1, .cons _ t => Reps.drop n t
theorem Reps.rev {av : Addr → Prop} {H : Hp} : ∀ {xs : List D} {vs : List V}, Reps K C av H xs vs → Reps K C av H xs.reverse vs.reverse
  | _, _, .nil => .nil
  | _, _, .cons r t => by
    rw [List.reverse_cons, List.reverse_cons]
    exact (Reps.rev t).app (.cons r .nil)
theorem Reps.rep {av : Addr → Prop} {H : Hp} {xs : List D} {vs : List V} (r : Reps K C av H xs vs) : ∀ n : Nat, Reps K C av H (List.replicate n xs).flatten (List.replicate n vs).flatten
  | 0 => .nil
  | n + 1 => by
    rw [List.replicate_succ, List.replicate_succ, List.flatten_cons, List.flatten_cons]
    exact r.app (Reps.rep r n)
mutual
theorem Rep.dp {av : Addr → Prop} {H : Hp} : ∀ {x : D} {v : V}, Rep K C av H x v → plainD x = true → Dp K H v (toPy x)
  | _, _, .non, _ => .non
  | _, _, .bl b, _ => .bl b
  | _, _, .int i, _ => .int i
  | _, _, .str x, _ => .str x
  | _, _, .tup s r, h => .tup s.sq (Reps.dp r h)
  | _, _, .lst s r, h => .lst s.sq (Reps.dp r h)
  | _, _, .ro _, h => by cases h
  | _, _, .dic _ _ _, h => by cases h
  | _, _, .ins _ _ _ _ _, h => by cases h
theorem Reps.dp {av : Addr → Prop} {H : Hp} : ∀ {xs : List D} {vs : List V}, Reps K C av H xs vs → plainDs xs = true → DpAll K H vs (toPys xs)
  | _, _, .nil, _ => .nil
  | _, _, .cons r s, h => .cons (Rep.dp r (Bool.and_eq_true_iff.mp h).1) (Reps.dp s (Bool.and_eq_true_iff.mp h).2)
end
end

/-! ### cells -/
/-- the cells' addresses that are alive -/
def AV (C : Cn) (ρ : List Addr) (h : Hs) (p : Addr) : Prop := (∃ (n : Nat) (c : Cell), ρ[n]? = some p ∧ h[n]? = some c ∧ c ≠ .dead) ∨ C.hid p
section
variable (K : PySem.W.Frag) (C : Cn)
def RepV (ρ : List Addr) (h : Hs) (H : Hp) : Vl → V → Prop
  | .d x, v => Rep K C (AV C ρ h) H x v
  | .r n, v => ∃ p, ρ[n]? = some p ∧ v = .ref p
abbrev RepVs (ρ : List Addr) (h : Hs) (H : Hp) : List Vl → List V → Prop := Paired (RepV K C ρ h H)
def CellOk (ρ : List Addr) (h : Hs) (H : Hp) : Cell → Addr → Prop
  | .dead, _ => True
  | .lst xs, p => ∃ vs, H p = some (.lst vs) ∧ RepVs K C ρ h H xs vs
  | .dic kvs, p => ∃ ks, H p = some (.dK ks) ∧ Repk K C (AV C ρ h) H kvs ks
  | .ins c fs, p => ∃ dx l, C.ok c = true ∧ H p = some (.ins (C.ca c) dx l) ∧ l.map (·.1) = (C.fl c).take fs.length ∧ RepVs K C ρ h H fs (l.map (·.2))
structure Sim (ρ : List Addr) (h : Hs) (H : Hp) : Prop where
  len : ρ.length = h.length
  inj : ∀ (i j : Nat) (p : Addr) (c d : Cell), ρ[i]? = some p → ρ[j]? = some p → h[i]? = some c → h[j]? = some d → c ≠ .dead → d ≠ .dead → i = j
  ok : ∀ (n : Nat) c p, h[n]? = some c → ρ[n]? = some p → CellOk K C ρ h H c p
  hd : ∀ (n : Nat) (c : Cell) (p : Addr), ρ[n]? = some p → h[n]? = some c → c ≠ .dead → ¬ C.hid p
  ht : ∀ p, C.hid p → ∃ o, H p = some o
def SimE (ρ : List Addr) (h : Hs) (H : Hp) (e : Env) (σ : L2.St) : Prop := e.length = σ.length ∧ ∀ (i : Nat) v, e[i]? = some (some v) → ∃ u, σ[i]? = some (some u) ∧ RepV K C ρ h H v u
structure Ext (C : Cn) (ρ : List Addr) (h : Hs) (H : Hp) (ρ' : List Addr) (h' : Hs) (H' : Hp) : Prop where
  pre : ∀ (n : Nat) p, ρ[n]? = some p → ρ'[n]? = some p
  fro : Fro (AV C ρ h) H (AV C ρ' h') H'
  hid : ∀ p, C.hid p → H' p = H p
variable {K C}
theorem Ext.refl {ρ : List Addr} {h : Hs} {H : Hp} : Ext C ρ h H ρ h H := ⟨fun _ _ e => e, fun _ _ e n => ⟨e, n⟩, fun _ _ => rfl⟩
theorem Ext.trans {ρ ρ' ρ'' : List Addr} {h h' h'' : Hs} {H H' H'' : Hp} (a : Ext C ρ h H ρ' h' H') (b : Ext C ρ' h' H' ρ'' h'' H'') : Ext C ρ h H ρ'' h'' H'' :=
  ⟨fun n p e => b.pre n p (a.pre n p e), fun x o e n => b.fro x o (a.fro x o e n).1 (a.fro x o e n).2, fun p z => (b.hid p z).trans (a.hid p z)⟩
theorem RepV.mono {ρ ρ' : List Addr} {h h' : Hs} {H H' : Hp} (x : Ext C ρ h H ρ' h' H') {v : Vl} {u : V} (r : RepV K C ρ h H v u) : RepV K C ρ' h' H' v u := by
  cases v with
  | d y => exact Rep.mono x.fro r
  | r n =>
    obtain ⟨p, e, q⟩ := r
    exact ⟨p, x.pre n p e, q⟩
theorem RepVs.mono {ρ ρ' : List Addr} {h h' : Hs} {H H' : Hp} (x : Ext C ρ h H ρ' h' H') {vs : List Vl} {us : List V} (r : RepVs K C ρ h H vs us) : RepVs K C ρ' h' H' vs us :=
  Paired.mapP r fun _ _ z => z.mono x
theorem SimE.mono {ρ ρ' : List Addr} {h h' : Hs} {H H' : Hp} (x : Ext C ρ h H ρ' h' H') {e : Env} {σ : L2.St} (s : SimE K C ρ h H e σ) : SimE K C ρ' h' H' e σ :=
  ⟨s.1, fun i v q => let ⟨u, a, b⟩ := s.2 i v q; ⟨u, a, b.mono x⟩⟩
theorem RepVs.len {ρ : List Addr} {h : Hs} {H : Hp} {vs : List Vl} {us : List V} (r : RepVs K C ρ h H vs us) : vs.length = us.length := Paired.length r
theorem Paired.get' {α β : Type} {R : α → β → Prop} : ∀ {xs : List α} {ys : List β} {i : Nat} {x : α}, Paired R xs ys → xs[i]? = some x → ∃ y, ys[i]? = some y ∧ R x y
  | _, _, _, _, .nil, e => by simp at e
  | _, _, 0, _, .cons r _, e => by simp at e; subst e; exact ⟨_, rfl, r⟩
  | _, _, i + 1, x, .cons _ t, e => by
    obtain ⟨u, h1, h2⟩ := Paired.get' (i := i) (x := x) t (by simpa using e)
    exact ⟨u, by simpa using h1, h2⟩
theorem Paired.app' {α β : Type} {R : α → β → Prop} : ∀ {xs xs' : List α} {ys ys' : List β}, Paired R xs ys → Paired R xs' ys' → Paired R (xs ++ xs') (ys ++ ys')
  | _, _, _, _, .nil, s => s
  | _, _, _, _, .cons r t, s => .cons r (Paired.app' t s)
theorem Paired.set' {α β : Type} {R : α → β → Prop} {x : α} {y : β} (q : R x y) : ∀ {xs : List α} {ys : List β} (i : Nat), Paired R xs ys → Paired R (xs.set i x) (ys.set i y)
  | _, _, _, .nil => .nil
  | _, _, 0, .cons _ t => .cons q t
  | _, _, i + 1, .cons r t => .cons r (Paired.set' q i t)
theorem Paired.erase' {α β : Type} {R : α → β → Prop} : ∀ {xs : List α} {ys : List β} (i : Nat), Paired R xs ys → Paired R (xs.eraseIdx i) (ys.eraseIdx i)
  | _, _, _, .nil => .nil
  | _, _, 0, .cons _ t => t
  | _, _, i + 1, .cons r t => .cons r (Paired.erase' i t)
theorem Paired.take' {α β : Type} {R : α → β → Prop} : ∀ {xs : List α} {ys : List β} (i : Nat), Paired R xs ys → Paired R (xs.take i) (ys.take i)
  | _, _, 0, _ => by simpa using Paired.nil
  | _, _, i + 1, .nil => .nil
  | _, _, i + 1, .cons r t => .cons r (Paired.take' i t)
theorem Paired.drop' {α β : Type} {R : α → β → Prop} : ∀ {xs : List α} {ys : List β} (i : Nat), Paired R xs ys → Paired R (xs.drop i) (ys.drop i)
  | _, _, 0, t => t
  | _, _, i + 1, .nil => .nil
  | _, _, i + 1, .cons r t => Paired.drop' i t
theorem Paired.rev' {α β : Type} {R : α → β → Prop} : ∀ {xs : List α} {ys : List β}, Paired R xs ys → Paired R xs.reverse ys.reverse
  | _, _, .nil => .nil
  | _, _, .cons r t => by
    rw [List.reverse_cons, List.reverse_cons]
    exact Paired.app' (Paired.rev' t) (.cons r .nil)
theorem Paired.rep' {α β : Type} {R : α → β → Prop} {xs : List α} {ys : List β} (r : Paired R xs ys) : ∀ n : Nat, Paired R (List.replicate n xs).flatten (List.replicate n ys).flatten
  | 0 => .nil
  | n + 1 => by
    rw [List.replicate_succ, List.replicate_succ, List.flatten_cons, List.flatten_cons]
    exact Paired.app' r (Paired.rep' r n)
theorem Paired.dropLast' {α β : Type} {R : α → β → Prop} : ∀ {xs : List α} {ys : List β}, Paired R xs ys → Paired R xs.dropLast ys.dropLast
  | _, _, .nil => .nil
  | [_], _, .cons r .nil => .nil
  | _ :: _ :: _, _, .cons r (.cons q t) => .cons r (Paired.dropLast' (.cons q t))
theorem reps_of_ds {ρ : List Addr} {h : Hs} {H : Hp} : ∀ {xs : List D} {us : List V}, RepVs K C ρ h H (xs.map .d) us → Reps K C (AV C ρ h) H xs us
  | [], _, .nil => .nil
  | _ :: _, _, .cons r t => .cons r (reps_of_ds t)
theorem ds_of_reps {ρ : List Addr} {h : Hs} {H : Hp} : ∀ {xs : List D} {us : List V}, Reps K C (AV C ρ h) H xs us → RepVs K C ρ h H (xs.map .d) us
  | [], _, .nil => .nil
  | _ :: _, _, .cons r t => .cons r (ds_of_reps t)
theorem allD_eq : ∀ {vs : List Vl} {xs : List D}, allD vs = some xs → vs = xs.map .d
  | [], xs, h => by cases h; rfl
  | .d x :: r, xs, h => by
    have h' : (allD r).map (x :: ·) = some xs := h
    cases e : allD r with
    | none => rw [e] at h'; cases h'
    | some ys =>
      rw [e] at h'
      cases h'
      rw [allD_eq e]
      rfl
  | .r _ :: _, _, h => by cases h

/-! ### steps of the heap -/
/-- all that is tracked stays -/
theorem CellOk.mono {ρ ρ' : List Addr} {h h' : Hs} {H H' : Hp} (x : Ext C ρ h H ρ' h' H') {c : Cell} {p : Addr} (hp : c ≠ .dead → H' p = H p) (r : CellOk K C ρ h H c p) : CellOk K C ρ' h' H' c p := by
  cases c with
  | dead => trivial
  | lst xs =>
    obtain ⟨vs, e, q⟩ := r
    exact ⟨vs, (hp (by intro z; cases z)).trans e, RepVs.mono x q⟩
  | dic kvs =>
    obtain ⟨ks, e, q⟩ := r
    exact ⟨ks, (hp (by intro z; cases z)).trans e, q.mono x.fro⟩
  | ins c fs =>
    obtain ⟨dx, l, k, e, n, q⟩ := r
    exact ⟨dx, l, k, (hp (by intro z; cases z)).trans e, n, RepVs.mono x q⟩
theorem CellOk.there {ρ : List Addr} {h : Hs} {H : Hp} {c : Cell} {p : Addr} (r : CellOk K C ρ h H c p) (n : c ≠ .dead) : ∃ o, H p = some o := by
  cases c with
  | dead => exact absurd rfl n
  | lst xs => obtain ⟨_, e, _⟩ := r; exact ⟨_, e⟩
  | dic kvs => obtain ⟨_, e, _⟩ := r; exact ⟨_, e⟩
  | ins c fs => obtain ⟨_, _, _, e, _⟩ := r; exact ⟨_, e⟩
theorem Sim.av {ρ : List Addr} {h : Hs} {H : Hp} (S : Sim K C ρ h H) {p : Addr} (a : AV C ρ h p) : ∃ o, H p = some o := by
  rcases a with ⟨n, c, e1, e2, e3⟩ | z
  · exact (S.ok n c p e2 e1).there e3
  · exact S.ht p z
theorem ext_same {ρ : List Addr} {h : Hs} {H H' : Hp} (S : Sim K C ρ h H) (k : ∀ a o, H a = some o → H' a = some o) : Ext C ρ h H ρ h H' := ⟨fun _ _ e => e, fun a o e n => ⟨k a o e, n⟩, fun p z => by
    obtain ⟨o, e⟩ := S.ht p z
    rw [e]
    exact k p o e⟩
theorem Sim.same {ρ : List Addr} {h : Hs} {H H' : Hp} (S : Sim K C ρ h H) (k : ∀ a o, H a = some o → H' a = some o) : Sim K C ρ h H' :=
  ⟨S.len, S.inj, fun n c p e1 e2 => (S.ok n c p e1 e2).mono (ext_same S k) fun nd => by
    obtain ⟨o, e⟩ := (S.ok n c p e1 e2).there nd
    rw [e]
    exact k p o e, S.hd, fun p z => by
    obtain ⟨o, e⟩ := S.ht p z
    exact ⟨o, k p o e⟩⟩
theorem upd_keeps {H : Hp} {p : Addr} {o : HO} (n : H p = none) : ∀ a u, H a = some u → upd H p o a = some u := fun a u e => by
  rw [upd_ne (ne_of_none e n)]
  exact e
theorem get_push {α : Type} {xs : List α} {x : α} {n : Nat} {y : α} (e : (xs ++ [x])[n]? = some y) : xs[n]? = some y ∨ (n = xs.length ∧ x = y) := by
  by_cases hn : n < xs.length
  · rw [List.getElem?_append_left hn] at e
    exact .inl e
  · have hn2 : n = xs.length := by
      have : n < (xs ++ [x]).length := (List.getElem?_eq_some_iff.mp e).1
      rw [List.length_append] at this
      simp at this
      omega
    subst hn2
    rw [List.getElem?_append_right (Nat.le_refl _)] at e
    simp at e
    exact .inr ⟨rfl, e⟩
theorem get_pushed {α : Type} {xs : List α} {x : α} {n : Nat} {y : α} (e : xs[n]? = some y) : (xs ++ [x])[n]? = some y := by
  rw [List.getElem?_append_left (List.getElem?_eq_some_iff.mp e).1]
  exact e
/-- a new cell at p -/
theorem ext_cell {ρ : List Addr} {h : Hs} {H : Hp} {p : Addr} {o : HO} {c : Cell} (S : Sim K C ρ h H) (n : H p = none) : Ext C ρ h H (ρ ++ [p]) (h ++ [c]) (upd H p o) := by
  refine ⟨fun i q e => get_pushed e, fun a u e na => ⟨upd_keeps n a u e, fun w => ?_⟩, fun q z => ?_⟩
  · rcases w with ⟨i, d, e1, e2, e3⟩ | w
    · rcases get_push e1 with z | ⟨z1, z2⟩
      · have hi : i < h.length := by
          rw [← S.len]
          exact (List.getElem?_eq_some_iff.mp z).1
        rw [List.getElem?_append_left hi] at e2
        exact na (.inl ⟨i, d, z, e2, e3⟩)
      · rw [z2] at n
        rw [n] at e
        cases e
    · exact na (.inr w)
  · obtain ⟨o, e⟩ := S.ht q z
    rw [e]
    exact upd_keeps n q o e
theorem Sim.cell {ρ : List Addr} {h : Hs} {H : Hp} {p : Addr} {o : HO} {c : Cell} (S : Sim K C ρ h H) (n : H p = none) (ok : CellOk K C (ρ ++ [p]) (h ++ [c]) (upd H p o) c p) : Sim K C (ρ ++ [p]) (h ++ [c]) (upd H p o) := by
  have notp : ∀ (i : Nat) d, ρ[i]? = some p → h[i]? = some d → d ≠ .dead → False := fun i d e1 e2 e3 => by
    obtain ⟨u, e⟩ := S.av (.inl ⟨i, d, e1, e2, e3⟩)
    rw [n] at e
    cases e
  refine ⟨by rw [List.length_append, List.length_append, S.len]; rfl, fun i j q c1 c2 e1 e2 e3 e4 n1 n2 => ?_, fun i d q e1 e2 => ?_, fun i d q e1 e2 e3 z => ?_, fun q z => ?_⟩
  · rcases get_push e1 with z | ⟨z1, z2⟩
    · have hi : i < h.length := by rw [← S.len]; exact (List.getElem?_eq_some_iff.mp z).1
      rw [List.getElem?_append_left hi] at e3
      rcases get_push e2 with y | ⟨y1, y2⟩
      · have hj : j < h.length := by rw [← S.len]; exact (List.getElem?_eq_some_iff.mp y).1
        rw [List.getElem?_append_left hj] at e4
        exact S.inj i j q c1 c2 z y e3 e4 n1 n2
      · subst y2
        exact (notp i c1 z e3 n1).elim
    · subst z2
      rcases get_push e2 with y | ⟨y1, y2⟩
      · have hj : j < h.length := by rw [← S.len]; exact (List.getElem?_eq_some_iff.mp y).1
        rw [List.getElem?_append_left hj] at e4
        exact (notp j c2 y e4 n2).elim
      · rw [z1, y1]
  · rcases get_push e2 with z | ⟨z1, z2⟩
    · have hi : i < h.length := by rw [← S.len]; exact (List.getElem?_eq_some_iff.mp z).1
      rw [List.getElem?_append_left hi] at e1
      refine (S.ok i d q e1 z).mono (ext_cell S n) fun nd => ?_
      refine upd_ne fun w => ?_
      subst w
      exact notp i d z e1 nd
    · subst z2
      rcases get_push e1 with y | ⟨y1, y2⟩
      · exact absurd (List.getElem?_eq_some_iff.mp y).1 (by rw [z1, S.len]; exact Nat.lt_irrefl _)
      · rw [← y2]
        exact ok
  · rcases get_push e1 with y | ⟨y1, y2⟩
    · have hi : i < h.length := by rw [← S.len]; exact (List.getElem?_eq_some_iff.mp y).1
      rw [List.getElem?_append_left hi] at e2
      exact S.hd i d q y e2 e3 z
    · rw [← y2] at z
      obtain ⟨o, e⟩ := S.ht p z
      rw [n] at e
      cases e
  · obtain ⟨o, e⟩ := S.ht q z
    exact ⟨o, upd_keeps n q o e⟩
theorem get_set {α : Type} {xs : List α} {x : α} {n i : Nat} {y : α} (e : (xs.set n x)[i]? = some y) : (i ≠ n ∧ xs[i]? = some y) ∨ (i = n ∧ x = y) := by
  by_cases hn : n = i
  · subst hn
    have hl : n < xs.length := by
      have := (List.getElem?_eq_some_iff.mp e).1
      simpa using this
    rw [List.getElem?_set_self hl] at e
    exact .inr ⟨rfl, Option.some.inj e⟩
  · rw [List.getElem?_set_ne hn] at e
    exact .inl ⟨fun z => hn z.symm, e⟩
/-- a cell is written (or dies: then the heap stays) -/
theorem ext_set {ρ : List Addr} {h : Hs} {H H' : Hp} {n : Nat} {p : Addr} {c c' : Cell} (S : Sim K C ρ h H) (hn : ρ[n]? = some p) (hc : h[n]? = some c) (nd : c ≠ .dead) (k : ∀ a, a ≠ p → H' a = H a) : Ext C ρ h H ρ (h.set n c') H' := by
  refine ⟨fun _ _ e => e, fun a o e na => ?_, fun q z => k q fun w => S.hd n c p hn hc nd (w ▸ z)⟩
  have ne : a ≠ p := fun z => by
    subst z
    exact na (.inl ⟨n, c, hn, hc, nd⟩)
  refine ⟨(k a ne).trans e, fun w => ?_⟩
  rcases w with ⟨i, d, e1, e2, e3⟩ | w
  · rcases get_set e2 with ⟨z1, z2⟩ | ⟨z1, z2⟩
    · exact na (.inl ⟨i, d, e1, z2, e3⟩)
    · subst z1
      rw [hn] at e1
      exact ne (Option.some.inj e1).symm
  · exact na (.inr w)
theorem Sim.set {ρ : List Addr} {h : Hs} {H H' : Hp} {n : Nat} {p : Addr} {c c' : Cell} (S : Sim K C ρ h H) (hn : ρ[n]? = some p) (hc : h[n]? = some c) (nd : c ≠ .dead) (k : ∀ a, a ≠ p → H' a = H a)
    (ok : CellOk K C ρ (h.set n c') H' c' p) : Sim K C ρ (h.set n c') H' := by
  refine ⟨by rw [List.length_set]; exact S.len, fun i j q c1 c2 e1 e2 e3 e4 n1 n2 => ?_, fun i d q e1 e2 => ?_, fun i d q e1 e2 e3 => ?_, fun q z => ?_⟩
  · rcases get_set e3 with ⟨z1, z2⟩ | ⟨z1, z2⟩
    · rcases get_set e4 with ⟨y1, y2⟩ | ⟨y1, y2⟩
      · exact S.inj i j q c1 c2 e1 e2 z2 y2 n1 n2
      · subst y1
        rw [hn] at e2
        cases e2
        exact S.inj i j p c1 c e1 hn z2 hc n1 nd
    · subst z1
      rw [hn] at e1
      cases e1
      rcases get_set e4 with ⟨y1, y2⟩ | ⟨y1, y2⟩
      · exact S.inj i j p c c2 hn e2 hc y2 nd n2
      · exact y1.symm
  · rcases get_set e1 with ⟨z1, z2⟩ | ⟨z1, z2⟩
    · refine (S.ok i d q z2 e2).mono (ext_set S hn hc nd k) fun dd => k q fun w => ?_
      subst w
      exact z1 (S.inj i n q d c e2 hn z2 hc dd nd)
    · subst z1
      rw [hn] at e2
      cases e2
      rw [← z2]
      exact ok
  · rcases get_set e2 with ⟨z1, z2⟩ | ⟨z1, z2⟩
    · exact S.hd i d q e1 z2 e3
    · subst z1
      rw [hn] at e1
      cases e1
      exact S.hd i c p hn hc nd
  · obtain ⟨o, e⟩ := S.ht q z
    exact ⟨o, (k q fun w => S.hd n c p hn hc nd (w ▸ z)).trans e⟩
theorem get_taken {α : Type} {xs : List α} {n i : Nat} {y : α} (e : (xs.take n)[i]? = some y) : i < n ∧ xs[i]? = some y := by
  have h1 := (List.getElem?_eq_some_iff.mp e).1
  rw [List.length_take] at h1
  have : i < n := by omega
  rw [List.getElem?_take_of_lt this] at e
  exact ⟨this, e⟩
theorem AV.take {ρ : List Addr} {h : Hs} {n : Nat} {p : Addr} (a : AV C (ρ.take n) (h.take n) p) : AV C ρ h p := by
  rcases a with ⟨i, c, e1, e2, e3⟩ | z
  · exact .inl ⟨i, c, (get_taken e1).2, (get_taken e2).2, e3⟩
  · exact .inr z
theorem fro_take {ρ : List Addr} {h : Hs} {H : Hp} (n : Nat) : Fro (AV C ρ h) H (AV C (ρ.take n) (h.take n)) H := fun a o e na => ⟨e, fun z => na z.take⟩
theorem lowV_mono {ρ : List Addr} {h : Hs} {H : Hp} {n : Nat} {v : Vl} {u : V} (l : lowV n v = true) (r : RepV K C ρ h H v u) : RepV K C (ρ.take n) (h.take n) H v u := by
  cases v with
  | d x => exact Rep.mono (fro_take n) r
  | r k =>
    obtain ⟨p, e, q⟩ := r
    have hk : k < n := of_decide_eq_true l
    exact ⟨p, by rw [List.getElem?_take_of_lt hk]; exact e, q⟩
theorem lowVs_mono {ρ : List Addr} {h : Hs} {H : Hp} {n : Nat} : ∀ {vs : List Vl} {us : List V}, vs.all (lowV n) = true → RepVs K C ρ h H vs us → RepVs K C (ρ.take n) (h.take n) H vs us
  | [], _, _, .nil => .nil
  | v :: vs, _, l, .cons r t => by
    rw [List.all_cons, Bool.and_eq_true_iff] at l
    exact .cons (lowV_mono l.1 r) (lowVs_mono l.2 t)
theorem lowC_mono {ρ : List Addr} {h : Hs} {H : Hp} {n : Nat} {c : Cell} {p : Addr} (l : lowC n c = true) (r : CellOk K C ρ h H c p) : CellOk K C (ρ.take n) (h.take n) H c p := by
  cases c with
  | dead => trivial
  | lst xs =>
    obtain ⟨vs, e, q⟩ := r
    exact ⟨vs, e, lowVs_mono l q⟩
  | dic kvs =>
    obtain ⟨ks, e, q⟩ := r
    exact ⟨ks, e, q.mono (fro_take n)⟩
  | ins c fs =>
    obtain ⟨dx, ls, k, e, z, q⟩ := r
    exact ⟨dx, ls, k, e, z, lowVs_mono l q⟩
/-- the cells from n on are forgotten -/
theorem Sim.take {ρ : List Addr} {h : Hs} {H : Hp} (S : Sim K C ρ h H) (n : Nat) (l : (h.take n).all (lowC n) = true) : Sim K C (ρ.take n) (h.take n) H := by
  refine ⟨by rw [List.length_take, List.length_take, S.len], fun i j p c d e1 e2 e3 e4 n1 n2 => S.inj i j p c d (get_taken e1).2 (get_taken e2).2 (get_taken e3).2 (get_taken e4).2 n1 n2, fun i c p e1 e2 => ?_, fun i c p e1 e2 e3 => S.hd i c p (get_taken e1).2 (get_taken e2).2 e3, S.ht⟩
  exact lowC_mono (List.all_eq_true.mp l c (List.mem_of_getElem? e1)) (S.ok i c p (get_taken e1).2 (get_taken e2).2)
end
end L3
/-! L3: what an outcome promises. -/
namespace L3
open PySem PySem.Spec PyProof.Rows L2

section
variable (K : PySem.W.Frag) (C : Cn)
/-- an exception as it flies: its class, its attributes -/
def RepX (ρ : List Addr) (h : Hs) (H : Hp) (x : D) (cls : Value) (d : Option Addr) : Prop := match x with
  | .exc c fs => cls = .ref (C.ca c) ∧ ((fs = [] ∧ d = none) ∨ ∃ dd l, d = some dd ∧ H dd = some (.xd l) ∧ fs ≠ [] ∧ l.map (·.1) = (C.fl c).take fs.length ∧ Reps K C (AV C ρ h) H fs (l.map (·.2)))
  | _ => False
def OkO {α β : Type} (R : List Addr → Hs → Hp → α → β → Prop) (ρ : List Addr) (h : Hs) (H : Hp) (o : Out α) (Q : β → Hp → Prop) (E : XK) : Prop := match o with
  | .ok v h' => ∀ (u : β) (H' : Hp) (ρ' : List Addr), Ext C ρ h H ρ' h' H' → Sim K C ρ' h' H' → R ρ' h' H' v u → Q u H'
  | .ex x h' => ∀ (cls : Value) (d : Option Addr) (H' : Hp) (ρ' : List Addr), Ext C ρ h H ρ' h' H' → Sim K C ρ' h' H' → RepX K C ρ' h' H' x cls d → E cls d H'
  | .bad => False
abbrev OkV := OkO K C (RepV K C)
abbrev OkVs := OkO K C (RepVs K C)
variable {K C}
section
variable {α β : Type} {R : List Addr → Hs → Hp → α → β → Prop} {ρ ρ' : List Addr} {h h' : Hs} {H H' : Hp} {o : Out α} {Q Q' : β → Hp → Prop} {E E' : XK}
theorem OkO.mono (x : Ext C ρ h H ρ' h' H') (k : OkO K C R ρ h H o Q E) : OkO K C R ρ' h' H' o Q E := by
  cases o with
  | ok v h1 => exact fun u H1 ρ1 y => k u H1 ρ1 (x.trans y)
  | ex v h1 => exact fun c d H1 ρ1 y => k c d H1 ρ1 (x.trans y)
  | bad => exact k
theorem OkO.imp (k : OkO K C R ρ h H o Q E) (q : ∀ u H, Q u H → Q' u H) (e : ∀ c d H, E c d H → E' c d H) : OkO K C R ρ h H o Q' E' := by
  cases o with
  | ok v h1 => exact fun u H1 ρ1 y s r => q _ _ (k u H1 ρ1 y s r)
  | ex v h1 => exact fun c d H1 ρ1 y s r => e _ _ _ (k c d H1 ρ1 y s r)
  | bad => exact k
/-- the first part of a bind -/
theorem OkO.first {γ : Type} {R' : List Addr → Hs → Hp → α → γ → Prop} {δ ε : Type} {S : List Addr → Hs → Hp → δ → ε → Prop} {f : α → Hs → Out δ} {P : ε → Hp → Prop} {Q : γ → Hp → Prop} (k : OkO K C S ρ h H (o.bind f) P E)
    (n : ∀ v h1 u H1 ρ1, Ext C ρ h H ρ1 h1 H1 → Sim K C ρ1 h1 H1 → R' ρ1 h1 H1 v u → OkO K C S ρ1 h1 H1 (f v h1) P E → Q u H1) : OkO K C R' ρ h H o Q E := by
  cases o with
  | ok v h1 => exact fun u H1 ρ1 y s r => n v h1 u H1 ρ1 y s r (OkO.mono y k)
  | ex v h1 => exact k
  | bad => exact k
end
section
variable {ρ : List Addr} {h : Hs} {H : Hp} {Q : VK} {E : XK}
theorem okV_d {x : D} {u : V} (S : Sim K C ρ h H) (k : OkV K C ρ h H (.ok (.d x) h) Q E) (r : Rep K C (AV C ρ h) H x u) : Q u H := k u H ρ Ext.refl S r
theorem okV_v {v : Vl} {u : V} (S : Sim K C ρ h H) (k : OkV K C ρ h H (.ok v h) Q E) (r : RepV K C ρ h H v u) : Q u H := k u H ρ Ext.refl S r
/-- a new frozen object -/
theorem okV_new {x : D} {o : HO} {p : Addr} (S : Sim K C ρ h H) (k : OkV K C ρ h H (.ok (.d x) h) Q E) (n : H p = none) (r : ∀ H', (∀ a u, H a = some u → H' a = some u) → H' p = some o → ¬ AV C ρ h p → Rep K C (AV C ρ h) H' x (.ref p)) : Q (.ref p) (upd H p o) :=
  k (.ref p) _ ρ (ext_same S (upd_keeps n)) (S.same (upd_keeps n)) (r _ (upd_keeps n) upd_same fun a => by
    obtain ⟨z, e⟩ := S.av a
    rw [n] at e
    cases e)
end

/-! ### readings -/
/-- the wish of exceptions at given slots -/
abbrev WE' (W : WX) (σ : L2.St) : XK := fun c d H => W c d σ H
variable (K C)
def tM (W : WX) (m : Env → Hs → Out Vl) : TE := fun σ H Q => ∃ (e : Env) (h : Hs) (ρ : List Addr), Sim K C ρ h H ∧ SimE K C ρ h H e σ ∧ OkV K C ρ h H (m e h) Q (WE' W σ)
def tMs (W : WX) (m : Env → Hs → Out (List Vl)) : TA := fun σ H Q => ∃ (e : Env) (h : Hs) (ρ : List Addr), Sim K C ρ h H ∧ SimE K C ρ h H e σ ∧ OkVs K C ρ h H (m e h) Q (WE' W σ)
def tMt (W : WX) (m : Env → Hs → Out Vl) : TT := fun σ H Q => ∃ (e : Env) (h : Hs) (ρ : List Addr), Sim K C ρ h H ∧ SimE K C ρ h H e σ ∧ OkV K C ρ h H (m e h) (fun v H1 => ∃ b, v = .bl b ∧ Q b H1) (WE' W σ)
variable {K C}
theorem PE.imp {X : Cx} {e : Expr} {t t' : TE} (h : PE X e t) (i : ∀ σ H Q, t' σ H Q → t σ H Q) : PE X e t' := ⟨fun pins s σ H Q I q => h.run pins s σ H Q I (i σ H Q q)⟩
theorem PA.imp {X : Cx} {e : List Expr} {t t' : TA} (h : PA X e t) (i : ∀ σ H Q, t' σ H Q → t σ H Q) : PA X e t' := ⟨fun pos pins s σ H Q I q => h.run pos pins s σ H Q I (i σ H Q q)⟩
theorem PT.imp {X : Cx} {e : Expr} {t t' : TT} (h : PT X e t) (i : ∀ σ H Q, t' σ H Q → t σ H Q) : PT X e t' := ⟨fun pins s σ H Q I q => h.run pins s σ H Q I (i σ H Q q)⟩
theorem PS.imp {X : Cx} {e : Stmt} {t t' : TS} (h : PS X e t) (i : ∀ D σ H, t' D σ H → t D σ H) : PS X e t' := ⟨fun pins s σ H Q I q => h.run pins s σ H Q I (i Q σ H q)⟩
theorem PSs.imp {X : Cx} {e : List Stmt} {t t' : TS} (h : PSs X e t) (i : ∀ D σ H, t' D σ H → t D σ H) : PSs X e t' := ⟨fun pins s σ H Q I q => h.run pins s σ H Q I (i Q σ H q)⟩
theorem PI.imp {X : Cx} {tg e : Expr} {t t' : TI} (h : PI X tg e t) (i : ∀ σ H R, t' σ H R → t σ H R) : PI X tg e t' := ⟨fun pins s σ H R I q => h.run pins s σ H R I (i σ H R q)⟩
section
variable {W : WX} {σ : L2.St} {H : Hp} {e : Env} {h : Hs} {ρ : List Addr}
/-- a part is run first -/
theorem tM_first {m : Env → Hs → Out Vl} {δ ε : Type} {S : List Addr → Hs → Hp → δ → ε → Prop} {f : Vl → Hs → Out δ} {P : ε → Hp → Prop} {Q : VK} (s : Sim K C ρ h H) (se : SimE K C ρ h H e σ) (k : OkO K C S ρ h H ((m e h).bind f) P (WE' W σ))
    (n : ∀ v h1 u H1 ρ1, Ext C ρ h H ρ1 h1 H1 → Sim K C ρ1 h1 H1 → SimE K C ρ1 h1 H1 e σ → RepV K C ρ1 h1 H1 v u → OkO K C S ρ1 h1 H1 (f v h1) P (WE' W σ) → Q u H1) : tM K C W m σ H Q :=
  ⟨e, h, ρ, s, se, OkO.first k fun v h1 u H1 ρ1 x s1 r q => n v h1 u H1 ρ1 x s1 (se.mono x) r q⟩
theorem tMs_first {m : Env → Hs → Out (List Vl)} {δ ε : Type} {S : List Addr → Hs → Hp → δ → ε → Prop} {f : List Vl → Hs → Out δ} {P : ε → Hp → Prop} {Q : List V → Hp → Prop} (s : Sim K C ρ h H) (se : SimE K C ρ h H e σ) (k : OkO K C S ρ h H ((m e h).bind f) P (WE' W σ))
    (n : ∀ v h1 u H1 ρ1, Ext C ρ h H ρ1 h1 H1 → Sim K C ρ1 h1 H1 → SimE K C ρ1 h1 H1 e σ → RepVs K C ρ1 h1 H1 v u → OkO K C S ρ1 h1 H1 (f v h1) P (WE' W σ) → Q u H1) : tMs K C W m σ H Q :=
  ⟨e, h, ρ, s, se, OkO.first k fun v h1 u H1 ρ1 x s1 r q => n v h1 u H1 ρ1 x s1 (se.mono x) r q⟩
theorem tMt_first {m : Env → Hs → Out Vl} {δ ε : Type} {S : List Addr → Hs → Hp → δ → ε → Prop} {f : Vl → Hs → Out δ} {P : ε → Hp → Prop} {Q : Bool → Hp → Prop} (s : Sim K C ρ h H) (se : SimE K C ρ h H e σ) (k : OkO K C S ρ h H ((m e h).bind f) P (WE' W σ))
    (n : ∀ v h1 u H1 ρ1, Ext C ρ h H ρ1 h1 H1 → Sim K C ρ1 h1 H1 → SimE K C ρ1 h1 H1 e σ → RepV K C ρ1 h1 H1 v u → OkO K C S ρ1 h1 H1 (f v h1) P (WE' W σ) → ∃ b, u = .bl b ∧ Q b H1) : tMt K C W m σ H Q :=
  ⟨e, h, ρ, s, se, OkO.first k fun v h1 u H1 ρ1 x s1 r q => n v h1 u H1 ρ1 x s1 (se.mono x) r q⟩
theorem repV_bl {b : Bool} {u : V} (r : RepV K C ρ h H (.d (.bl b)) u) : u = .bl b := by cases r; rfl
theorem repV_int {i : Int} {u : V} (r : RepV K C ρ h H (.d (.int i)) u) : u = .int i := by cases r; rfl
theorem repV_str {i : Str} {u : V} (r : RepV K C ρ h H (.d (.str i)) u) : u = .str i := by cases r; rfl
theorem repV_non {u : V} (r : RepV K C ρ h H (.d .non) u) : u = .non := by cases r; rfl
/-- asB's question -/
theorem asB_ok {S : List Addr → Hs → Hp → Vl → V → Prop} {v : Vl} {k : Bool → Hs → Out Vl} {P : VK} {E : XK} (q : OkO K C S ρ h H (asB v h k) P E) : ∃ b, v = .d (.bl b) ∧ OkO K C S ρ h H (k b h) P E := by
  cases v with
  | r n => exact q.elim
  | d x =>
    cases x with
    | bl b => exact ⟨b, rfl, q⟩
    | _ => exact q.elim
end
/-! ### core forms, over any meaning of their parts -/
section
variable {X : Cx} {W : WX} {a b c : Expr} {ma mb mc : Env → Hs → Out Vl} {pos : Pos}
theorem c_var {i : Nat} {x : Str} (hN : X.N[i]? = some x) (hv : Vis X.env.scope x) (hd : (x == ("__debug__" : Str)) = false) (hcd : (x == ("__classdict__" : Str)) = false) : PE X (.Name x pos) (tM K C W fun e h => match e[i]? with
    | some (some v) => .ok v h
    | _ => .bad) := by
  refine PE.imp (pe_var hN hv hd hcd) fun σ H Q q => ?_
  obtain ⟨e, h, ρ, S, SE, k⟩ := q
  dsimp only at k
  cases q : e[i]? with
  | none => rw [q] at k; exact k.elim
  | some o =>
    rw [q] at k
    cases o with
    | none => exact k.elim
    | some v =>
      obtain ⟨u, e1, r⟩ := SE.2 i v q
      exact ⟨u, e1, okV_v S k r⟩
theorem c_and {rest : List Expr} (ha : PE X a (tM K C W ma)) (hb : PE X (.BoolOp .And (b :: rest) pos) (tM K C W mb)) : PE X (.BoolOp .And (a :: b :: rest) pos) (tM K C W fun e h => (ma e h).bind fun v h1 => asB v h1 fun c h1 => if c = true then mb e h1 else .ok (.d (.bl false)) h1) := by
  refine PE.imp (pe_and ha hb) fun σ H Q q => ?_
  obtain ⟨e, h, ρ, S, SE, k⟩ := q
  refine tM_first S SE k fun v h1 u H1 ρ1 x S1 SE1 r k1 => ?_
  obtain ⟨t, rfl, k2⟩ := asB_ok k1
  refine ⟨t, repV_bl r, ?_⟩
  cases t with
  | true => exact ⟨e, h1, ρ1, S1, SE1, k2⟩
  | false => exact okV_d S1 k2 (.bl false)
theorem c_or {rest : List Expr} (ha : PE X a (tM K C W ma)) (hb : PE X (.BoolOp .Or (b :: rest) pos) (tM K C W mb)) : PE X (.BoolOp .Or (a :: b :: rest) pos) (tM K C W fun e h => (ma e h).bind fun v h1 => asB v h1 fun c h1 => if c = true then .ok (.d (.bl true)) h1 else mb e h1) := by
  refine PE.imp (pe_or ha hb) fun σ H Q q => ?_
  obtain ⟨e, h, ρ, S, SE, k⟩ := q
  refine tM_first S SE k fun v h1 u H1 ρ1 x S1 SE1 r k1 => ?_
  obtain ⟨t, rfl, k2⟩ := asB_ok k1
  refine ⟨t, repV_bl r, ?_⟩
  cases t with
  | false => exact ⟨e, h1, ρ1, S1, SE1, k2⟩
  | true => exact okV_d S1 k2 (.bl true)
theorem c_not (ha : PE X a (tM K C W ma)) : PE X (.UnaryOp .Not a pos) (tM K C W fun e h => (ma e h).bind fun v h1 => asB v h1 fun c h1 => .ok (.d (.bl (!c))) h1) := by
  refine PE.imp (pe_not ha) fun σ H Q q => ?_
  obtain ⟨e, h, ρ, S, SE, k⟩ := q
  refine tM_first S SE k fun v h1 u H1 ρ1 x S1 SE1 r k1 => ?_
  obtain ⟨t, rfl, k2⟩ := asB_ok k1
  exact ⟨t, repV_bl r, okV_d S1 k2 (.bl _)⟩
theorem c_ite (hc : PT X c (tMt K C W mc)) (ha : PE X a (tM K C W ma)) (hb : PE X b (tM K C W mb)) : PE X (.IfExp c a b pos) (tM K C W fun e h => (mc e h).bind fun v h1 => asB v h1 fun c h1 => if c = true then ma e h1 else mb e h1) := by
  refine PE.imp (pe_ifExp hc ha hb) fun σ H Q q => ?_
  obtain ⟨e, h, ρ, S, SE, k⟩ := q
  refine tMt_first S SE k fun v h1 u H1 ρ1 x S1 SE1 r k1 => ?_
  obtain ⟨t, rfl, k2⟩ := asB_ok k1
  refine ⟨t, repV_bl r, ?_⟩
  cases t with
  | false => exact ⟨e, h1, ρ1, S1, SE1, k2⟩
  | true => exact ⟨e, h1, ρ1, S1, SE1, k2⟩
/-! tests -/
theorem ct_val (h : PE X a (tM K C W ma)) (he : ∀ whole, isTrue a X.env whole = (do let v ← whole; standAt a.pos; holding [v] (truthy v))) : PT X a (tMt K C W ma) :=
  PT.imp (pt_val h he) fun σ H Q q => q
theorem ct_and1 (ha : PT X a (tMt K C W ma)) : PW X (.BoolOp .And [a] pos) (tMt K C W ma) := pw_and1 ha
theorem ct_or1 (ha : PT X a (tMt K C W ma)) : PW X (.BoolOp .Or [a] pos) (tMt K C W ma) := pw_or1 ha
theorem PW.imp {X : Cx} {e : Expr} {t t' : TT} (h : PW X e t) (i : ∀ σ H Q, t' σ H Q → t σ H Q) : PW X e t' := ⟨fun w pins s σ H Q I q => h.run w pins s σ H Q I (i σ H Q q)⟩
theorem ct_and {rest : List Expr} (ha : PT X a (tMt K C W ma)) (hb : PW X (.BoolOp .And (b :: rest) pos) (tMt K C W mb)) : PW X (.BoolOp .And (a :: b :: rest) pos) (tMt K C W fun e h => (ma e h).bind fun v h1 => asB v h1 fun c h1 => if c = true then mb e h1 else .ok (.d (.bl false)) h1) := by
  refine PW.imp (pw_and ha hb) fun σ H Q q => ?_
  obtain ⟨e, h, ρ, S, SE, k⟩ := q
  refine tMt_first S SE k fun v h1 u H1 ρ1 x S1 SE1 r k1 => ?_
  obtain ⟨t, rfl, k2⟩ := asB_ok k1
  refine ⟨t, repV_bl r, ?_⟩
  cases t with
  | true => exact ⟨e, h1, ρ1, S1, SE1, k2⟩
  | false =>
    obtain ⟨b, e1, q⟩ := okV_d S1 k2 (.bl false)
    cases e1
    exact q
theorem ct_or {rest : List Expr} (ha : PT X a (tMt K C W ma)) (hb : PW X (.BoolOp .Or (b :: rest) pos) (tMt K C W mb)) : PW X (.BoolOp .Or (a :: b :: rest) pos) (tMt K C W fun e h => (ma e h).bind fun v h1 => asB v h1 fun c h1 => if c = true then .ok (.d (.bl true)) h1 else mb e h1) := by
  refine PW.imp (pw_or ha hb) fun σ H Q q => ?_
  obtain ⟨e, h, ρ, S, SE, k⟩ := q
  refine tMt_first S SE k fun v h1 u H1 ρ1 x S1 SE1 r k1 => ?_
  obtain ⟨t, rfl, k2⟩ := asB_ok k1
  refine ⟨t, repV_bl r, ?_⟩
  cases t with
  | false => exact ⟨e, h1, ρ1, S1, SE1, k2⟩
  | true =>
    obtain ⟨b, e1, q⟩ := okV_d S1 k2 (.bl true)
    cases e1
    exact q
theorem ct_not (ha : PT X a (tMt K C W ma)) : PT X (.UnaryOp .Not a pos) (tMt K C W fun e h => (ma e h).bind fun v h1 => asB v h1 fun c h1 => .ok (.d (.bl (!c))) h1) := by
  refine PT.imp (pt_not ha) fun σ H Q q => ?_
  obtain ⟨e, h, ρ, S, SE, k⟩ := q
  refine tMt_first S SE k fun v h1 u H1 ρ1 x S1 SE1 r k1 => ?_
  obtain ⟨t, rfl, k2⟩ := asB_ok k1
  obtain ⟨b, e1, q⟩ := okV_d S1 k2 (.bl (!t))
  cases e1
  exact ⟨t, repV_bl r, q⟩
/-! arguments -/
theorem c_nil : PA X [] (tMs K C W fun _ h => .ok [] h) := by
  refine PA.imp pa_nil fun σ H Q q => ?_
  obtain ⟨e, h, ρ, S, SE, k⟩ := q
  exact k [] H ρ Ext.refl S .nil
theorem c_cons {es : List Expr} {ms : Env → Hs → Out (List Vl)} (ha : PE X a (tM K C W ma)) (hs : PA X es (tMs K C W ms)) (hst : starEach (a :: es) X.env = (false, eval a X.env) :: starEach es X.env) :
    PA X (a :: es) (tMs K C W fun e h => (ma e h).bind fun v h1 => (ms e h1).bind fun vs h2 => .ok (v :: vs) h2) := by
  refine PA.imp (pa_cons ha hs hst) fun σ H Q q => ?_
  obtain ⟨e, h, ρ, S, SE, k⟩ := q
  refine tM_first S SE k fun v h1 u H1 ρ1 x S1 SE1 r k1 => ?_
  refine tMs_first S1 SE1 k1 fun vs h2 us H2 ρ2 x2 S2 SE2 r2 k2 => ?_
  exact k2 (u :: us) H2 ρ2 Ext.refl S2 (.cons (r.mono x2) r2)
/-! two parts, an operation on values -/
variable (K C) in
def rP (m : List Vl → Hs → Out Vl) : R2 := fun x y H Q => ∃ (h : Hs) (ρ : List Addr) (v w : Vl), Sim K C ρ h H ∧ RepV K C ρ h H v x ∧ RepV K C ρ h H w y ∧ OkV K C ρ h H (m [v, w] h) Q fun _ _ _ => False
variable (K C) in
def rU1 (m : List Vl → Hs → Out Vl) : V → Hp → VK → Prop := fun x H Q => ∃ (h : Hs) (ρ : List Addr) (v : Vl), Sim K C ρ h H ∧ RepV K C ρ h H v x ∧ OkV K C ρ h H (m [v] h) Q fun _ _ _ => False
variable (K C) in
def rC (m : List Vl → Hs → Out Vl) : List V → Hp → VK → Prop := fun xs H Q => ∃ (h : Hs) (ρ : List Addr) (vs : List Vl), Sim K C ρ h H ∧ RepVs K C ρ h H vs xs ∧ OkV K C ρ h H (m vs h) Q fun _ _ _ => False
variable (K C) in
/-- an operation that raises nothing -/
def Calm (m : List Vl → Hs → Out Vl) : Prop := ∀ vs h x h', m vs h ≠ .ex x h'
theorem calm_e {m : List Vl → Hs → Out Vl} (c : Calm m) {ρ : List Addr} {h : Hs} {H : Hp} {vs : List Vl} {Q : VK} {E E' : XK} (k : OkV K C ρ h H (m vs h) Q E) : OkV K C ρ h H (m vs h) Q E' := by
  cases q : m vs h with
  | ok v h1 => rw [q] at k; exact k
  | ex x h1 => exact absurd q (c vs h x h1)
  | bad => rw [q] at k; exact k
variable {m : List Vl → Hs → Out Vl}
/-- the meaning of an operation with two, one parts -/
def m2 (ma mb : Env → Hs → Out Vl) (m : List Vl → Hs → Out Vl) : Env → Hs → Out Vl := fun e h => ((ma e h).bind fun v h1 => ((mb e h1).bind fun w h2 => (.ok [w] h2 : Out (List Vl))).bind fun vs h2 => (.ok (v :: vs) h2 : Out (List Vl))).bind fun vs h1 => m vs h1
theorem bind_assoc' {α β γ : Type} (o : Out α) (f : α → Hs → Out β) (g : β → Hs → Out γ) : (o.bind f).bind g = o.bind fun a h => (f a h).bind g := by cases o <;> rfl
theorem tOp_of (cm : Calm m) {σ : L2.St} {H : Hp} {Q : VK} (q : tM K C W (fun e h => (ma e h).bind fun v h1 => (mb e h1).bind fun w h2 => m [v, w] h2) σ H Q) : tOp (rP K C m) (tM K C W ma) (tM K C W mb) σ H Q := by
  obtain ⟨e, h, ρ, S, SE, k⟩ := q
  refine tM_first S SE k fun v h1 u H1 ρ1 x S1 SE1 r k1 => ?_
  refine tM_first S1 SE1 k1 fun w h2 z H2 ρ2 x2 S2 SE2 r2 k2 => ?_
  exact ⟨h2, ρ2, v, w, S2, r.mono x2, r2, calm_e cm k2⟩
theorem tUn_of (cm : Calm m) {σ : L2.St} {H : Hp} {Q : VK} (q : tM K C W (fun e h => (ma e h).bind fun v h1 => m [v] h1) σ H Q) : tUn (rU1 K C m) (tM K C W ma) σ H Q := by
  obtain ⟨e, h, ρ, S, SE, k⟩ := q
  refine tM_first S SE k fun v h1 u H1 ρ1 x S1 SE1 r k1 => ?_
  exact ⟨h1, ρ1, v, S1, r, calm_e cm k1⟩
theorem tCB_of (cm : Calm m) {ms : Env → Hs → Out (List Vl)} {σ : L2.St} {H : Hp} {Q : VK} (q : tM K C W (fun e h => (ms e h).bind fun vs h1 => m vs h1) σ H Q) : tCB (rC K C m) (tMs K C W ms) σ H Q := by
  obtain ⟨e, h, ρ, S, SE, k⟩ := q
  refine tMs_first S SE k fun v h1 u H1 ρ1 x S1 SE1 r k1 => ?_
  exact ⟨h1, ρ1, v, S1, r, calm_e cm k1⟩
end
end
end L3
/-! L3: a def's promise where no repr is under way around it. -/
namespace L3
open PySem PySem.Spec PyProof.Rows L2

/-- no repr is under way -/
def NoG (A : Around) : Prop := A.guards = some []
theorem NoG.deeper {A : Around} (g : NoG A) (e : PySem.Env) : NoG (A.deeper e) := g
theorem NoG.in1 {A : Around} (g : NoG A) : NoG A.in1 := g
theorem NoG.make {A : Around} (g : NoG A) (C : Addr) (us : List Value) (kw : List (Str × Value)) : NoG (A.under (.builtin "type.__call__" ⟨.ref C :: us, kw⟩)) := by
  obtain ⟨hd, dp, fr, gs, un⟩ := A
  have e : gs = some [] := g
  subst e
  show pushGuards (Code.guards (.builtin "type.__call__" ⟨.ref C :: us, kw⟩)) (some []) = some []
  have : Code.guards (.builtin "type.__call__" ⟨.ref C :: us, kw⟩) = [] := by
    first | rfl | simp [Code.guards, Code.isGuard, guardIds]
  rw [this]
  rfl
theorem noG_caller : NoG callerA := rfl
structure FnG (P : Program) (w : World) (K : PySem.W.Frag) (mg : Str → Option Value) (base : Heap) (cx : CXT) (k : Nat) (f : Addr) (fd : FuncData) (ps : List Str) (sp : Sp) : Prop where
  len : ∀ vs H Q E, sp vs H Q E → vs.length = ps.length
  run : ∀ (A : Around) (outer : List PySem.Env) (s : Shared) (H : Hp) (args : Args) (us : List Value) (vs : List V) (Q : VK) (E : XK), Room k A → NoG A → Env0 P w K mg base A outer s H → BindsTo s fd args (ps.zip us) → Vals vs us → sp vs H Q E → codeAny (model P w) A (.call (.ref f) args) (CR cx outer P w H s Q E) s
section
variable {P : Program} {w : World} {K : PySem.W.Frag} {mg : Str → Option Value} {base : Heap} {cx : CXT} {j k : Nat} {f : Addr} {fd : FuncData} {ps : List Str} {sp : Sp}
theorem FnG.mono (Fo : FnG P w K mg base cx j f fd ps sp) (h : j ≤ k) : FnG P w K mg base cx k f fd ps sp := ⟨Fo.len, fun A outer s H args us vs Q E room => Fo.run A outer s H args us vs Q E (room.mono h)⟩
end
section
variable {X : Cx} {cx : CXT} {k : Nat} {f C : Addr} {fd : FuncData} {ps : List Str} {sp : Sp} {E : L2.St → XK} {x m : Str} {p pos apos : Pos} {e o : Expr} {es : List Expr} {ta : TE} {t : TA}
theorem run_g {pins : List (Addr × Obj)} {σ : L2.St} {H : Hp} {s : Shared} {Q : VK} {us : List Value} {vs : List V} (Fo : FnG X.prog X.w X.K X.mg X.base cx k f fd ps sp) (room : Room k X.A) (ng : NoG X.A) (bn : Binds X.K fd ps []) (pass : PassesAt cx X σ (E σ)) (I : Inv X pins σ H s) (rv : Vals vs us) (q : sp vs H Q (E σ)) :
    wpAny (model X.prog X.w) X.A (call (.ref f) us) (EP X pins σ Q) X.xe s := by
  have nl : us.length = ps.length := rv.length.symm.trans (Fo.len _ _ _ _ q)
  have bs := bn s us I.kIn (by rw [List.append_nil]; exact nl)
  rw [List.append_nil] at bs
  refine wpAny_call (codeAny_mono (Fo.run X.A X.stack s H ⟨us, []⟩ us vs Q (E σ) room ng I.env0 bs rv q) fun r s' z => ?_)
  cases r with
  | error e => exact pass pins H s e s' I z
  | ok fl =>
    cases fl with
    | ret u => exact I.after z
    | next => exact z.elim
    | brk => exact z.elim
    | cont => exact z.elim
theorem pe_callG (Fo : FnG X.prog X.w X.K X.mg X.base cx k f fd ps sp) (room : Room k X.A) (ng : NoG X.A) (gl : Gl X x) (gm : X.mg x = some (.ref f)) (kp : PySem.W.keepIn X.K (.ref f) = true) (bn : Binds X.K fd ps []) (pass : ∀ σ, PassesAt cx X σ (E σ)) (ha : PA X (e :: es) t) (nd : (x == ("__debug__" : Str)) = false)
    (st : starEach (e :: es) X.env = (false, eval e X.env) :: starEach es X.env) (ns : (backTo pos (starEach es X.env)).any (·.1) = false) : PE X (.Call (.Name x p) (e :: es) [] pos) (tCallS sp E t) := by
  refine ⟨fun pins s σ H Q I q => wpAny_Call_Name_kw (ld_glob I gl gm ?_ nd)⟩
  exact PySem.W.callWith_K (h₀ := X.base) I.ok.mod.kin kp (thn (ha.run pos pins s σ H _ I q) fun us s1 ⟨vs, H1, I1, rv, q1⟩ => ⟨I1.kIn, run_g Fo room ng bn (pass σ) I1 rv q1⟩) st ns
end
/-- from a body to its promise -/
theorem fn_ofG {cx : CXT} {P : Program} {w : World} {K : PySem.W.Frag} {mg : Str → Option Value} {base : Heap} {k : Nat} {f : Addr} {name qual : Str} {params : Arguments} {body : List Stmt} {scope : Scope} {dV kV doc pm cdv ct oc : Value} {an od : Option Addr} {osl : Array (Option Value)} {N ps : List Str} {sp : Sp}
    (lk : K.lookup f = some ⟨oc, od, .func (PySem.W.fnOf name qual params body scope dV kV doc pm an cdv ct), osl⟩) (hcd : PySem.W.codeIn K cdv qual = true) (S : FnScope N ps scope) (len : ∀ vs H Q E, sp vs H Q E → vs.length = ps.length)
    (hb : ∀ (A : Around) (outer : List PySem.Env) (s : Shared) (H : Hp) (vs : List V) (Q : VK) (E : XK), Room k (A.deeper (envOfC qual scope s.heap.objs.size f cdv)) → NoG A → sp vs H Q E → ∃ t, PSs (cxOf cx P w K mg base N qual scope f cdv A outer s H E) body t ∧ t { nx := fun _ H' => Q .non H', rt := Q } (L2.start N vs) H) :
    FnG P w K mg base cx (k + 1) f (PySem.W.fnOf name qual params body scope dV kV doc pm an cdv ct) ps sp := by
  refine ⟨len, fun A outer s H args us vs Q E room ng e0 bnd rv q => ?_⟩
  have inK : K.In s.heap := e0.mod.kin.keeps fun b u z => (e0.bs b u z).1
  have nolim : s.heap.NoLimit := e0.mod.nolimit.keeps fun b u z => (e0.bs b u z).1
  have kinds : ∀ y ∈ ps.zip us, scope.names.lookup y.1 = some .local ∨ (scope.names.lookup y.1 = some .cell ∧ ((cellsFrom (s.heap.objs.size + 1) scope.names []).lookup y.1).isSome = true) := by
    rintro ⟨n, v⟩ hy
    exact (S.par n (List.of_mem_zip hy).1).imp id fun z => ⟨z, PySem.W.cellsFrom_some _ _ _ (.inl z)⟩
  refine codeAny_call_function room.depth (inK _ _ lk) rfl S.co S.gen rfl (PySem.W.codeRec_of inK hcd) (bnd _ _ _ _ ?_)
  refine wpAny_newFunctionEnv_cells S.kind kinds fun env ee s1 z => ?_
  subst ee
  refine ⟨nolim.keeps z.toInCall.keep, codeAny_func ?_⟩
  obtain ⟨t, pt, qt⟩ := hb A outer s H vs Q E (room.deeper _) ng q
  have I0 : Inv (cxOf cx P w K mg base N qual scope f cdv A outer s H E) [] (L2.start N vs) H s1 := inv_start S room.hd e0 (len _ _ _ _ q) rv z
  refine wpAny_mono (pt.run [] s1 (L2.start N vs) H _ I0 qt) (fun fl s' end_ => ?_) fun _ _ y => y
  cases fl with
  | ret u =>
    obtain ⟨v, σ', H', J, r, y⟩ := end_
    exact ⟨v, H', J.os, J.bare, J.base, J.hok, r, y⟩
  | next =>
    obtain ⟨σ', H', J, y⟩ := end_
    exact ⟨.non, H', J.os, J.bare, J.base, J.hok, rfl, y⟩
  | brk =>
    obtain ⟨_, _, _, y⟩ := end_
    exact y.elim
  | cont =>
    obtain ⟨_, _, _, y⟩ := end_
    exact y.elim
/-- the law's call -/
theorem law_callG {P : Program} {w : World} {K : PySem.W.Frag} {mg mb : Str → Option Value} {cx : CXT} {k : Nat} {fa a : Addr} {fd : FuncData} {x : Str} {sp : Sp} {s₁ : Shared} {vs : List Value} {ns : List Int} (inK : K.In s₁.heap) (nsG : s₁.heap.Ns mainGlobals mg) (nsB : s₁.heap.Ns builtinsNs mb)
    (bb : ∀ x : Str, x ≠ "__name__" → mb x = bootBuiltins x) (nolim : s₁.heap.NoLimit) (gens : s₁.gens = #[]) (at_ : s₁.heap.get? a = some { cls := .type "list", data := .seq vs.toArray }) (iv : IntsAre vs ns) (hl : ns.length ≤ sizeLine) (room : Room k callerA)
    (Fo : ∀ base : Heap, K.In base → base.Ns mainGlobals mg → FnG P w K mg base cx k fa fd [x] sp) (bnd : ∀ (s : Shared) (u : Value), BindsTo s fd ⟨[u], []⟩ [(x, u)]) (hsp : ∀ H : Hp, Only H → SqL K H a (ns.map V.int) → sp [.ref a] H (fun v _ => v = .bl true) fun _ _ _ => False) (none_ : ∀ H e s', cx [] H s₁ (fun _ _ _ => False) e s' → False) :
    codeAny (model P w) callerA (.call (.ref fa) ⟨[.ref a], []⟩) (fun r s' => r = .ok (.ret (.bool true)) ∧ OldK s₁.heap s'.heap ∧ s'.os = s₁.os ∧ AllBare s'.gens) s₁ := by
  have rv := vals_ints iv
  have szV := iv.length
  have main : ∀ H : Hp, Only H → SqL K H a (ns.map V.int) → HOk P w H s₁.heap → (∀ b, H b ≠ none → b = a) → (H a ≠ none → K.lookup a = none) → codeAny (model P w) callerA (.call (.ref fa) ⟨[.ref a], []⟩) (fun r s' => r = .ok (.ret (.bool true)) ∧ OldK s₁.heap s'.heap ∧ s'.os = s₁.os ∧ AllBare s'.gens) s₁ := by
    intro H only sq hok onA notK
    have hid : ∀ {b : Addr} {ob : Obj}, s₁.heap.get? b = some ob → H b = none → (hidT s₁.heap H).get? b = some ob := fun z n => hidT_get z n
    have away : ∀ {b : Addr}, b ≠ a → H b = none := fun {b} ne => Classical.byContradiction fun z => ne (onA b z)
    have dictA : ∀ {b : Addr} {ob : Obj} {es : Array DictEntry} {ep : Nat}, s₁.heap.get? b = some ob → ob.data = .dict es ep → H b = none := by
      intro b ob es ep z d
      refine away fun eq => ?_
      subst eq
      rw [at_] at z
      cases z
      exact absurd d (fun y => by
        have y' : Data.seq vs.toArray _ = Data.dict es ep := y
        cases y')
    have nsH : ∀ {b : Addr} {m : Str → Option Value}, s₁.heap.Ns b m → (hidT s₁.heap H).Ns b m := fun {b m} ⟨ob, es, ep, z, d, y⟩ => ⟨ob, es, ep, hid z (dictA z d), d, y⟩
    have inB : K.In (hidT s₁.heap H) := by
      intro b ob z
      refine hid (inK b ob z) (Classical.byContradiction fun nz => ?_)
      have eq := onA b nz
      subst eq
      rw [notK nz] at z
      cases z
    have md : Mod K mg (hidT s₁.heap H) := ⟨inB, nsH nsG, ⟨mb, nsH nsB, bb⟩, let ⟨mc, y1, y2⟩ := nolim; ⟨mc, nsH y1, y2⟩⟩
    have e0 : Env0 P w K mg (hidT s₁.heap H) callerA [] s₁ H := ⟨rfl, md, fun b ob z => of_hidT z, Nat.le_of_eq (hidT_size _ _), trivial, fun b hb => absurd (show b ∈ ([] : List Addr) from hb) List.not_mem_nil, hok, .of_eq gens⟩
    refine codeAny_mono ((Fo _ inB (nsH nsG)).run callerA [] s₁ H ⟨[.ref a], []⟩ [.ref a] [.ref a] _ _ room noG_caller e0 (bnd s₁ (.ref a)) (.cons rfl .nil) (hsp H only sq)) fun r s' z => ?_
    cases r with
    | error e => exact (none_ H e s' z).elim
    | ok fl =>
      cases fl with
      | next => exact z.elim
      | brk => exact z.elim
      | cont => exact z.elim
      | ret u =>
        obtain ⟨v, H', os, bare, un, hok', r', y⟩ := z
        have y' : v = .bl true := y
        subst y'
        have eu : u = Value.bool true := r'
        subst eu
        refine ⟨rfl, OldK.of_keep fun b ob eb => ?_, os, bare⟩
        cases qb : H b with
        | none => exact un.keep b ob eb qb (by intro q; cases q) (by simp)
        | some u =>
          rcases only b with y | ⟨o1, xs, y⟩
          · rw [qb] at y
            cases y
          · obtain ⟨y1, _⟩ := hok b _ y
            obtain ⟨y2, _⟩ := hok' b _ (un.frzs b o1 _ y)
            rw [eb] at y1
            cases y1
            exact y2
  cases hk : K.lookup a with
  | some ob =>
    have z := inK a ob hk
    rw [at_] at z
    cases z
    refine main (fun _ => none) (fun _ => .inl rfl) (.inr ⟨_, vs.toArray, _, hk, rfl, rfl, rfl, by rw [List.size_toArray, szV]; exact hl, by simpa using rv⟩) (fun b u z => ?_) (fun b z => absurd rfl z) fun z => absurd rfl z
    have z' : (none : Option HO) = some u := z
    cases z'
  | none =>
    refine main (fun b => if b = a then some (.frz { cls := .type "list", data := .seq vs.toArray } (.lst (ns.map V.int))) else none) (fun b => ?_) (.inl (.inr ⟨{ cls := .type "list", data := .seq vs.toArray }, if_pos rfl⟩)) (fun b u z => ?_) (fun b z => ?_) fun _ => hk
    · by_cases eq : b = a
      · exact .inr ⟨_, _, if_pos eq⟩
      · exact .inl (if_neg eq)
    · by_cases eq : b = a
      · have z' := (if_pos eq).symm.trans z
        cases z'
        subst eq
        exact ⟨at_, by rw [List.length_map]; exact hl, vs, _, rv, at_⟩
      · have z' := (if_neg eq).symm.trans z
        cases z'
    · by_cases eq : b = a
      · exact eq
      · exact absurd (if_neg eq) z
end L3
/-! L3: the built-in operations, by values. -/
namespace L3
open PySem PySem.Spec PyProof.Rows L2

theorem lim_line {n : Nat} (h : n ≤ LIM) : n ≤ sizeLine := by
  rw [sizeLine_eq]
  unfold LIM at h
  omega
theorem lim_lt {n : Nat} (h : n < LIM) : n < sizeLine := by
  rw [sizeLine_eq]
  unfold LIM at h
  omega
theorem smallI_iff {i : Int} (h : smallI i = true) : -(2 ^ 64) < i ∧ i < 2 ^ 64 := by
  unfold smallI at h
  simp only [Bool.and_eq_true, decide_eq_true_eq] at h
  omega

/-! ### no exception -/
theorem i2_calm {as : List Vl} {f : Int → Int → Out Vl} {x : D} {h' : Hs} (c : ∀ i j, f i j ≠ .ex x h') : i2 as f ≠ .ex x h' := by
  unfold i2
  split
  · exact c _ _
  · intro z; cases z
theorem oB_calm {o : Option Bool} {h : Hs} {f : Bool → Bool} {x : D} {h' : Hs} : oB o h f ≠ .ex x h' := by
  unfold oB okB
  split <;> (intro z; cases z)
theorem mkL_calm {m : Bool} {xs : List Vl} {h : Hs} {x : D} {h' : Hs} : mkL m xs h ≠ .ex x h' := by
  unfold mkL
  split
  · split
    · intro z; cases z
    · split <;> (intro z; cases z)
  · intro z; cases z
theorem pr_calm (p : Pr) : Calm (pr p) := by
  intro vs h x h'
  cases p <;> simp only [pr, okI, okB, cmpI] <;> first
    | (apply i2_calm; intro i j; first | (split <;> (intro z; cases z)) | (intro z; cases z))
    | (repeat' split) <;> first
      | (intro z; cases z)
      | exact oB_calm
      | exact mkL_calm
theorem mk_calm (m : Bool) (p : Mk) : Calm (mk m p) := by
  intro vs h x h'
  cases p <;> simp only [mk] <;> (repeat' split) <;> first
    | (intro z; cases z)
    | exact mkL_calm

section
variable {X : Cx} {C : Cn}

theorem in2 {α : Type} {a b c d : α} (h : [a, b] = [c, d]) : a = c ∧ b = d := by
  injection h with h1 h2
  injection h2 with h3 _
  exact ⟨h1, h3⟩
theorem in1 {α : Type} {a c : α} (h : [a] = [c]) : a = c := by
  injection h with h1 h2
theorem in3 {α : Type} {a b c d e f : α} (h : [a, b, e] = [c, d, f]) : a = c ∧ b = d ∧ e = f := by
  injection h with h1 h2
  injection h2 with h3 h4
  injection h4 with h5 _
  exact ⟨h1, h3, h5⟩
/-- two ints -/
theorem i2_ok {ρ : List Addr} {h : Hs} {H : Hp} {vs : List Vl} {xs : List V} {f : Int → Int → Out Vl} {Q : VK} {E : XK} (k : OkV X.K C ρ h H (i2 vs f) Q E) (r : RepVs X.K C ρ h H vs xs) : ∃ i j, vs = [.d (.int i), .d (.int j)] ∧ xs = [.int i, .int j] ∧ OkV X.K C ρ h H (f i j) Q E := by
  unfold i2 at k
  split at k
  · rename_i i j
    cases r with
    | cons r1 r2 =>
      cases r2 with
      | cons r2 r3 =>
        cases r3
        exact ⟨i, j, rfl, by rw [repV_int r1, repV_int r2], k⟩
  · exact k.elim
theorem i2_op {ρ : List Addr} {h : Hs} {H : Hp} {v w : Vl} {x y : V} {f : Int → Int → Out Vl} {Q : VK} {E : XK} (k : OkV X.K C ρ h H (i2 [v, w] f) Q E) (r1 : RepV X.K C ρ h H v x) (r2 : RepV X.K C ρ h H w y) : ∃ i j, x = .int i ∧ y = .int j ∧ OkV X.K C ρ h H (f i j) Q E := by
  obtain ⟨i, j, _, e, k⟩ := i2_ok k (.cons r1 (.cons r2 .nil))
  obtain ⟨e1, e2⟩ := in2 e
  exact ⟨i, j, e1, e2, k⟩
theorem okI_q {ρ : List Addr} {h : Hs} {H : Hp} {i : Int} {Q : VK} {E : XK} (S : Sim X.K C ρ h H) (k : OkV X.K C ρ h H (okI i h) Q E) : Q (.int i) H := okV_d S k (.int i)
theorem okB_q {ρ : List Addr} {h : Hs} {H : Hp} {i : Bool} {Q : VK} {E : XK} (S : Sim X.K C ρ h H) (k : OkV X.K C ρ h H (okB i h) Q E) : Q (.bl i) H := okV_d S k (.bl i)
/-- a tuple, a list read -/
theorem rep_tup {av : Addr → Prop} {H : Hp} {xs : List D} {u : V} (r : Rep X.K C av H (.tup xs) u) : ∃ p vs, u = .ref p ∧ ST X.K av H p vs ∧ Reps X.K C av H xs vs := by
  cases r with
  | tup a b => exact ⟨_, _, rfl, a, b⟩
theorem rep_lst {av : Addr → Prop} {H : Hp} {xs : List D} {u : V} (r : Rep X.K C av H (.lst xs) u) : ∃ p vs, u = .ref p ∧ SL av H p vs ∧ Reps X.K C av H xs vs := by
  cases r with
  | lst a b => exact ⟨_, _, rfl, a, b⟩
/-- a list read, as data or in a cell -/
theorem lview_ok {ρ : List Addr} {h : Hs} {H : Hp} {v : Vl} {u : V} {xs : List Vl} (S : Sim X.K C ρ h H) (e : lview v h = some xs) (r : RepV X.K C ρ h H v u) : ∃ p vs, u = .ref p ∧ H p = some (.lst vs) ∧ RepVs X.K C ρ h H xs vs := by
  unfold lview at e
  split at e
  · cases e
    obtain ⟨p, vs, rfl, a, b⟩ := rep_lst r
    exact ⟨p, vs, rfl, a.2, ds_of_reps b⟩
  · split at e
    · rename_i n ys q
      cases e
      obtain ⟨p, e1, rfl⟩ := r
      obtain ⟨vs, e2, e3⟩ := S.ok _ _ p q e1
      exact ⟨p, vs, rfl, e2, e3⟩
    · cases e
  · cases e
theorem sview_ok {ρ : List Addr} {h : Hs} {H : Hp} {v : Vl} {u : V} {xs : List Vl} (S : Sim X.K C ρ h H) (e : sview v h = some xs) (r : RepV X.K C ρ h H v u) : ∃ p vs, u = .ref p ∧ (SqL X.K H p vs ∨ SqT X.K H p vs) ∧ RepVs X.K C ρ h H xs vs := by
  unfold sview at e
  split at e
  · cases e
    obtain ⟨p, vs, rfl, a, b⟩ := rep_lst r
    exact ⟨p, vs, rfl, .inl a.sq, ds_of_reps b⟩
  · cases e
    obtain ⟨p, vs, rfl, a, b⟩ := rep_tup r
    exact ⟨p, vs, rfl, .inr a.sq, ds_of_reps b⟩
  · split at e
    · rename_i n ys q
      cases e
      obtain ⟨p, e1, rfl⟩ := r
      obtain ⟨vs, e2, e3⟩ := S.ok _ _ p q e1
      exact ⟨p, vs, rfl, .inl (.of e2), e3⟩
    · cases e
  · cases e
theorem kview_ok {ρ : List Addr} {h : Hs} {H : Hp} {v : Vl} {u : V} {kvs : List (D × D)} (S : Sim X.K C ρ h H) (e : kview v h = some kvs) (r : RepV X.K C ρ h H v u) : ∃ p ks, u = .ref p ∧ Rd H p (.dK ks) ∧ Repk X.K C (AV C ρ h) H kvs ks := by
  unfold kview at e
  split at e
  · cases e
    cases r with
    | dic a b c => exact ⟨_, _, rfl, .inr ⟨_, b⟩, c⟩
  · split at e
    · rename_i n ys q
      cases e
      obtain ⟨p, e1, rfl⟩ := r
      obtain ⟨vs, e2, e3⟩ := S.ok _ _ p q e1
      exact ⟨p, vs, rfl, .inl e2, e3⟩
    · cases e
  · cases e
/-- a new tuple -/
theorem new_tup {ρ : List Addr} {h : Hs} {H : Hp} {xs : List D} {vs : List V} {Q : VK} {E : XK} {p : Addr} (S : Sim X.K C ρ h H) (k : OkV X.K C ρ h H (.ok (.d (.tup xs)) h) Q E) (r : Reps X.K C (AV C ρ h) H xs vs) (n : H p = none) : Q (.ref p) (upd H p (.tup vs)) :=
  okV_new S k n fun H' kp e na => .tup (.inl ⟨na, .inl e⟩) (r.mono fun a o e n => ⟨kp a o e, n⟩)
theorem new_lst {ρ : List Addr} {h : Hs} {H : Hp} {xs : List D} {vs : List V} {Q : VK} {E : XK} {p : Addr} (S : Sim X.K C ρ h H) (k : OkV X.K C ρ h H (.ok (.d (.lst xs)) h) Q E) (r : Reps X.K C (AV C ρ h) H xs vs) (n : H p = none) : Q (.ref p) (upd H p (.lst vs)) :=
  okV_new S k n fun H' kp e na => .lst ⟨na, e⟩ (r.mono fun a o e n => ⟨kp a o e, n⟩)
/-- a new list, of either make -/
theorem mkL_ok {ρ : List Addr} {h : Hs} {H : Hp} {xs : List Vl} {vs : List V} {m : Bool} {Q : VK} {E : XK} (S : Sim X.K C ρ h H) (k : OkV X.K C ρ h H (mkL m xs h) Q E) (r : RepVs X.K C ρ h H xs vs) : vs.length ≤ sizeLine ∧ ∀ p, H p = none → Q (.ref p) (upd H p (.lst vs)) := by
  unfold mkL at k
  split at k
  · rename_i hl
    refine ⟨by rw [← r.len]; exact lim_line hl, fun p n => ?_⟩
    split at k
    · refine k (.ref p) (upd H p (.lst vs)) (ρ ++ [p]) (ext_cell S n) (S.cell n ⟨vs, upd_same, r.mono (ext_cell S n)⟩) ⟨p, ?_, rfl⟩
      rw [← S.len, List.getElem?_append_right (Nat.le_refl _), Nat.sub_self]
      rfl
    · split at k
      · rename_i ds q
        rw [allD_eq q] at r
        exact new_lst S k (reps_of_ds r) n
      · exact k.elim
  · exact k.elim

/-! ### arithmetic -/
theorem o_add : OpR X (binaryOp .Add) (rP X.K C (pr .add)) := by
  intro pins s σ H x y v u Q I rx ry q
  obtain ⟨h, ρ, a, b, S, ra, rb, k⟩ := q
  simp only [pr] at k
  split at k
  · rename_i i j heq
    obtain ⟨rfl, rfl⟩ := in2 heq
    exact op_add pins s σ H x y v u Q I rx ry ⟨i, j, repV_int ra, repV_int rb, okI_q S k⟩
  · rename_i z w heq
    obtain ⟨rfl, rfl⟩ := in2 heq
    split at k
    · rename_i hl
      exact op_add_str pins s σ H x y v u Q I rx ry ⟨z, w, repV_str ra, repV_str rb, lim_line hl, okV_d S k (.str _)⟩
    · exact k.elim
  · rename_i xs ys heq
    obtain ⟨rfl, rfl⟩ := in2 heq
    split at k
    · rename_i hl
      obtain ⟨p, vs, rfl, a1, a2⟩ := rep_tup ra
      obtain ⟨p', vs', rfl, b1, b2⟩ := rep_tup rb
      refine op_catA pins s σ H _ _ v u Q I rx ry ⟨p, p', vs, vs', rfl, rfl, a1.sq, b1.sq, by rw [← a2.len, ← b2.len]; exact lim_line hl, fun e => ?_, fun _ e => ?_, fun _ _ q n => new_tup S k (a2.app b2) n⟩
      · subst e
        cases a2
        exact okV_d S k rb
      · subst e
        cases b2
        rw [List.append_nil] at k
        exact okV_d S k ra
    · exact k.elim
  · exact k.elim
theorem o_sub : OpR X (binaryOp .Sub) (rP X.K C (pr .sub)) := by
  intro pins s σ H x y v u Q I rx ry ⟨h, ρ, a, b, S, ra, rb, k⟩
  obtain ⟨i, j, e1, e2, k⟩ := i2_op k ra rb
  exact op_sub pins s σ H x y v u Q I rx ry ⟨i, j, e1, e2, okI_q S k⟩
theorem o_mul : OpR X (binaryOp .Mult) (rP X.K C (pr .mul)) := by
  intro pins s σ H x y v u Q I rx ry ⟨h, ρ, a, b, S, ra, rb, k⟩
  simp only [pr] at k
  split at k
  · rename_i i j heq
    obtain ⟨rfl, rfl⟩ := in2 heq
    split at k
    · rename_i hs
      refine op_mul pins s σ H x y v u Q I rx ry ⟨i, j, repV_int ra, repV_int rb, ?_, okI_q S k⟩
      rcases Bool.or_eq_true_iff.mp hs with z | z
      · exact .inr (smallI_iff z)
      · exact .inl (smallI_iff z)
    · exact k.elim
  · rename_i xs j heq
    obtain ⟨rfl, rfl⟩ := in2 heq
    split at k
    · rename_i hl
      simp only [Bool.and_eq_true, decide_eq_true_eq, Bool.not_eq_true', List.isEmpty_eq_false_iff] at hl
      obtain ⟨⟨⟨h1, h2⟩, h3⟩, h4⟩ := hl
      obtain ⟨p, vs, rfl, a1, a2⟩ := rep_tup ra
      refine op_repT pins s σ H _ _ v u Q I rx ry ⟨p, j, vs, rfl, repV_int rb, a1.sq, ?_, h2, h3, by rw [← a2.len]; exact h4, fun q n => new_tup S k (a2.rep _) n⟩
      intro e
      subst e
      cases a2
      exact h1 rfl
    · exact k.elim
  · exact k.elim
theorem o_mod : OpR X (binaryOp .Mod) (rP X.K C (pr .mod)) := by
  intro pins s σ H x y v u Q I rx ry ⟨h, ρ, a, b, S, ra, rb, k⟩
  obtain ⟨i, j, e1, e2, k⟩ := i2_op k ra rb
  split at k
  · rename_i hj
    exact op_mod pins s σ H x y v u Q I rx ry ⟨i, j, e1, e2, hj, okI_q S k⟩
  · exact k.elim
theorem o_fdiv : OpR X (binaryOp .FloorDiv) (rP X.K C (pr .fdiv)) := by
  intro pins s σ H x y v u Q I rx ry ⟨h, ρ, a, b, S, ra, rb, k⟩
  obtain ⟨i, j, e1, e2, k⟩ := i2_op k ra rb
  split at k
  · rename_i hj
    rw [Bool.and_eq_true, decide_eq_true_eq, decide_eq_true_eq] at hj
    exact op_fdiv pins s σ H x y v u Q I rx ry ⟨i, j, e1, e2, hj, okI_q S k⟩
  · exact k.elim
theorem natAbs_small {i : Int} (h : smallI i = true) : i.natAbs < 2 ^ 64 := by
  have := smallI_iff h
  omega
theorem o_pow : OpR X (binaryOp .Pow) (rP X.K C (pr .pow)) := by
  intro pins s σ H x y v u Q I rx ry ⟨h, ρ, a, b, S, ra, rb, k⟩
  obtain ⟨i, j, e1, e2, k⟩ := i2_op k ra rb
  split at k
  · rename_i hj
    rw [Bool.and_eq_true, Bool.and_eq_true, decide_eq_true_eq, decide_eq_true_eq] at hj
    exact op_pow pins s σ H x y v u Q I rx ry ⟨i, j, e1, e2, ⟨hj.1, hj.2.1, natAbs_small hj.2.2⟩, okI_q S k⟩
  · exact k.elim
theorem o_neg : UnR X (unaryOp .USub) (rU1 X.K C (pr .neg)) := by
  intro pins s σ H x v Q I rx ⟨h, ρ, a, S, ra, k⟩
  simp only [pr] at k
  split at k
  · rename_i i heq
    obtain rfl := in1 heq
    exact un_neg pins s σ H x v Q I rx ⟨i, repV_int ra, okI_q S k⟩
  · exact k.elim
/-- list + list -/
theorem rd_lst {pins : List (Addr × Obj)} {s : Shared} {σ : L2.St} {H : Hp} {p : Addr} {vs : List V} (I : Inv X pins σ H s) (r : Rd H p (.lst vs)) : ∃ (its : List Value) (n : Nat), Vals vs its ∧ s.heap.get? p = some { cls := .type "list", data := .seq its.toArray n } := by
  obtain ⟨_, its, n, r, e⟩ := r.ok I.hok
  exact ⟨its, n, r, e⟩
theorem o_cat (m : Bool) : OpR X (binaryOp .Add) (rP X.K C (mk m .cat)) := by
  intro pins s σ H x y v u Q I rx ry ⟨h, ρ, a, b, S, ra, rb, k⟩
  simp only [mk] at k
  split at k
  · rename_i e1 e2
    obtain ⟨p, vs, rfl, a1, a2⟩ := lview_ok S e1 ra
    obtain ⟨p', vs', rfl, b1, b2⟩ := lview_ok S e2 rb
    obtain ⟨hz, q⟩ := mkL_ok S k (Paired.app' a2 b2)
    cases rx
    cases ry
    obtain ⟨its, n, r1, e1⟩ := rd_lst I (.of a1)
    obtain ⟨its2, n2, r2, e2⟩ := rd_lst I (.of b1)
    have hl1 := r1.length
    have hl2 := r2.length
    rw [List.length_append] at hz
    refine PySem.P.add_list e1 e2 ?_ (by rw [List.size_toArray, List.size_toArray]; omega)
    have ea : its.toArray ++ its2.toArray = (its ++ its2).toArray := by simp
    rw [ea]
    exact ⟨.ref _, _, I.lnew (t' := s.toks) (r1.append r2) (by rw [List.length_append]; omega), rfl, q _ I.fresh⟩
  · exact k.elim
end
end L3
/-! L3: comparisons, by values. -/
namespace L3
open PySem PySem.Spec PyProof.Rows L2

/-! ### D and PyData -/
mutual
theorem eqv_py : ∀ a b : D, plainD a = true → plainD b = true → PyData.eqv (toPy a) (toPy b) = eqvD a b
  | .non, b, _, h => by cases b <;> first | rfl | cases h
  | .bl a, b, _, h => by cases b <;> first | rfl | cases h
  | .int a, b, _, h => by cases b <;> first | rfl | cases h
  | .str a, b, _, h => by cases b <;> first | rfl | cases h
  | .tup xs, b, h0, h => by
    cases b with
    | tup ys => exact eqvs_py xs ys h0 h
    | dic _ => cases h
    | set _ => cases h
    | ins _ _ => cases h
    | exc _ _ => cases h
    | _ => rfl
  | .lst xs, b, h0, h => by
    cases b with
    | lst ys => exact eqvs_py xs ys h0 h
    | dic _ => cases h
    | set _ => cases h
    | ins _ _ => cases h
    | exc _ _ => cases h
    | _ => rfl
  | .dic _, _, h, _ => by cases h
  | .set _, _, h, _ => by cases h
  | .ins _ _, _, h, _ => by cases h
  | .exc _ _, _, h, _ => by cases h
theorem eqvs_py : ∀ a b : List D, plainDs a = true → plainDs b = true → PyData.eqvAll (toPys a) (toPys b) = eqvDs a b
  | [], [], _, _ => rfl
  | [], _ :: _, _, _ => rfl
  | _ :: _, [], _, _ => rfl
  | x :: xs, y :: ys, h0, h => by
    have a := Bool.and_eq_true_iff.mp h0
    have b := Bool.and_eq_true_iff.mp h
    show (PyData.eqv (toPy x) (toPy y) && PyData.eqvAll (toPys xs) (toPys ys)) = (eqvD x y && eqvDs xs ys)
    rw [eqv_py x y a.1 b.1, eqvs_py xs ys a.2 b.2]
end
mutual
theorem lay_py : ∀ a : D, plainD a = true → (toPy a).canLay0 = true
  | .non, _ => rfl
  | .bl _, _ => rfl
  | .int _, _ => rfl
  | .str _, h => h
  | .tup xs, h => lays_py xs h
  | .lst xs, h => lays_py xs h
  | .dic _, h => by cases h
  | .set _, h => by cases h
  | .ins _ _, h => by cases h
  | .exc _ _, h => by cases h
theorem lays_py : ∀ a : List D, plainDs a = true → PyData.canLayAll0 (toPys a) = true
  | [], _ => rfl
  | x :: xs, h => by
    have a := Bool.and_eq_true_iff.mp h
    show ((toPy x).canLay0 && PyData.canLayAll0 (toPys xs)) = true
    rw [lay_py x a.1, lays_py xs a.2]
    rfl
end
mutual
theorem depth_py : ∀ a : D, (toPy a).depth = depthD a
  | .non => rfl
  | .bl _ => rfl
  | .int _ => rfl
  | .str _ => rfl
  | .tup xs => congrArg (· + 1) (depths_py xs)
  | .lst xs => congrArg (· + 1) (depths_py xs)
  | .dic kvs => congrArg (· + 1) (depthk_py kvs)
  | .set _ => rfl
  | .ins _ _ => rfl
  | .exc _ _ => rfl
  | .ro _ => rfl
theorem depths_py : ∀ a : List D, PyData.depthAll (toPys a) = depthDs a
  | [] => rfl
  | x :: xs => by
    show max (toPy x).depth (PyData.depthAll (toPys xs)) = max (depthD x) (depthDs xs)
    rw [depth_py x, depths_py xs]
theorem depthk_py : ∀ a : List (D × D), PyData.depthKv (toPyk a) = depthDk a
  | [] => rfl
  | (k, v) :: xs => by
    show max (max (toPy k).depth (toPy v).depth) (PyData.depthKv (toPyk xs)) = max (max (depthD k) (depthD v)) (depthDk xs)
    rw [depth_py k, depth_py v, depthk_py xs]
end
theorem shaped_py {a : D} (h : plainD a = true) (d : depthD a ≤ 48) : SeqAt.shaped (toPy a) = true := by
  unfold SeqAt.shaped
  rw [lay_py a h, depth_py a, decide_eq_true (show depthD a ≤ 64 from Nat.le_trans d (by decide))]
  rfl

section
variable {X : Cx} {C : Cn}
/-- a value read as data -/
theorem snap_dp {ρ : List Addr} {h : Hs} {H : Hp} {v : Vl} {u : V} {a : D} (S : Sim X.K C ρ h H) (e : snap v h = some a) (r : RepV X.K C ρ h H v u) (p : plainD a = true) : Dp X.K H u (toPy a) := by
  unfold snap at e
  split at e
  · cases e
    exact Rep.dp r p
  · split at e
    · rename_i n xs q
      cases e2 : allD xs with
      | none => rw [e2] at e; cases e
      | some ds =>
        rw [e2] at e
        cases e
        obtain ⟨ad, e1, rfl⟩ := r
        obtain ⟨vs, e3, e4⟩ := S.ok _ _ ad q e1
        rw [allD_eq e2] at e4
        exact .lst (.of e3) (Reps.dp (reps_of_ds e4) p)
    · cases e
      cases p
    · cases e
theorem snap_tup {ρ : List Addr} {h : Hs} {H : Hp} {v : Vl} {u : V} {xs : List D} (S : Sim X.K C ρ h H) (e : snap v h = some (.tup xs)) (r : RepV X.K C ρ h H v u) : ∃ p vs, u = .ref p ∧ SqT X.K H p vs ∧ xs.length = vs.length := by
  unfold snap at e
  split at e
  · cases e
    obtain ⟨p, vs, rfl, a, b⟩ := rep_tup r
    exact ⟨p, vs, rfl, a.sq, b.len⟩
  · split at e
    · rename_i n ys q
      cases e2 : allD ys with
      | none => rw [e2] at e; cases e
      | some ds => rw [e2] at e; cases e
    · cases e
    · cases e
theorem snap_lst {ρ : List Addr} {h : Hs} {H : Hp} {v : Vl} {u : V} {xs : List D} (S : Sim X.K C ρ h H) (e : snap v h = some (.lst xs)) (r : RepV X.K C ρ h H v u) : ∃ p vs, u = .ref p ∧ SqL X.K H p vs ∧ xs.length = vs.length := by
  unfold snap at e
  split at e
  · cases e
    obtain ⟨p, vs, rfl, a, b⟩ := rep_lst r
    exact ⟨p, vs, rfl, a.sq, b.len⟩
  · split at e
    · rename_i n ys q
      cases e2 : allD ys with
      | none => rw [e2] at e; cases e
      | some ds =>
        rw [e2] at e
        cases e
        obtain ⟨ad, e1, rfl⟩ := r
        obtain ⟨vs, e3, e4⟩ := S.ok _ _ ad q e1
        refine ⟨ad, vs, rfl, .of e3, ?_⟩
        rw [allD_eq e2] at e4
        exact (reps_of_ds e4).len
    · cases e
    · cases e
theorem snap_str {ρ : List Addr} {h : Hs} {H : Hp} {v : Vl} {u : V} {z : Str} (S : Sim X.K C ρ h H) (e : snap v h = some (.str z)) (r : RepV X.K C ρ h H v u) : u = .str z := by
  unfold snap at e
  split at e
  · cases e
    exact repV_str r
  · split at e
    · rename_i xs q
      cases e2 : allD xs with
      | none => rw [e2] at e; cases e
      | some ds => rw [e2] at e; cases e
    · cases e
    · cases e
/-- what == of two values is -/
inductive EqC (K : PySem.W.Frag) (H : Hp) : V → V → Bool → Prop
  | str {x y : Str} : EqC K H (.str x) (.str y) (x == y)
  | tup {p q : Addr} {vs us : List V} : SqT K H p vs → SqT K H q us → (vs = [] ∨ us = []) → EqC K H (.ref p) (.ref q) (vs.length == us.length)
  | lst {p q : Addr} {vs us : List V} : SqL K H p vs → SqL K H q us → (vs = [] ∨ us = []) → EqC K H (.ref p) (.ref q) (vs.length == us.length)
  | dat {x y : V} {a b : PyData} : Dp K H x a → Dp K H y b → SeqAt.shaped a = true → SeqAt.shaped b = true → EqC K H x y (PyData.eqv a b)
theorem eqV_c {ρ : List Addr} {h : Hs} {H : Hp} {v w : Vl} {x y : V} {b : Bool} (S : Sim X.K C ρ h H) (e : eqV v w h = some b) (rv : RepV X.K C ρ h H v x) (rw' : RepV X.K C ρ h H w y) : EqC X.K H x y b := by
  unfold eqV at e
  split at e
  · rename_i a c ea ec
    split at e
    · rename_i ys
      cases e
      obtain ⟨p, vs, rfl, s1, l1⟩ := snap_tup S ea rv
      obtain ⟨q, us, rfl, s2, l2⟩ := snap_tup S ec rw'
      cases vs with
      | cons _ _ => cases l1
      | nil =>
        have := EqC.tup s1 s2 (.inl rfl)
        rw [← l2] at this
        cases ys <;> exact this
    · rename_i xs _
      cases e
      obtain ⟨p, vs, rfl, s1, l1⟩ := snap_tup S ea rv
      obtain ⟨q, us, rfl, s2, l2⟩ := snap_tup S ec rw'
      cases us with
      | cons _ _ => cases l2
      | nil =>
        have := EqC.tup s1 s2 (.inr rfl)
        rw [← l1] at this
        cases xs <;> exact this
    · rename_i ys
      cases e
      obtain ⟨p, vs, rfl, s1, l1⟩ := snap_lst S ea rv
      obtain ⟨q, us, rfl, s2, l2⟩ := snap_lst S ec rw'
      cases vs with
      | cons _ _ => cases l1
      | nil =>
        have := EqC.lst s1 s2 (.inl rfl)
        rw [← l2] at this
        cases ys <;> exact this
    · rename_i xs _
      cases e
      obtain ⟨p, vs, rfl, s1, l1⟩ := snap_lst S ea rv
      obtain ⟨q, us, rfl, s2, l2⟩ := snap_lst S ec rw'
      cases us with
      | cons _ _ => cases l2
      | nil =>
        have := EqC.lst s1 s2 (.inr rfl)
        rw [← l1] at this
        cases xs <;> exact this
    · rename_i x' z'
      cases e
      rw [snap_str S ea rv, snap_str S ec rw']
      exact .str
    · split at e
      · rename_i hp
        cases e
        simp only [Bool.and_eq_true, decide_eq_true_eq] at hp
        obtain ⟨⟨⟨h1, h2⟩, h3⟩, h4⟩ := hp
        rw [← eqv_py _ _ h1 h2]
        exact .dat (snap_dp S ea rv h1) (snap_dp S ec rw' h2) (shaped_py h1 h3) (shaped_py h2 h4)
      · cases e
  · cases e
theorem range_all_zero {e : Nat → Bool} {n m : Nat} (h : n = 0 ∨ m = 0) : ((List.range (min n m)).all e && n == m) = (n == m) := by
  have : min n m = 0 := by omega
  rw [this]
  rfl
theorem eq_rule {pins : List (Addr × Obj)} {s : Shared} {σ : L2.St} {H : Hp} {x y : V} {v u : Value} {b : Bool} {Q : VK} (hu : X.A.units + 64 < cLine) (I : Inv X pins σ H s) (rx : RelV x v) (ry : RelV y u) (c : EqC X.K H x y b) (q : Q (.bl b) H) :
    wpAny (model X.prog X.w) X.A (compareOp .Eq v u) (EP X pins σ Q) X.xe s := by
  cases c with
  | @tup p p' vs us s1 s2 z =>
    cases rx
    cases ry
    obtain ⟨its, r1, t1, _⟩ := I.tuple s1
    obtain ⟨its2, r2, t2, _⟩ := I.tuple s2
    have l1 := r1.length
    have l2 := r2.length
    have z' : vs.length = 0 ∨ us.length = 0 := z.elim (fun e => .inl (by rw [e]; rfl)) fun e => .inr (by rw [e]; rfl)
    have s1' : its.toArray.size = vs.length := by rw [List.size_toArray]; exact l1.symm
    have s2' : its2.toArray.size = us.length := by rw [List.size_toArray]; exact l2.symm
    refine SeqAt.eq_tupleAt (e := fun _ => true) t1 t2 (by omega) (fun j j1 j2 => ?_) ?_
    · omega
    · rw [range_all_zero (by omega), s1', s2']
      exact ⟨.bl _, H, I, rfl, q⟩
  | @lst p p' vs us s1 s2 z =>
    cases rx
    cases ry
    obtain ⟨its, r1, t1, _⟩ := I.list s1
    obtain ⟨its2, r2, t2, _⟩ := I.list s2
    have l1 := r1.length
    have l2 := r2.length
    have z' : vs.length = 0 ∨ us.length = 0 := z.elim (fun e => .inl (by rw [e]; rfl)) fun e => .inr (by rw [e]; rfl)
    have s1' : its.toArray.size = vs.length := by rw [List.size_toArray]; exact l1.symm
    have s2' : its2.toArray.size = us.length := by rw [List.size_toArray]; exact l2.symm
    by_cases hz : its.toArray.size = its2.toArray.size
    · refine SeqAt.eq_listAt (e := fun _ => true) t1.isList t2.isList hz (by omega) (fun j j1 j2 => ?_) ?_
      · omega
      · have e0 : its.toArray.size = 0 := by omega
        rw [e0]
        have hlen : (vs.length == us.length) = true := by
          rw [s1', s2'] at hz
          simpa using hz
        rw [hlen] at q
        exact ⟨.bl true, H, I, rfl, q⟩
    · refine SeqAt.eq_list_lengthsAt t1.isList t2.isList (by simpa using hz) (by omega) ?_
      have hlen : (vs.length == us.length) = false := by
        rw [s1', s2'] at hz
        simpa using hz
      rw [hlen] at q
      exact ⟨.bl false, H, I, rfl, q⟩
  | @str a b => exact op_eq pins s σ H _ _ v u Q I rx ry ⟨rfl, by rw [dec_str]; exact q⟩
  | dat d1 d2 h1 h2 => exact op_eqD hu pins s σ H x y v u Q I rx ry ⟨_, _, d1, d2, h1, h2, q⟩
theorem ne_rule {pins : List (Addr × Obj)} {s : Shared} {σ : L2.St} {H : Hp} {x y : V} {v u : Value} {b : Bool} {Q : VK} (hu : X.A.units + 64 < cLine) (I : Inv X pins σ H s) (rx : RelV x v) (ry : RelV y u) (c : EqC X.K H x y b) (q : Q (.bl (!b)) H) :
    wpAny (model X.prog X.w) X.A (compareOp .NotEq v u) (EP X pins σ Q) X.xe s := by
  cases c with
  | @tup p p' vs us s1 s2 z =>
    cases rx
    cases ry
    obtain ⟨its, r1, t1, _⟩ := I.tuple s1
    obtain ⟨its2, r2, t2, _⟩ := I.tuple s2
    have l1 := r1.length
    have l2 := r2.length
    have z' : vs.length = 0 ∨ us.length = 0 := z.elim (fun e => .inl (by rw [e]; rfl)) fun e => .inr (by rw [e]; rfl)
    have s1' : its.toArray.size = vs.length := by rw [List.size_toArray]; exact l1.symm
    have s2' : its2.toArray.size = us.length := by rw [List.size_toArray]; exact l2.symm
    refine SeqAt.RcNeAt.tuples (e := fun _ => true) t1 t2 (by omega) (fun j j1 j2 => ?_) _ _ _ _ ?_
    · omega
    · rw [range_all_zero (by omega), s1', s2']
      exact ⟨.bl _, H, I, rfl, q⟩
  | @lst p p' vs us s1 s2 z =>
    cases rx
    cases ry
    obtain ⟨its, r1, t1, _⟩ := I.list s1
    obtain ⟨its2, r2, t2, _⟩ := I.list s2
    have l1 := r1.length
    have l2 := r2.length
    have z' : vs.length = 0 ∨ us.length = 0 := z.elim (fun e => .inl (by rw [e]; rfl)) fun e => .inr (by rw [e]; rfl)
    have s1' : its.toArray.size = vs.length := by rw [List.size_toArray]; exact l1.symm
    have s2' : its2.toArray.size = us.length := by rw [List.size_toArray]; exact l2.symm
    by_cases hz : its.toArray.size = its2.toArray.size
    · refine SeqAt.RcNeAt.lists (e := fun _ => true) t1.isList t2.isList hz (by omega) (fun j j1 j2 => ?_) _ _ _ _ ?_
      · omega
      · have e0 : its.toArray.size = 0 := by omega
        rw [e0]
        have hlen : (vs.length == us.length) = true := by
          rw [s1', s2'] at hz
          simpa using hz
        rw [hlen] at q
        exact ⟨.bl false, H, I, rfl, q⟩
    · refine SeqAt.RcNeAt.lists_lengths t1.isList t2.isList (by simpa using hz) (by omega) _ _ _ _ ?_
      have hlen : (vs.length == us.length) = false := by
        rw [s1', s2'] at hz
        simpa using hz
      rw [hlen] at q
      exact ⟨.bl true, H, I, rfl, q⟩
  | @str a b => exact op_ne pins s σ H _ _ v u Q I rx ry ⟨rfl, by rw [dec_str]; exact q⟩
  | dat d1 d2 h1 h2 => exact op_neD hu pins s σ H x y v u Q I rx ry ⟨_, _, d1, d2, h1, h2, q⟩
theorem oB_ok {ρ : List Addr} {h : Hs} {H : Hp} {o : Option Bool} {f : Bool → Bool} {Q : VK} {E : XK} (S : Sim X.K C ρ h H) (k : OkV X.K C ρ h H (oB o h f) Q E) : ∃ b, o = some b ∧ Q (.bl (f b)) H := by
  unfold oB at k
  split at k
  · exact ⟨_, rfl, okB_q S k⟩
  · exact k.elim
theorem o_eq (hu : X.A.units + 64 < cLine) : OpR X (compareOp .Eq) (rP X.K C (pr .eq)) := by
  intro pins s σ H x y v u Q I rx ry ⟨h, ρ, a, b, S, ra, rb, k⟩
  obtain ⟨t, e, q⟩ := oB_ok S k
  exact eq_rule hu I rx ry (eqV_c S e ra rb) q
theorem o_ne (hu : X.A.units + 64 < cLine) : OpR X (compareOp .NotEq) (rP X.K C (pr .ne)) := by
  intro pins s σ H x y v u Q I rx ry ⟨h, ρ, a, b, S, ra, rb, k⟩
  obtain ⟨t, e, q⟩ := oB_ok S k
  exact ne_rule hu I rx ry (eqV_c S e ra rb) q
theorem o_lt : OpR X (compareOp .Lt) (rP X.K C (pr .lt)) := by
  intro pins s σ H x y v u Q I rx ry ⟨h, ρ, a, b, S, ra, rb, k⟩
  obtain ⟨i, j, e1, e2, k⟩ := i2_op k ra rb
  exact op_lt pins s σ H x y v u Q I rx ry ⟨i, j, e1, e2, okB_q S k⟩
theorem o_le : OpR X (compareOp .LtE) (rP X.K C (pr .le)) := by
  intro pins s σ H x y v u Q I rx ry ⟨h, ρ, a, b, S, ra, rb, k⟩
  obtain ⟨i, j, e1, e2, k⟩ := i2_op k ra rb
  exact op_le pins s σ H x y v u Q I rx ry ⟨i, j, e1, e2, okB_q S k⟩
theorem o_gt : OpR X (compareOp .Gt) (rP X.K C (pr .gt)) := by
  intro pins s σ H x y v u Q I rx ry ⟨h, ρ, a, b, S, ra, rb, k⟩
  obtain ⟨i, j, e1, e2, k⟩ := i2_op k ra rb
  exact op_gt pins s σ H x y v u Q I rx ry ⟨i, j, e1, e2, okB_q S k⟩
theorem o_ge : OpR X (compareOp .GtE) (rP X.K C (pr .ge)) := by
  intro pins s σ H x y v u Q I rx ry ⟨h, ρ, a, b, S, ra, rb, k⟩
  obtain ⟨i, j, e1, e2, k⟩ := i2_op k ra rb
  exact op_ge pins s σ H x y v u Q I rx ry ⟨i, j, e1, e2, okB_q S k⟩
theorem rep_nonref {av : Addr → Prop} {H : Hp} {x : D} {u : V} (r : Rep X.K C av H x u) : (u = .non ↔ x = .non) ∧ ∀ b, u = .bl b ↔ x = .bl b := by
  cases r <;> simp
theorem o_is : OpR X (compareOp .Is) (rP X.K C (pr .is_)) := by
  intro pins s σ H x y v u Q I rx ry ⟨h, ρ, a, b, S, ra, rb, k⟩
  obtain ⟨t, e, q⟩ := oB_ok S k
  unfold isV at e
  split at e
  · obtain rfl := repV_non rb
    refine op_isN pins s σ H x .non v u Q I rx ry ⟨rfl, ?_⟩
    cases a with
    | r n =>
      obtain ⟨p, _, rfl⟩ := ra
      cases e
      exact q
    | d z =>
      have hz := (rep_nonref ra).1
      split at e
      · rename_i heq
        cases heq
        cases e
        rw [hz.mpr rfl]
        exact q
      · rename_i hne
        cases e
        have : x ≠ .non := fun w => hne (by rw [hz.mp w])
        rw [decide_eq_false this]
        exact q
  · obtain rfl := repV_bl rb
    split at e
    · cases e
      obtain rfl := repV_bl ra
      exact op_isBl pins s σ H _ _ v u Q I rx ry ⟨_, _, rfl, rfl, by rw [← Bool.beq_eq_decide_eq]; exact q⟩
    · cases e
  · cases e
theorem o_isnot : OpR X (compareOp .IsNot) (rP X.K C (pr .isnot)) := by
  intro pins s σ H x y v u Q I rx ry ⟨h, ρ, a, b, S, ra, rb, k⟩
  obtain ⟨t, e, q⟩ := oB_ok S k
  unfold isV at e
  split at e
  · obtain rfl := repV_non rb
    refine op_notN pins s σ H x .non v u Q I rx ry ⟨rfl, ?_⟩
    cases a with
    | r n =>
      obtain ⟨p, _, rfl⟩ := ra
      cases e
      exact q
    | d z =>
      have hz := (rep_nonref ra).1
      split at e
      · rename_i heq
        cases heq
        cases e
        rw [hz.mpr rfl]
        exact q
      · rename_i hne
        cases e
        have : x ≠ .non := fun w => hne (by rw [hz.mp w])
        rw [decide_eq_false this]
        exact q
  · obtain rfl := repV_bl rb
    split at e
    · cases e
      obtain rfl := repV_bl ra
      exact op_notBl pins s σ H _ _ v u Q I rx ry ⟨_, _, rfl, rfl, by rw [← Bool.beq_eq_decide_eq]; exact q⟩
    · cases e
  · cases e
end
end L3
/-! L3: calls of built-ins, subscripts, slices. -/
namespace L3
open PySem PySem.Spec PyProof.Rows L2

section
variable {X : Cx} {C : Cn}
theorem vs1 {ρ : List Addr} {h : Hs} {H : Hp} {v : Vl} {xs : List V} (r : RepVs X.K C ρ h H [v] xs) : ∃ u, xs = [u] ∧ RepV X.K C ρ h H v u := by
  cases r with
  | cons a b => cases b; exact ⟨_, rfl, a⟩
theorem vs2 {ρ : List Addr} {h : Hs} {H : Hp} {v w : Vl} {xs : List V} (r : RepVs X.K C ρ h H [v, w] xs) : ∃ u z, xs = [u, z] ∧ RepV X.K C ρ h H v u ∧ RepV X.K C ρ h H w z := by
  cases r with
  | cons a b =>
    cases b with
    | cons c d => cases d; exact ⟨_, _, rfl, a, c⟩
/-! ### len, all, any, int, min, max -/
theorem lenV_of {ρ : List Addr} {h : Hs} {H : Hp} {v : Vl} {u : V} {n : Nat} (S : Sim X.K C ρ h H) (r : RepV X.K C ρ h H v u) (e : (∃ vs, sview v h = some vs ∧ vs.length = n) ∨ ∃ ks, kview v h = some ks ∧ ks.length = n) :
    (∃ p ys, u = .ref p ∧ (SqL X.K H p ys ∨ SqT X.K H p ys) ∧ ys.length = n) ∨ ∃ p ks, u = .ref p ∧ Rd H p (.dK ks) ∧ ks.length = n := by
  rcases e with ⟨vs, e, l⟩ | ⟨ks, e, l⟩
  · obtain ⟨p, ys, rfl, a, b⟩ := sview_ok S e r
    exact .inl ⟨p, ys, rfl, a, by rw [← b.len]; exact l⟩
  · obtain ⟨p, ys, rfl, a, b⟩ := kview_ok S e r
    exact .inr ⟨p, ys, rfl, a, by rw [← b.len]; exact l⟩
theorem c_len : CallR X (.builtin "len") (rC X.K C (pr .len)) := by
  intro pins s σ H xs us Q I rx ⟨h, ρ, vs, S, r, k⟩
  simp only [pr] at k
  split at k
  · obtain ⟨u, rfl, r1⟩ := vs1 r
    split at k
    · rename_i ws e
      rcases lenV_of S r1 (.inl ⟨ws, e, rfl⟩) with ⟨p, ys, rfl, a, l⟩ | ⟨p, ks, rfl, a, l⟩
      · exact call_len_seq pins s σ H _ us Q I rx ⟨p, ys, rfl, a, by rw [l]; exact okI_q S k⟩
      · obtain ⟨u1, rfl, ru⟩ := vals1 rx
        cases ru
        exact d_len I a fun t s' I' => ⟨.int _, H, I', ⟨_, rfl⟩, by rw [l]; exact okI_q S k⟩
    · split at k
      · rename_i ws e
        rcases lenV_of S r1 (.inr ⟨ws, e, rfl⟩) with ⟨p, ys, rfl, a, l⟩ | ⟨p, ks, rfl, a, l⟩
        · exact call_len_seq pins s σ H _ us Q I rx ⟨p, ys, rfl, a, by rw [l]; exact okI_q S k⟩
        · obtain ⟨u1, rfl, ru⟩ := vals1 rx
          cases ru
          exact d_len I a fun t s' I' => ⟨.int _, H, I', ⟨_, rfl⟩, by rw [l]; exact okI_q S k⟩
      · exact k.elim
  · exact k.elim
theorem allB_ok {ρ : List Addr} {h : Hs} {H : Hp} : ∀ {vs : List Vl} {bs : List Bool} {us : List V}, allB vs = some bs → RepVs X.K C ρ h H vs us → us = bs.map V.bl
  | [], bs, us, e, r => by
    cases e
    cases r
    rfl
  | v :: vs, bs, us, e, r => by
    cases r with
    | cons a b =>
      cases v with
      | r n => cases e
      | d x =>
        cases x with
        | bl t =>
          have e' : (allB vs).map (t :: ·) = some bs := e
          cases q : allB vs with
          | none => rw [q] at e'; cases e'
          | some cs =>
            rw [q] at e'
            cases e'
            rw [allB_ok q b, repV_bl a]
            rfl
        | _ => cases e
theorem allI_ok {ρ : List Addr} {h : Hs} {H : Hp} : ∀ {vs : List Vl} {bs : List Int} {us : List V}, allI vs = some bs → RepVs X.K C ρ h H vs us → us = bs.map V.int
  | [], bs, us, e, r => by
    cases e
    cases r
    rfl
  | v :: vs, bs, us, e, r => by
    cases r with
    | cons a b =>
      cases v with
      | r n => cases e
      | d x =>
        cases x with
        | int t =>
          have e' : (allI vs).map (t :: ·) = some bs := e
          cases q : allI vs with
          | none => rw [q] at e'; cases e'
          | some cs =>
            rw [q] at e'
            cases e'
            rw [allI_ok q b, repV_int a]
            rfl
        | _ => cases e
theorem lbind {α β : Type} {o : Option α} {f : α → Option β} {b : β} (e : o.bind f = some b) : ∃ a, o = some a ∧ f a = some b := by
  cases o with
  | none => cases e
  | some a => exact ⟨a, rfl, e⟩
theorem c_all (hc : X.calm = true) : CallR X (.builtin "all") (rC X.K C (pr .all)) := by
  intro pins s σ H xs us Q I rx ⟨h, ρ, vs, S, r, k⟩
  simp only [pr] at k
  split at k
  · obtain ⟨u, rfl, r1⟩ := vs1 r
    split at k
    · rename_i bs e
      obtain ⟨ws, e1, e2⟩ := lbind e
      obtain ⟨p, ys, rfl, a, b⟩ := lview_ok S e1 r1
      rw [allB_ok e2 b] at a
      exact cr_all hc pins s σ H _ us Q I rx ⟨p, bs, rfl, .of a, okB_q S k⟩
    · exact k.elim
  · exact k.elim
theorem c_any (hc : X.calm = true) : CallR X (.builtin "any") (rC X.K C (pr .any)) := by
  intro pins s σ H xs us Q I rx ⟨h, ρ, vs, S, r, k⟩
  simp only [pr] at k
  split at k
  · obtain ⟨u, rfl, r1⟩ := vs1 r
    split at k
    · rename_i bs e
      obtain ⟨ws, e1, e2⟩ := lbind e
      obtain ⟨p, ys, rfl, a, b⟩ := lview_ok S e1 r1
      rw [allB_ok e2 b] at a
      exact cr_any hc pins s σ H _ us Q I rx ⟨p, bs, rfl, .of a, okB_q S k⟩
    · exact k.elim
  · exact k.elim
theorem c_int : CallR X (.type "int") (rC X.K C (pr .int)) := by
  intro pins s σ H xs us Q I rx ⟨h, ρ, vs, S, r, k⟩
  simp only [pr] at k
  split at k
  · obtain ⟨u, rfl, r1⟩ := vs1 r
    exact call_int1 pins s σ H _ us Q I rx (.inl ⟨_, by rw [repV_int r1], okI_q S k⟩)
  · rename_i b
    obtain ⟨u, rfl, r1⟩ := vs1 r
    exact call_int1 pins s σ H _ us Q I rx (.inr ⟨_, by rw [repV_bl r1], okI_q S k⟩)
  · exact k.elim
theorem c_min2 (hc : X.calm = true) : CallR X (.builtin "min") (rC X.K C (pr .min2)) := by
  intro pins s σ H xs us Q I rx ⟨h, ρ, vs, S, r, k⟩
  obtain ⟨i, j, rfl, rfl, k⟩ := i2_ok k r
  exact call_min2 hc pins s σ H _ us Q I rx ⟨i, j, rfl, okI_q S k⟩
theorem c_max2 (hc : X.calm = true) : CallR X (.builtin "max") (rC X.K C (pr .max2)) := by
  intro pins s σ H xs us Q I rx ⟨h, ρ, vs, S, r, k⟩
  obtain ⟨i, j, rfl, rfl, k⟩ := i2_ok k r
  exact call_max2 hc pins s σ H _ us Q I rx ⟨i, j, rfl, okI_q S k⟩
/-! ### tuple, list, sorted -/
theorem c_tuple : CallR X (.type "tuple") (rC X.K C (pr .tuple)) := by
  intro pins s σ H xs us Q I rx ⟨h, ρ, vs, S, r, k⟩
  simp only [pr] at k
  split at k
  · rename_i v
    obtain ⟨u, rfl, r1⟩ := vs1 r
    split at k
    · rename_i ds e
      obtain ⟨ws, e1, e2⟩ := lbind e
      rw [allD_eq e2] at e1
      cases hv : lview v h with
      | some zs =>
        obtain ⟨p, ys, rfl, a, b⟩ := lview_ok S hv r1
        have hz : zs = ds.map .d := by
          unfold lview at hv
          unfold sview at e1
          split at hv <;> simp_all
        rw [hz] at b
        exact call_tuple_of pins s σ H _ us Q I rx ⟨p, ys, rfl, .inl ⟨.of a, fun l n => new_tup S k (reps_of_ds b) n⟩⟩
      | none =>
        unfold sview at e1
        split at e1
        · cases hv
        · rename_i zs
          have : zs = ds := by
            have := congrArg allD (Option.some.inj e1)
            rw [allD_map, allD_map] at this
            exact Option.some.inj this
          subst this
          obtain ⟨p, ys, rfl, a, b⟩ := rep_tup r1
          exact call_tuple_of pins s σ H _ us Q I rx ⟨p, ys, rfl, .inr ⟨a.sq, okV_d S k r1⟩⟩
        · unfold lview at hv
          simp_all
        · cases e1
    · exact k.elim
  · exact k.elim
theorem c_listS (m : Bool) : CallR X (.type "list") (rC X.K C fun as h => match as with
    | [x] => match sview x h with
      | some vs => mkL m vs h
      | none => .bad
    | _ => .bad) := by
  intro pins s σ H xs us Q I rx ⟨h, ρ, vs, S, r, k⟩
  dsimp only at k
  split at k
  · rename_i v
    obtain ⟨u, rfl, r1⟩ := vs1 r
    split at k
    · rename_i ws e
      obtain ⟨p, ys, rfl, a, b⟩ := sview_ok S e r1
      obtain ⟨_, q⟩ := mkL_ok S k b
      exact call_list_of pins s σ H _ us Q I rx ⟨p, ys, rfl, a, q⟩
    · exact k.elim
  · exact k.elim
theorem insI_perm (x : Int) : ∀ l : List Int, (insI x l).Perm (x :: l)
  | [] => .refl _
  | y :: r => by
    unfold insI
    split
    · exact .refl _
    · exact ((insI_perm x r).cons y).trans (.swap x y r)
theorem sortI_perm : ∀ l : List Int, (sortI l).Perm l
  | [] => .refl _
  | x :: r => (insI_perm x (sortI r)).trans ((sortI_perm r).cons x)
theorem insI_sorted (x : Int) : ∀ l : List Int, l.Pairwise (· ≤ ·) → (insI x l).Pairwise (· ≤ ·)
  | [], _ => by simp [insI]
  | y :: r, h => by
    unfold insI
    rw [List.pairwise_cons] at h
    split
    · rename_i hxy
      refine List.pairwise_cons.mpr ⟨fun z hz => ?_, List.pairwise_cons.mpr h⟩
      rcases List.mem_cons.mp hz with rfl | hz
      · exact hxy
      · have := h.1 z hz
        omega
    · rename_i hxy
      refine List.pairwise_cons.mpr ⟨fun z hz => ?_, insI_sorted x r h.2⟩
      rcases List.mem_cons.mp ((insI_perm x r).mem_iff.mp hz) with rfl | hz
      · omega
      · exact h.1 z hz
theorem sortI_sorted : ∀ l : List Int, (sortI l).Pairwise (· ≤ ·)
  | [] => .nil
  | x :: r => insI_sorted x _ (sortI_sorted r)
theorem perm_sorted_eq : ∀ {a b : List Int}, a.Perm b → a.Pairwise (· ≤ ·) → b.Pairwise (· ≤ ·) → a = b := fun p ha hb => p.eq_of_pairwise (fun x y _ _ h1 h2 => Int.le_antisymm h1 h2) ha hb
theorem keys_ints {av : Addr → Prop} {H : Hp} : ∀ {kvs : List (D × D)} {ks : List (Key × V)} {is : List Int}, allI (kvs.map fun p => .d p.1) = some is → Repk X.K C av H kvs ks → ks.map (·.1) = is.map Sum.inl
  | _, _, is, e, .nil => by
    cases e
    rfl
  | (k, x) :: kvs, (q, v) :: ks, is, e, .cons hk r s => by
    cases k <;> first | (cases e; done) | skip
    rename_i i
    cases hk
    have e' : (allI (kvs.map fun p => Vl.d p.1)).map (i :: ·) = some is := e
    cases z : allI (kvs.map fun p => Vl.d p.1) with
    | none => rw [z] at e'; cases e'
    | some is' =>
      rw [z] at e'
      cases e'
      rw [List.map_cons, List.map_cons, keys_ints z s]
theorem c_sorted (hcalm : X.calm = true) (m : Bool) : CallR X (.builtin "sorted") (rC X.K C (mk m .sorted)) := by
  intro pins s σ H xs us Q I rx ⟨h, ρ, vs, S, r, k⟩
  simp only [mk] at k
  split at k
  · rename_i v
    obtain ⟨u, rfl, r1⟩ := vs1 r
    split at k
    · rename_i is e
      obtain ⟨ws, e1, e2⟩ := lbind e
      obtain ⟨p, ys, rfl, a, b⟩ := lview_ok S e1 r1
      rw [allI_ok e2 b] at a
      have hr : RepVs X.K C ρ h H ((sortI is).map fun i => .d (.int i)) ((sortI is).map V.int) := by
        generalize sortI is = l
        induction l with
        | nil => exact .nil
        | cons i l ih => exact .cons (.int i) ih
      obtain ⟨_, q⟩ := mkL_ok S k hr
      refine cr_sortedI pins s σ H _ us Q I rx ⟨p, is, rfl, .of a, fun ns' p' h1 h2 n => ?_⟩
      have : ns' = sortI is := perm_sorted_eq (h1.trans (sortI_perm is).symm) h2 (sortI_sorted is)
      rw [this]
      exact q p' n
    · split at k
      · rename_i is e
        obtain ⟨kvs, e1, e2⟩ := lbind e
        obtain ⟨p, ks, rfl, rd, rk⟩ := kview_ok S e1 r1
        split at k
        · rename_i hl
          have hr : RepVs X.K C ρ h H ((sortI is).map fun i => .d (.int i)) ((sortI is).map V.int) := by
            generalize sortI is = l
            induction l with
            | nil => exact .nil
            | cons i l ih => exact .cons (.int i) ih
          obtain ⟨_, q⟩ := mkL_ok S k hr
          refine call_sortedDI hcalm pins s σ H _ us Q I rx ⟨p, ks, is, rfl, rd, keys_ints e2 rk, hl, fun ns' p' h1 h2 n => ?_⟩
          have : ns' = sortI is := perm_sorted_eq (h1.trans (sortI_perm is).symm) h2 (sortI_sorted is)
          rw [this]
          exact q p' n
        · exact k.elim
      · exact k.elim
  · exact k.elim
/-! ### subscripts -/
theorem ixOf_eq {n : Nat} {i : Int} : ixOf n i = ixN n i := rfl
theorem sview_at {ρ : List Addr} {h : Hs} {H : Hp} {vs : List Vl} {ys : List V} {i : Int} {v : Vl} (b : RepVs X.K C ρ h H vs ys) (e : ((ixOf vs.length i).bind fun k => vs[k]?) = some v) : ∃ y, atI ys i = some y ∧ RepV X.K C ρ h H v y := by
  obtain ⟨k, e1, e2⟩ := lbind e
  obtain ⟨y, e3, e4⟩ := Paired.get' b e2
  refine ⟨y, ?_, e4⟩
  unfold atI
  rw [← b.len, ← ixOf_eq, e1]
  exact e3
end
end L3
/-! L3: subscripts, slices, membership, isinstance, methods. -/
namespace L3
open PySem PySem.Spec PyProof.Rows L2

/-! ### dict keys -/
theorem keyOf_some {k : D} (h : keyS k = true) : ∃ q, keyOf k = some q := by
  cases k <;> first | exact ⟨_, rfl⟩ | cases h
theorem eqv_key {a b : D} {p q : Key} (ha : keyOf a = some p) (hb : keyOf b = some q) : eqvD a b = decide (p = q) := by
  cases a <;> first | cases ha | skip
  all_goals (cases b <;> first | cases hb | skip)
  · rename_i i j
    show (i == j) = decide (Sum.inl i = Sum.inl j)
    by_cases h : i = j
    · subst h; simp
    · rw [decide_eq_false (fun z => h (Sum.inl.inj z))]
      simpa using h
  · rw [decide_eq_false (fun z => nomatch z)]
    rfl
  · rw [decide_eq_false (fun z => nomatch z)]
    rfl
  · rename_i i j
    show (i == j) = decide (Sum.inr i = Sum.inr j)
    by_cases h : i = j
    · subst h; simp
    · rw [decide_eq_false (fun z => h (Sum.inr.inj z))]
      simpa using h
section
variable {X : Cx} {C : Cn}
theorem rep_key {av : Addr → Prop} {H : Hp} {k : D} {u : V} {q : Key} (h : keyOf k = some q) (r : Rep X.K C av H k u) : u = kV q := by
  cases r <;> first | (cases h; rfl) | cases h
theorem getK_ok {av : Addr → Prop} {H : Hp} {k : D} {q : Key} (hk : keyOf k = some q) : ∀ {kvs : List (D × D)} {ks : List (Key × V)}, Repk X.K C av H kvs ks →
    (getK kvs k).isSome = (valV ks q).isSome ∧ ∀ x, getK kvs k = some x → ∃ u, valV ks q = some u ∧ Rep X.K C av H x u
  | _, _, .nil => ⟨rfl, fun _ h => by cases h⟩
  | (k1, x1) :: kvs, (q1, v1) :: ks, .cons e r s => by
    have ih := getK_ok hk s
    have e2 := eqv_key e hk
    by_cases hq : q1 = q
    · subst hq
      rw [decide_eq_true rfl] at e2
      have g1 : getK ((k1, x1) :: kvs) k = some x1 := by
        unfold getK
        rw [List.find?_cons]
        dsimp only
        rw [e2]
        rfl
      have g2 : valV ((q1, v1) :: ks) q1 = some v1 := valV_pos rfl
      rw [g1, g2]
      exact ⟨rfl, fun x h => ⟨v1, rfl, by cases h; exact r⟩⟩
    · rw [decide_eq_false hq] at e2
      have g1 : getK ((k1, x1) :: kvs) k = getK kvs k := by
        unfold getK
        rw [List.find?_cons]
        dsimp only
        rw [e2]
      rw [g1, valV_neg hq]
      exact ih
/-! ### x[i] -/
theorem i_item (hu : X.A.units + 1 < cLine) : IxR X (rP X.K C (pr .item)) := by
  intro value slice pins s σ H x y v u Q I rx ry ⟨h, ρ, a, b, S, ra, rb, k⟩ hs
  simp only [pr] at k
  split at k
  · rename_i z i heq
    obtain ⟨rfl, rfl⟩ := in2 heq
    split at k
    · rename_i kvs e
      obtain ⟨p, ks, rfl, rd, rk⟩ := kview_ok S e ra
      split at k
      · rename_i hk
        obtain ⟨q, hq⟩ := keyOf_some hk
        split at k
        · rename_i w hw
          obtain ⟨u', hv, hr⟩ := (getK_ok hq rk).2 w hw
          have ey := rep_key hq rb
          subst ey
          cases rx
          have g : DGet H p (kV q) (some u') := .inl ⟨ks, q, rd, rfl, hv.symm⟩
          exact tail_any (dict_typeIs I g) PySem.F.slot_dict_getitem.lookup (d_getItem hu I g ry fun w' s' I' r' => ⟨u', H, I', r', okV_d S k hr⟩) hs
        · exact k.elim
      · exact k.elim
    · split at k
      · rename_i i'
        have ei := repV_int rb
        subst ei
        split at k
        · rename_i _ zz _
          have ez := repV_str ra
          subst ez
          split at k
          · rename_i kk hx
            split at k
            · rename_i c hc
              split at k
              · rename_i h0
                rw [Bool.and_eq_true, decide_eq_true_eq, decide_eq_true_eq] at h0
                have h0' : 0 ≤ i' := h0.1
                refine ix_str value slice pins s σ H _ _ v u Q I rx ry ⟨zz, i', c, rfl, rfl, ?_, ?_, okV_d S k (.str _)⟩ hs
                · exact lim_line h0.2
                · unfold atI
                  have hl : zz.cps.toList.length = zz.length := by simp [Str.length]
                  rw [hl, ← ixOf_eq, hx]
                  show zz.cps.toList[kk]? = some c
                  rw [Array.getElem?_toList]
                  exact hc
              · exact k.elim
            · exact k.elim
          · exact k.elim
        · split at k
          · rename_i vs e
            split at k
            · rename_i w hw
              obtain ⟨p, ys, rfl, sq, b⟩ := sview_ok S e ra
              obtain ⟨y, ey, er⟩ := sview_at b hw
              rcases sq with sq | sq
              · exact ix_list value slice pins s σ H _ _ v u Q I rx ry ⟨p, ys, i', y, rfl, rfl, sq, ey, okV_v S k er⟩ hs
              · exact ix_tup value slice pins s σ H _ _ v u Q I rx ry ⟨p, ys, i', y, rfl, rfl, sq, ey, okV_v S k er⟩ hs
            · exact k.elim
          · exact k.elim
      · exact k.elim
  · exact k.elim
/-! ### in -/
theorem o_in (hu : X.A.units + 50 < cLine) : OpR X (compareOp .In) (rP X.K C (pr .in_)) := by
  intro pins s σ H x y v u Q I rx ry ⟨h, ρ, a, b, S, ra, rb, k⟩
  obtain ⟨t, e, q⟩ := oB_ok S k
  unfold inV at e
  split at e
  · cases e
  · rename_i k0 hk0
    cases a with
    | r n => cases hk0
    | d a0 =>
      obtain rfl : a0 = k0 := Option.some.inj hk0
      split at e
      · rename_i kvs ek
        obtain ⟨p, ks, rfl, rd, rk⟩ := kview_ok S ek rb
        split at e
        · rename_i hk
          cases e
          obtain ⟨q', hq⟩ := keyOf_some hk
          have ey := rep_key hq ra
          subst ey
          cases ry
          have g : DGet H p (kV q') (valV ks q') := .inl ⟨ks, q', rd, rfl, rfl⟩
          rw [(getK_ok hq rk).1] at q
          exact d_in (by omega) I g rx fun s' I' => ⟨.bl _, H, I', rfl, q⟩
        · cases e
      · split at e
        · rename_i vs ev
          split at e
          · rename_i ds ed
            split at e
            · rename_i hp
              cases e
              simp only [Bool.and_eq_true, decide_eq_true_eq] at hp
              obtain ⟨⟨⟨h1, h2⟩, h3⟩, h4⟩ := hp
              obtain ⟨p, ys, rfl, sq, rb2⟩ := sview_ok S ev rb
              rw [allD_eq ed] at rb2
              have dx := Rep.dp ra h1
              have dy := Reps.dp (reps_of_ds rb2) h2
              obtain ⟨as, r1⟩ := Dp.reads I _ _ _ dx rx
              have lx := lay_py _ h1
              have ly := lays_py _ h2
              have any : ∀ l : List D, plainDs l = true → ((toPys l).any fun y => PyData.eqv y (toPy a0)) = inL a0 l := by
                intro l
                induction l with
                | nil => intro _; rfl
                | cons z l ih =>
                  intro hl
                  have hl' := Bool.and_eq_true_iff.mp hl
                  show (PyData.eqv (toPy z) (toPy a0) || (toPys l).any fun y => PyData.eqv y (toPy a0)) = (eqvD z a0 || inL a0 l)
                  rw [eqv_py z a0 hl'.1 h1, ih hl'.2]
              have room : X.A.units + 1 + min (PyData.depthAll (toPys ds)) (toPy a0).depth < cLine := by
                rw [depths_py, depth_py]
                omega
              rcases sq with sq | sq
              · obtain ⟨bs, r2⟩ := Dp.reads I (.list (toPys ds)) (.ref p) u (.lst sq dy) ry
                exact SeqAt.in_list_reads r2 r1 ly lx room ⟨.bl _, H, I, rfl, by rw [any ds h2]; exact q⟩
              · obtain ⟨bs, r2⟩ := Dp.reads I (.tuple (toPys ds)) (.ref p) u (.tup sq dy) ry
                exact SeqAt.in_tuple_reads r2 r1 ly lx room ⟨.bl _, H, I, rfl, by rw [any ds h2]; exact q⟩
            · cases e
          · cases e
        · cases e
theorem o_notin (hu : X.A.units + 50 < cLine) : OpR X (compareOp .NotIn) (rP X.K C (pr .notin)) := by
  intro pins s σ H x y v u Q I rx ry ⟨h, ρ, a, b, S, ra, rb, k⟩
  obtain ⟨t, e, q⟩ := oB_ok S k
  unfold inV at e
  split at e
  · cases e
  · rename_i k0 hk0
    cases a with
    | r n => cases hk0
    | d a0 =>
      obtain rfl : a0 = k0 := Option.some.inj hk0
      split at e
      · rename_i kvs ek
        obtain ⟨p, ks, rfl, rd, rk⟩ := kview_ok S ek rb
        split at e
        · rename_i hk
          cases e
          obtain ⟨q', hq⟩ := keyOf_some hk
          have ey := rep_key hq ra
          subst ey
          cases ry
          have g : DGet H p (kV q') (valV ks q') := .inl ⟨ks, q', rd, rfl, rfl⟩
          rw [(getK_ok hq rk).1] at q
          exact d_notIn (by omega) I g rx fun s' I' => ⟨.bl _, H, I', rfl, q⟩
        · cases e
      · split at e
        · rename_i vs ev
          split at e
          · rename_i ds ed
            split at e
            · rename_i hp
              cases e
              simp only [Bool.and_eq_true, decide_eq_true_eq] at hp
              obtain ⟨⟨⟨h1, h2⟩, h3⟩, h4⟩ := hp
              obtain ⟨p, ys, rfl, sq, rb2⟩ := sview_ok S ev rb
              rw [allD_eq ed] at rb2
              have dx := Rep.dp ra h1
              have dy := Reps.dp (reps_of_ds rb2) h2
              obtain ⟨as, r1⟩ := Dp.reads I _ _ _ dx rx
              have lx := lay_py _ h1
              have ly := lays_py _ h2
              have any : ∀ l : List D, plainDs l = true → ((toPys l).any fun y => PyData.eqv y (toPy a0)) = inL a0 l := by
                intro l
                induction l with
                | nil => intro _; rfl
                | cons z l ih =>
                  intro hl
                  have hl' := Bool.and_eq_true_iff.mp hl
                  show (PyData.eqv (toPy z) (toPy a0) || (toPys l).any fun y => PyData.eqv y (toPy a0)) = (eqvD z a0 || inL a0 l)
                  rw [eqv_py z a0 hl'.1 h1, ih hl'.2]
              have room : X.A.units + 1 + min (PyData.depthAll (toPys ds)) (toPy a0).depth < cLine := by
                rw [depths_py, depth_py]
                omega
              rcases sq with sq | sq
              · obtain ⟨bs, r2⟩ := Dp.reads I (.list (toPys ds)) (.ref p) u (.lst sq dy) ry
                exact SeqAt.notIn_list_reads r2 r1 ly lx room ⟨.bl _, H, I, rfl, by rw [any ds h2]; exact q⟩
              · obtain ⟨bs, r2⟩ := Dp.reads I (.tuple (toPys ds)) (.ref p) u (.tup sq dy) ry
                exact SeqAt.notIn_tuple_reads r2 r1 ly lx room ⟨.bl _, H, I, rfl, by rw [any ds h2]; exact q⟩
            · cases e
          · cases e
        · cases e
end
end L3
/-! L3: slices, methods of lists, list * n. -/
namespace L3
open PySem PySem.Spec PyProof.Rows L2

section
variable {X : Cx} {C : Cn}
theorem sIx_slOf (n d : Nat) (i : Int) : HT.sIx n d (some i) = slOf n i := by
  unfold slOf
  show (if i < 0 then (i + (n : Int)).toNat else min i.toNat n) = _
  by_cases h : i < 0
  · rw [if_pos h, if_neg (by omega)]
  · rw [if_neg h, if_pos (by omega)]
def loOf (n : Nat) (o : Option Int) : Nat := match o with
  | none => 0
  | some i => slOf n i
def hiOf (n : Nat) (o : Option Int) : Nat := match o with
  | none => n
  | some i => slOf n i
theorem sIx_lo (n : Nat) (o : Option Int) : HT.sIx n 0 o = loOf n o := by
  cases o with
  | none => rfl
  | some i => exact sIx_slOf n 0 i
theorem sIx_hi (n : Nat) (o : Option Int) : HT.sIx n n o = hiOf n o := by
  cases o with
  | none => rfl
  | some i => exact sIx_slOf n n i
theorem cutV_D (xs : List V) (lo hi : Option Int) : cutV xs lo hi = cutD xs (loOf xs.length lo) (hiOf xs.length hi) := by
  unfold cutV cutD
  rw [sIx_lo, sIx_hi, List.drop_take]
/-- a slice of a list, of a tuple -/
def slMk (m : Bool) (v : Vl) (lo hi : Option Int) (h : Hs) : Out Vl := match rview v h with
  | some vs => mkL m (cutD vs (loOf vs.length lo) (hiOf vs.length hi)) h
  | none => .bad
def slPr (v : Vl) (lo hi : Option Int) (h : Hs) : Out Vl := match v with
  | .d (.tup xs) => .ok (.d (.tup (cutD xs (loOf xs.length lo) (hiOf xs.length hi)))) h
  | _ => .bad
variable (X C) in
def rS (f : Vl → Option Int → Option Int → Hs → Out Vl) : V → Option Int → Option Int → Hp → VK → Prop := fun x lo hi H Q => ∃ (h : Hs) (ρ : List Addr) (v : Vl), Sim X.K C ρ h H ∧ RepV X.K C ρ h H v x ∧ OkV X.K C ρ h H (f v lo hi h) Q fun _ _ _ => False
theorem rview_ok {ρ : List Addr} {h : Hs} {H : Hp} {v : Vl} {u : V} {xs : List Vl} (S : Sim X.K C ρ h H) (e : rview v h = some xs) (r : RepV X.K C ρ h H v u) : ∃ p vs, u = .ref p ∧ SqL X.K H p vs ∧ RepVs X.K C ρ h H xs vs := by
  unfold rview at e
  split at e
  · rename_i is
    cases e
    cases r with
    | ro s =>
      refine ⟨_, _, rfl, s.sq, ?_⟩
      clear s
      induction is with
      | nil => exact .nil
      | cons i is ih => exact .cons (.int i) ih
  · obtain ⟨p, vs, e1, e2, e3⟩ := lview_ok S e r
    exact ⟨p, vs, e1, .of e2, e3⟩
theorem s_mk (m : Bool) : SlR X (rS X C (slMk m)) := by
  intro pins s σ H x v vl vu lo hi sl Q I rx hs pl pu ⟨h, ρ, a, S, ra, k⟩
  unfold slMk at k
  split at k
  · rename_i vs e
    obtain ⟨p, ys, rfl, ea, b⟩ := rview_ok S e ra
    obtain ⟨_, q⟩ := mkL_ok S k (Paired.drop' (loOf vs.length lo) (Paired.take' (hiOf vs.length hi) b))
    refine sl_list pins s σ H _ v vl vu lo hi sl Q I rx hs pl pu ⟨p, ys, rfl, ea, fun p' n => ?_⟩
    rw [cutV_D, ← b.len]
    exact q p' n
  · exact k.elim
theorem s_pr : SlR X (rS X C slPr) := by
  intro pins s σ H x v vl vu lo hi sl Q I rx hs pl pu ⟨h, ρ, a, S, ra, k⟩
  unfold slPr at k
  split at k
  · rename_i xs
    obtain ⟨p, ys, rfl, ea, b⟩ := rep_tup ra
    refine sl_tupA pins s σ H _ v vl vu lo hi sl Q I rx hs pl pu ⟨p, ys, rfl, ea.sq, fun hw => ?_, fun _ p' n => ?_⟩
    · rw [sIx_lo, sIx_hi, ← b.len] at hw
      have e : cutD xs (loOf xs.length lo) (hiOf xs.length hi) = xs := by
        rw [hw.1, hw.2]
        unfold cutD
        rw [List.take_length, List.drop_zero]
      rw [e] at k
      exact okV_d S k ra
    · rw [cutV_D, ← b.len]
      exact new_tup S k ((b.take _).drop _) n
  · exact k.elim
/-! ### methods of lists, by values: the receiver ahead -/
variable (X C) in
def rM (f : List Vl → Hs → Out Vl) : V → List V → Hp → VK → Prop := fun x xs H Q => ∃ (h : Hs) (ρ : List Addr) (v : Vl) (vs : List Vl), Sim X.K C ρ h H ∧ RepV X.K C ρ h H v x ∧ RepVs X.K C ρ h H vs xs ∧ OkV X.K C ρ h H (f (v :: vs) h) Q fun _ _ _ => False
theorem m_count (hu : X.A.units + 50 < cLine) : MtR X "list.count" (rM X C (pr .count)) := by
  intro pins s σ H x xs v us Q I rx rxs ⟨h, ρ, a, vs, S, ra, rvs, k⟩
  simp only [pr] at k
  split at k
  · rename_i a' y heq
    cases heq
    split at k
    · rename_i ds d e1 e2
      split at k
      · rename_i hp
        simp only [Bool.and_eq_true, decide_eq_true_eq] at hp
        obtain ⟨⟨⟨h1, h2⟩, h3⟩, h4⟩ := hp
        obtain ⟨ws, ev, ed⟩ := lbind e1
        obtain ⟨p, ys, rfl, ea, b⟩ := lview_ok S ev ra
        rw [allD_eq ed] at b
        obtain ⟨u, rfl, ru⟩ := vs1 rvs
        cases y with
        | r n => cases e2
        | d y =>
          obtain rfl : y = d := Option.some.inj e2
          have dx := Rep.dp ru h1
          have dy := Reps.dp (reps_of_ds b) h2
          have lx := lay_py _ h1
          have ly := lays_py _ h2
          obtain ⟨uu, rfl, ruu⟩ := rxs.one
          obtain ⟨as, r1⟩ := Dp.reads I _ _ _ dx ruu
          cases rx
          obtain ⟨bs, r2⟩ := Dp.reads I (.list (toPys ds)) (.ref p) (.ref p) (.lst (.of ea) dy) rfl
          have room : X.A.units + 1 + min (PyData.depthAll (toPys ds)) (toPy y).depth < cLine := by
            rw [depths_py, depth_py]
            omega
          cases r2 with
          | list g1 g2 g3 g4 =>
            rename_i o items nn as2
            obtain ⟨cls, dd, data, sl⟩ := o
            cases g2
            cases g3
            refine call_meets PySem.F.slot_list_count ⟨_, g1, rfl⟩ PySem.F.entry_list_count (PySem.F.args_list_count_2 _ _)
              (SeqAt.list_countAt p _ _ dd sl uu (fun y' => PyData.eqv (SeqAt.readOf s.heap y') (toPy y))) ⟨g1, SeqAt.items_eqAt g4 r1 ly lx room, ?_⟩
            refine ⟨.int _, H, I.tok _, ⟨_, rfl⟩, ?_⟩
            have any : ∀ l : List D, plainDs l = true → (toPys l).countP (fun y' => PyData.eqv y' (toPy y)) = (l.filter fun z => eqvD z y).length := by
              intro l
              induction l with
              | nil => intro _; rfl
              | cons z l ih =>
                intro hl
                have hl' := Bool.and_eq_true_iff.mp hl
                show (toPy z :: toPys l).countP _ = _
                rw [List.countP_cons, ih hl'.2, eqv_py z y hl'.1 h1, List.filter_cons]
                cases eqvD z y <;> simp
            have e3 : items.toList.countP (fun y' => PyData.eqv (SeqAt.readOf s.heap y') (toPy y)) = (ds.filter fun z => eqvD z y).length := by
              rw [← any ds h2, ← SeqAt.readsAll_map _ _ _ ly g4, List.countP_map]
              rfl
            rw [e3]
            exact okI_q S k
      · exact k.elim
    · exact k.elim
  · exact k.elim
/-! ### list * n -/
theorem o_mulL (m : Bool) : OpR X (binaryOp .Mult) (rP X.K C (mk m .mulL)) := by
  intro pins s σ H x y v u Q I rx ry ⟨h, ρ, a, b, S, ra, rb, k⟩
  simp only [mk] at k
  split at k
  · rename_i a' j heq
    obtain ⟨rfl, rfl⟩ := in2 heq
    split at k
    · rename_i xs e
      obtain ⟨p, ys, rfl, ea, b⟩ := lview_ok S e ra
      have hl := b.len
      split at k
      · rename_i hj
        simp only [Bool.and_eq_true, decide_eq_true_eq] at hj
        obtain ⟨hz, q⟩ := mkL_ok S k (Paired.rep' b j.toNat)
        refine op_rep pins s σ H _ y v u Q I rx ry ⟨p, j, ys, rfl, repV_int rb, ea, by omega, by omega, ?_, q⟩
        rw [List.length_flatten, List.map_replicate, List.sum_replicate_nat] at hz
        rw [Nat.mul_comm]
        exact hz
      · exact k.elim
    · exact k.elim
  · exact k.elim
end
end L3
/-! L3: more built-in operations: min, max, sum of a list; len(set(..)); repr. -/
namespace L3
open PySem PySem.Spec PyProof.Rows L2
section
variable {X : Cx} {C : Cn}
theorem min_all : ∀ (r : List Int) (i m : Int), m ∈ i :: r → (∀ y ∈ i :: r, m ≤ y) → r.foldl min i = m
  | [], i, m, h, _ => by
    rw [List.mem_singleton.mp h]
    rfl
  | y :: r, i, m, h, a => by
    rw [List.foldl_cons]
    have h1 := a i List.mem_cons_self
    have h2 := a y (by simp)
    refine min_all r (min i y) m ?_ fun z hz => ?_
    · rcases List.mem_cons.mp h with e | h
      · rw [e, Int.min_eq_left (by omega)]
        exact List.mem_cons_self
      · rcases List.mem_cons.mp h with e | h
        · rw [e, Int.min_eq_right (by omega)]
          exact List.mem_cons_self
        · exact List.mem_cons_of_mem _ h
    · rcases List.mem_cons.mp hz with e | hz
      · rw [e]
        exact Int.le_min.mpr ⟨h1, h2⟩
      · exact a z (by simp [hz])
theorem max_all : ∀ (r : List Int) (i m : Int), m ∈ i :: r → (∀ y ∈ i :: r, y ≤ m) → r.foldl max i = m
  | [], i, m, h, _ => by
    rw [List.mem_singleton.mp h]
    rfl
  | y :: r, i, m, h, a => by
    rw [List.foldl_cons]
    have h1 := a i List.mem_cons_self
    have h2 := a y (by simp)
    refine max_all r (max i y) m ?_ fun z hz => ?_
    · rcases List.mem_cons.mp h with e | h
      · rw [e, Int.max_eq_left (by omega)]
        exact List.mem_cons_self
      · rcases List.mem_cons.mp h with e | h
        · rw [e, Int.max_eq_right (by omega)]
          exact List.mem_cons_self
        · exact List.mem_cons_of_mem _ h
    · rcases List.mem_cons.mp hz with e | hz
      · rw [e]
        exact Int.max_le.mpr ⟨h1, h2⟩
      · exact a z (by simp [hz])
theorem c_minL (hc : X.calm = true) : CallR X (.builtin "min") (rC X.K C (pr .minL)) := by
  intro pins s σ H xs us Q I rx ⟨h, ρ, vs, S, r, k⟩
  simp only [pr] at k
  split at k
  · obtain ⟨u, rfl, r1⟩ := vs1 r
    split at k
    · rename_i bs e
      obtain ⟨ws, e1, e2⟩ := lbind e
      obtain ⟨p, ys, rfl, a, b⟩ := lview_ok S e1 r1
      rw [allI_ok e2 b] at a
      split at k
      · exact k.elim
      · rename_i i r'
        refine cr_min hc pins s σ H _ us Q I rx ⟨p, i :: r', rfl, .of a, by simp, fun m hm ha => ?_⟩
        rw [min_all r' i m hm ha] at k
        exact okI_q S k
    · exact k.elim
  · exact k.elim
theorem c_maxL (hc : X.calm = true) : CallR X (.builtin "max") (rC X.K C (pr .maxL)) := by
  intro pins s σ H xs us Q I rx ⟨h, ρ, vs, S, r, k⟩
  simp only [pr] at k
  split at k
  · obtain ⟨u, rfl, r1⟩ := vs1 r
    split at k
    · rename_i bs e
      obtain ⟨ws, e1, e2⟩ := lbind e
      obtain ⟨p, ys, rfl, a, b⟩ := lview_ok S e1 r1
      rw [allI_ok e2 b] at a
      split at k
      · exact k.elim
      · rename_i i r'
        refine cr_max hc pins s σ H _ us Q I rx ⟨p, i :: r', rfl, .of a, by simp, fun m hm ha => ?_⟩
        rw [max_all r' i m hm ha] at k
        exact okI_q S k
    · exact k.elim
  · exact k.elim
theorem c_sum (hc : X.calm = true) : CallR X (.builtin "sum") (rC X.K C (pr .sum)) := by
  intro pins s σ H xs us Q I rx ⟨h, ρ, vs, S, r, k⟩
  simp only [pr] at k
  split at k
  · obtain ⟨u, rfl, r1⟩ := vs1 r
    split at k
    · rename_i bs e
      obtain ⟨ws, e1, e2⟩ := lbind e
      obtain ⟨p, ys, rfl, a, b⟩ := lview_ok S e1 r1
      rw [allI_ok e2 b] at a
      exact cr_sum hc pins s σ H _ us Q I rx ⟨p, bs, rfl, .of a, okI_q S k⟩
    · exact k.elim
  · exact k.elim
/-! ### repr -/
theorem opt3 {a b : Option Nat} {n : Nat} (h : (match a, b with
    | some a, some b => some (a + b + 2)
    | _, _ => none) = some n) : ∃ x y, a = some x ∧ b = some y ∧ n = x + y + 2 := by
  cases a <;> cases b <;> first | (cases h; done) | skip
  exact ⟨_, _, rfl, rfl, (Option.some.inj h).symm⟩
theorem opt4 {a b c : Option Nat} {n : Nat} (h : (match a, b, c with
    | some a, some b, some c => some (a + b + c + 4)
    | _, _, _ => none) = some n) : ∃ x y z, a = some x ∧ b = some y ∧ c = some z ∧ n = x + y + z + 4 := by
  cases a <;> cases b <;> cases c <;> first | (cases h; done) | skip
  exact ⟨_, _, _, rfl, rfl, rfl, (Option.some.inj h).symm⟩
theorem optM {a : Option Nat} {n k : Nat} (h : a.map (· + k) = some n) : ∃ x, a = some x ∧ n = x + k := by
  cases a with
  | none => cases h
  | some x => exact ⟨x, rfl, (Option.some.inj h).symm⟩
theorem intSz {i : Int} {n : Nat} (h : reprSz (.int i) = some n) : i.natAbs.log2 < 1920 ∧ (PyData.int i).shown.length ≤ n := by
  rw [reprSz] at h
  split at h
  · rename_i q
    cases h
    refine ⟨?_, PyData.shown_int_le q⟩
    by_cases z : i.natAbs = 0
    · rw [z]
      decide
    · exact Nat.lt_of_lt_of_le ((Nat.log2_lt z).mpr (Nat.lt_of_lt_of_le q (by decide : 10 ^ 12 ≤ 2 ^ 40))) (by decide)
  · split at h
    · rename_i q
      cases h
      refine ⟨q, ?_⟩
      have e := int_text_length_le (k := 1920) (by decide) q
      show (Str.ofString (toString i)).length ≤ 2000
      rw [PySem.ofString_length]
      omega
    · cases h
mutual
theorem showB_ok : ∀ {x : D} {n : Nat}, reprSz x = some n → (toPy x).showable = true ∧ (toPy x).shown.length ≤ n
  | .non, n, h => by
    rw [reprSz] at h
    cases h
    exact ⟨rfl, Nat.le_refl _⟩
  | .bl b, n, h => by
    rw [reprSz] at h
    cases h
    exact ⟨rfl, by cases b <;> decide⟩
  | .int i, n, h => by
    have q := intSz h
    refine ⟨?_, q.2⟩
    show PyData.showable (.int i) = true
    simp only [PyData.showable, decide_eq_true_eq]
    exact q.1
  | .str x, n, h => by
    rw [reprSz] at h
    split at h
    · rename_i q
      cases h
      have e := StrLaws.reprText_len x fun c hc => of_decide_eq_true (List.all_eq_true.mp q c hc)
      refine ⟨rfl, ?_⟩
      show (PyData.str x).shown.length ≤ _
      rw [PyData.shown_str]
      omega
    · cases h
  | .tup xs, n, h => by
    rw [reprSz] at h
    obtain ⟨m, e, rfl⟩ := optM h
    have q := showBs_ok e
    have l := tupleText_len_le (PyData.shownAll (toPys xs))
    refine ⟨?_, ?_⟩
    · show PyData.showable (.tuple (toPys xs)) = true
      simp only [PyData.showable]
      exact q.1
    · show (PyData.tuple (toPys xs)).shown.length ≤ _
      simp only [PyData.shown]
      omega
  | .lst xs, n, h => by
    rw [reprSz] at h
    obtain ⟨m, e, rfl⟩ := optM h
    have q := showBs_ok e
    have l := listText_len_le (PyData.shownAll (toPys xs))
    refine ⟨?_, ?_⟩
    · show PyData.showable (.list (toPys xs)) = true
      simp only [PyData.showable]
      exact q.1
    · show (PyData.list (toPys xs)).shown.length ≤ _
      simp only [PyData.shown]
      omega
  | .dic kvs, n, h => by
    rw [reprSz] at h
    obtain ⟨m, e, rfl⟩ := optM h
    have q := showBk_ok e
    have l := dictText_len_le (PyData.shownKv (toPyk kvs))
    refine ⟨?_, ?_⟩
    · show PyData.showable (.dict (toPyk kvs)) = true
      simp only [PyData.showable]
      exact q.1
    · show (PyData.dict (toPyk kvs)).shown.length ≤ _
      simp only [PyData.shown]
      omega
  | .set _, n, h => by rw [reprSz] at h; cases h
  | .ins _ _, n, h => by rw [reprSz] at h; cases h
  | .exc _ _, n, h => by rw [reprSz] at h; cases h
  | .ro _, n, h => by rw [reprSz] at h; cases h
theorem showBs_ok : ∀ {xs : List D} {n : Nat}, reprSzs xs = some n → PyData.showableAll (toPys xs) = true ∧ ((PyData.shownAll (toPys xs)).map (·.length)).sum + 2 * (PyData.shownAll (toPys xs)).length ≤ n
  | [], n, h => ⟨rfl, Nat.zero_le _⟩
  | x :: r, n, h => by
    rw [reprSzs] at h
    obtain ⟨a, b, e1, e2, rfl⟩ := opt3 h
    have q1 := showB_ok e1
    have q2 := showBs_ok e2
    refine ⟨?_, ?_⟩
    · show PyData.showableAll (toPy x :: toPys r) = true
      simp only [PyData.showableAll, q1.1, q2.1, Bool.and_self]
    · show ((PyData.shownAll (toPy x :: toPys r)).map (·.length)).sum + 2 * (PyData.shownAll (toPy x :: toPys r)).length ≤ _
      simp only [PyData.shownAll, List.map_cons, List.sum_cons, List.length_cons]
      omega
theorem showBk_ok : ∀ {xs : List (D × D)} {n : Nat}, reprSzk xs = some n → PyData.showableKv (toPyk xs) = true ∧ ((PyData.shownKv (toPyk xs)).map (·.length)).sum + 2 * (PyData.shownKv (toPyk xs)).length ≤ n
  | [], n, h => ⟨rfl, Nat.zero_le _⟩
  | (k, v) :: r, n, h => by
    rw [reprSzk] at h
    obtain ⟨a, b, c, e1, e2, e3, rfl⟩ := opt4 h
    have q1 := showB_ok e1
    have q2 := showB_ok e2
    have q3 := showBk_ok e3
    refine ⟨?_, ?_⟩
    · show PyData.showableKv ((toPy k, toPy v) :: toPyk r) = true
      simp only [PyData.showableKv, q1.1, q2.1, q3.1, Bool.and_self]
    · show ((PyData.shownKv ((toPy k, toPy v) :: toPyk r)).map (·.length)).sum + 2 * (PyData.shownKv ((toPy k, toPy v) :: toPyk r)).length ≤ _
      simp only [PyData.shownKv, List.map_cons, List.sum_cons, List.length_cons, strLen_append]
      have : (Str.ofString ": ").length = 2 := by decide
      omega
end
/-- the kinds that can be read -/
theorem keyOf_rep {av : Addr → Prop} {H : Hp} {k : D} {q : Key} (e : keyOf k = some q) : ∀ {u : Value}, keyIs q u = true → ∀ h : Heap, Reads h u (toPy k) [] := by
  intro u hu h
  rcases keyIs_shape hu with ⟨i, t, rfl, rfl⟩ | ⟨x, t, rfl, rfl⟩
  · cases k <;> first | (cases e; done) | skip
    cases e
    exact .int _ _
  · cases k <;> first | (cases e; done) | skip
    cases e
    exact .str _ _
theorem notSys {pins : List (Addr × Obj)} {σ : L2.St} {H : Hp} {s : Shared} (I : Inv X pins σ H s) (hs : (X.K.lookup sysModules).isSome = true) {p : Addr} {o : HO} (e : H p = some o) : p ≠ sysModules := by
  obtain ⟨ob, eo⟩ := Option.isSome_iff_exists.mp hs
  intro z
  subst z
  have := (I.bs _ ob (I.ok.mod.kin _ _ eo)).2
  rw [e] at this
  cases this
mutual
theorem rep_reads {pins : List (Addr × Obj)} {σ : L2.St} {H : Hp} {s : Shared} {av : Addr → Prop} (I : Inv X pins σ H s) (hs : (X.K.lookup sysModules).isSome = true) : ∀ {x : D} {v : V} {u : Value} {n : Nat}, reprSz x = some n → Rep X.K C av H x v → RelV v u → ∃ as, Reads s.heap u (toPy x) as ∧ sysModules ∉ as
  | _, _, u, n, _, .non, r => by
    cases r
    exact ⟨_, .none, by simp⟩
  | _, _, u, n, _, .bl b, r => by
    cases r
    exact ⟨_, .bool b, by simp⟩
  | _, _, u, n, _, .int i, r => by
    obtain ⟨t, rfl⟩ := r
    exact ⟨_, .int i t, by simp⟩
  | _, _, u, n, _, .str x, r => by
    obtain ⟨t, rfl⟩ := r
    exact ⟨_, .str x t, by simp⟩
  | .tup xs, _, u, n, hz, .tup sq rs, r => by
    rw [reprSz] at hz
    obtain ⟨m, e, rfl⟩ := optM hz
    cases r
    obtain ⟨its, rv, ⟨o, ho, hc, n, hd⟩, _⟩ := I.tuple sq.sq
    obtain ⟨as, q, ns⟩ := reps_reads I hs e rs rv
    exact ⟨_, .tuple ho hc hd q, ns⟩
  | .lst xs, _, u, n, hz, .lst sq rs, r => by
    rw [reprSz] at hz
    obtain ⟨m, e, rfl⟩ := optM hz
    cases r
    obtain ⟨its, rv, ⟨o, n, ho, hc, _, hd⟩, _⟩ := I.list sq.sq
    obtain ⟨as, q, ns⟩ := reps_reads I hs e rs rv
    refine ⟨_, .list ho hc hd q, ?_⟩
    intro z
    rcases List.mem_cons.mp z with z | z
    · exact notSys I hs sq.2 z.symm
    · exact ns z
  | .ro _, _, u, n, hz, .ro _, r => by
    rw [reprSz] at hz
    cases hz
  | .dic kvs, _, u, n, hz, .dic (ks := ks) na e rk, r => by
    rw [reprSz] at hz
    obtain ⟨m, e', rfl⟩ := optM hz
    cases r
    obtain ⟨_, _, _, vs, kv, o, es, ep, ho, hx, hd, _, pr, _⟩ := I.hok _ _ e
    obtain ⟨as, bs, q1, q2, n1, n2⟩ := repk_reads I hs e' rk kv pr
    refine ⟨_, .dict ho hx.1 hd q1 q2, ?_⟩
    intro z
    rcases List.mem_append.mp z with z | z
    · rcases List.mem_cons.mp z with z | z
      · exact notSys I hs e z.symm
      · exact n1 z
    · exact n2 z
  | .ins _ _, _, u, n, hz, .ins _ _ _ _ _, r => by
    rw [reprSz] at hz
    cases hz
theorem reps_reads {pins : List (Addr × Obj)} {σ : L2.St} {H : Hp} {s : Shared} {av : Addr → Prop} (I : Inv X pins σ H s) (hs : (X.K.lookup sysModules).isSome = true) : ∀ {xs : List D} {vs : List V} {us : List Value} {n : Nat}, reprSzs xs = some n → Reps X.K C av H xs vs → Vals vs us → ∃ as, ReadsAll s.heap us (toPys xs) as ∧ sysModules ∉ as
  | _, _, us, n, _, .nil, r => by
    cases r
    exact ⟨_, .nil, by simp⟩
  | x :: xs, _, us, n, hz, .cons r t, q => by
    cases q with | cons a b => ?_
    rw [reprSzs] at hz
    obtain ⟨y, z, e1, e2, rfl⟩ := opt3 hz
    obtain ⟨as, q1, n1⟩ := rep_reads I hs e1 r a
    obtain ⟨bs, q2, n2⟩ := reps_reads I hs e2 t b
    exact ⟨_, .cons q1 q2, by simp [n1, n2]⟩
theorem repk_reads {pins : List (Addr × Obj)} {σ : L2.St} {H : Hp} {s : Shared} {av : Addr → Prop} (I : Inv X pins σ H s) (hs : (X.K.lookup sysModules).isSome = true) : ∀ {kvs : List (D × D)} {ks : List (Key × V)} {vs : List (Key × Value)} {es : List DictEntry} {n : Nat}, reprSzk kvs = some n → Repk X.K C av H kvs ks → KV ks vs → PySem.Pairs (mixKind X.prog X.w) es vs →
    ∃ as bs, ReadsAll s.heap (es.map (·.key)) ((toPyk kvs).map (·.1)) as ∧ ReadsAll s.heap (es.map (·.val)) ((toPyk kvs).map (·.2)) bs ∧ sysModules ∉ as ∧ sysModules ∉ bs
  | _, _, _, _, n, _, .nil, p, q => by
    cases p
    cases q
    exact ⟨_, _, .nil, .nil, by simp, by simp⟩
  | (k, x) :: kvs, _, _, _, n, hz, .cons ek r t, p, q => by
    cases p with | cons a b => ?_
    cases q with | cons p1 p2 p3 => ?_
    rw [reprSzk] at hz
    obtain ⟨y, z, w, e1, e2, e3, rfl⟩ := opt4 hz
    obtain ⟨eq, rx⟩ := a
    have h1 : Reads s.heap _ (toPy k) [] := keyOf_rep (av := av) (H := H) ek (by rw [← eq] at p1; exact p1) s.heap
    obtain ⟨as, q1, n1⟩ := rep_reads I hs e2 r rx
    obtain ⟨bs, cs, q2, q3, n2, n3⟩ := repk_reads I hs e3 t b p3
    rw [← p2] at q1
    exact ⟨_, _, .cons h1 q2, .cons q1 q3, by simp [n2], by simp [n1, n3]⟩
end
theorem snap_reads {pins : List (Addr × Obj)} {σ : L2.St} {H : Hp} {s : Shared} {ρ : List Addr} {h : Hs} {v : Vl} {u : V} {w : Value} {a : D} {n : Nat} (I : Inv X pins σ H s) (hs : (X.K.lookup sysModules).isSome = true) (S : Sim X.K C ρ h H) (e : snap v h = some a) (r : RepV X.K C ρ h H v u) (rw_ : RelV u w) (hz : reprSz a = some n) : ∃ as, Reads s.heap w (toPy a) as ∧ sysModules ∉ as := by
  unfold snap at e
  split at e
  · cases e
    exact rep_reads I hs hz r rw_
  · obtain ⟨p, hp, rfl⟩ := r
    split at e
    · rename_i vs hc
      obtain ⟨us, e1, e2⟩ := S.ok _ _ p hc hp
      cases q : allD vs with
      | none => rw [q] at e; cases e
      | some ds =>
        rw [q] at e
        cases e
        rw [reprSz] at hz
        obtain ⟨m, ez, rfl⟩ := optM hz
        rw [allD_eq q] at e2
        cases rw_
        obtain ⟨its, rv, ⟨o, n, ho, hc, _, hd⟩, _⟩ := I.list (.of e1)
        obtain ⟨as, q1, ns⟩ := reps_reads I hs ez (reps_of_ds e2) rv
        refine ⟨_, .list ho hc hd q1, ?_⟩
        intro z
        rcases List.mem_cons.mp z with z | z
        · exact notSys I hs e1 z.symm
        · exact ns z
    · rename_i kvs hc
      cases e
      obtain ⟨ks, e1, e2⟩ := S.ok _ _ p hc hp
      rw [reprSz] at hz
      obtain ⟨m, ez, rfl⟩ := optM hz
      cases rw_
      obtain ⟨_, _, vs, kv, o, es, ep, ho, hx, hd, _, pr, _⟩ := I.hok _ _ e1
      obtain ⟨as, bs, q1, q2, n1, n2⟩ := repk_reads I hs ez e2 kv pr
      refine ⟨_, .dict ho hx.1 hd q1 q2, ?_⟩
      intro z
      rcases List.mem_append.mp z with z | z
      · rcases List.mem_cons.mp z with z | z
        · exact notSys I hs e1 z.symm
        · exact n1 z
      · exact n2 z
    · cases e
theorem c_repr (hu : X.A.units + 64 < cLine) (ng : NoG X.A) (hs : (X.K.lookup sysModules).isSome = true) : CallR X (.builtin "repr") (rC X.K C (pr .repr)) := by
  intro pins s σ H xs us Q I rx ⟨h, ρ, vs, S, r, k⟩
  simp only [pr] at k
  split at k
  · rename_i x
    obtain ⟨u, rfl, r1⟩ := vs1 r
    split at k
    · rename_i a ea
      split at k
      · rename_i n hn
        split at k
        · rename_i hb
          simp only [Bool.and_eq_true, decide_eq_true_eq] at hb
          obtain ⟨w, rfl, rw_⟩ := vals1 rx
          obtain ⟨as, q, ns⟩ := snap_reads I hs S ea r1 rw_ hn
          obtain ⟨sh, sl⟩ := showB_ok hn
          have sz : (toPy a).shown.length ≤ sizeLine := Nat.le_trans sl (lim_line hb.1)
          have dp : (toPy a).depth ≤ 48 := by rw [depth_py]; exact hb.2
          have fin : ∀ (t : Tok) (s' : Shared), Inv X pins σ H s' → EP X pins σ Q (.str (toPy a).shown t) s' := fun t s' I' => ⟨.str (toPy a).shown, H, I', ⟨t, rfl⟩, okV_d S k (.str _)⟩
          by_cases hr : ∃ p, w = .ref p
          · obtain ⟨p, rfl⟩ := hr
            exact repr_of_reads' q sh (fun _ => ns) ng (by omega) (fun _ _ z => z) (fun h' t tk kk => fin t _ (I.kept kk)) sz
          · generalize toPy a = d at q sh sz fin
            cases q with
            | none => exact PySem.P.repr_of_none (fin _ _ (I.tok _))
            | bool b => exact PySem.P.repr_of_bool (fin _ _ (I.tok _))
            | int i t =>
              have hi : i.natAbs.log2 < 1920 := by simpa only [PyData.showable, decide_eq_true_eq] using sh
              exact PySem.P.repr_of_int hi (fin _ _ (I.tok _))
            | str x t => exact PySem.P.repr_of_str (fin _ _ (I.tok _)) (by rw [← PyData.shown_str]; exact sz)
            | list _ _ _ _ => exact absurd ⟨_, rfl⟩ hr
            | tuple _ _ _ _ => exact absurd ⟨_, rfl⟩ hr
            | dict _ _ _ _ _ => exact absurd ⟨_, rfl⟩ hr
        · exact k.elim
      · exact k.elim
    · exact k.elim
  · exact k.elim
/-! ### len(set(..)) -/
theorem first_all (ns : List Int) : PyProof.Rows.firstMet (fun i => ns.getD i 0) ns.length = dedupI ns := by
  have e : (List.range ns.length).map (fun i => ns.getD i 0) = ns := by
    refine List.ext_getElem (by simp) fun i h1 h2 => ?_
    simp [List.getD_eq_getElem?_getD, List.getElem?_eq_getElem h2]
  unfold PyProof.Rows.firstMet dedupI
  rw [e]
def tLenSet' (K : PySem.W.Frag) (ta : TE) : TE := fun σ H Q => ta σ H fun x H1 => ∃ (l : Addr) (ns : List Int), x = .ref l ∧ SqL K H1 l (ns.map V.int) ∧ ns.length ≤ 1000 ∧ Q (.int ((dedupI ns).length : Nat)) H1
theorem pe_lenset {e : Expr} {ta : TE} {p1 p2 p3 pos : Pos} (g1 : Gl X "len") (m1 : X.mg "len" = none) (g2 : Gl X "set") (m2 : X.mg "set" = none) (he : PE X e ta) (hc : X.calm = true) (ns : starEach [e] X.env = (false, eval e X.env) :: starEach [] X.env) :
    PE X (.Call (.Name "len" p1) [.Call (.Name "set" p2) [e] [] p3] [] pos) (tLenSet' X.K ta) := by
  refine ⟨fun pins s σ H Q I q => Call_ (ld_blt I g1 m1 boot_len ?_)⟩
  refine PyProof.Rows.callWith_builtin1 (PyProof.Rows.args_cons (Call_ (ld_blt I g2 m2 PyProof.Rows.boot_set ?_)) rfl) rfl rfl
  refine PyProof.Rows.callWith_type1 (PyProof.Rows.args_cons (thn (he.run pins s σ H _ I q) fun v s1 ⟨x, H1, I1, rx, q1⟩ => PyProof.Rows.args_nil ?_) ns) ns rfl
  obtain ⟨l, is, rfl, sq, hl, q1⟩ := q1
  cases rx
  obtain ⟨its, rv, pl, hz⟩ := I1.list sq
  have sz : its.toArray.size = is.length := by rw [List.size_toArray, ← rv.length, List.length_map]
  refine call_set_list (I1.ok.hd hc) pl.isList (by simpa using RZ.intsAre_vals rv) (by rw [sz]; unfold scanBound; omega) fun h' tk made kept => PyProof.Rows.args_nil ?_
  rw [sz, first_all] at made
  obtain ⟨o, es, ep, t, ho, hx, hd, _, _, _, hf, hn⟩ := made
  have I2 : Inv X pins σ H1 { s1 with heap := h', toks := tk } := I1.kept fun b u z => kept b u (Heap.lt_size z) z
  have le : (dedupI is).length ≤ is.length := by
    rw [← first_all]
    exact PyProof.Rows.firstMet_length_le _ _
  exact call_len_set ho hx hd hf (by rw [hn] <;> omega) ⟨.int (dedupI is).length, H1, I2.tok _, ⟨_, by rw [hn]⟩, q1⟩
end
end L3
/-! L3: sorted(set(..)) of a tuple of ints. -/
namespace L3
open PySem PySem.Spec PyProof.Rows L2
section
variable {X : Cx}
def tSortSet (K : PySem.W.Frag) (ta : TE) : TE := fun σ H Q => ta σ H fun x H1 => ∃ (l : Addr) (ns : List Int), x = .ref l ∧ SqT K H1 l (ns.map V.int) ∧ ns.length < 64 ∧ ∀ (ks : List Int) (p : Addr), ks.Pairwise (· < ·) → (∀ k, k ∈ ks ↔ k ∈ ns) → H1 p = none → Q (.ref p) (upd H1 p (.lst (ks.map V.int)))
theorem pe_sortset {e : Expr} {ta : TE} {p1 p2 p3 pos : Pos} (g1 : Gl X "sorted") (m1 : X.mg "sorted" = none) (g2 : Gl X "set") (m2 : X.mg "set" = none) (he : PE X e ta) (hc : X.calm = true) (ns : starEach [e] X.env = (false, eval e X.env) :: starEach [] X.env) :
    PE X (.Call (.Name "sorted" p1) [.Call (.Name "set" p2) [e] [] p3] [] pos) (tSortSet X.K ta) := by
  refine ⟨fun pins s σ H Q I q => Call_ (ld_blt I g1 m1 PyProof.Rows.boot_sorted ?_)⟩
  refine PyProof.Rows.callWith_builtin1 (PyProof.Rows.args_cons (Call_ (ld_blt I g2 m2 PyProof.Rows.boot_set ?_)) rfl) rfl rfl
  refine PyProof.Rows.callWith_type1 (PyProof.Rows.args_cons (thn (he.run pins s σ H _ I q) fun v s1 ⟨x, H1, I1, rx, q1⟩ => PyProof.Rows.args_nil ?_) ns) ns rfl
  obtain ⟨l, is, rfl, sq, hl, q1⟩ := q1
  cases rx
  obtain ⟨its, rv, pt, hz⟩ := I1.tuple sq
  have hi : IntsAre its.toArray.toList is := by simpa using RZ.intsAre_vals rv
  refine call_set_tupI is (I1.ok.hd hc) (show s1.heap.IsTuple l its.toArray from pt) hi (by unfold scanBound; omega) fun h' tk c R1 hcn k => PyProof.Rows.args_nil ?_
  have I2 : Inv X pins σ H1 { s1 with heap := h', toks := tk } := I1.kept fun b u z => k b u z
  refine sorted_set R1 (I1.ok.hd hc) (by omega) fun s' p out c' ks k2 g o hp hg hi2 hs hm hl2 => ?_
  have hlen : (ks.map V.int).length ≤ sizeLine := by rw [List.length_map, hl2, sizeLine_eq]; omega
  have hn : H1 p = none := I2.hok.fresh hp
  generalize hs1 : ({ s1 with heap := h', toks := tk } : Shared) = s2 at *
  have J : Inv X pins σ (upd H1 p (.lst (ks.map V.int))) { s2 with heap := s'.heap, gens := s'.gens, drawn := s'.drawn, toks := s'.toks } :=
    I2.call (ch := []) (Un.laid k2 hp hn) (I2.hok.laid k2 hp ⟨hlen, out.toList, c', vals_of_ints hi2, hg⟩) (by rw [g]; exact I2.bare) (fun _ z => nomatch z)
  have e : s' = { s2 with heap := s'.heap, gens := s'.gens, drawn := s'.drawn, toks := s'.toks } := by
    cases s'
    cases s2
    cases o
    rfl
  rw [e]
  exact ⟨.ref p, _, J, rfl, q1 ks p hs (fun k => by rw [hm k, decide_eq_true_eq]) hn⟩
end
theorem mem_insU {i k : Int} : ∀ {l : List Int}, k ∈ insU i l ↔ k = i ∨ k ∈ l
  | [] => by simp [insU]
  | j :: r => by
    unfold insU
    split
    · simp
    · split
      · rename_i h
        rw [h]
        simp
      · simp only [List.mem_cons, mem_insU (l := r)]
        constructor
        · rintro (a | a | a)
          · exact .inr (.inl a)
          · exact .inl a
          · exact .inr (.inr a)
        · rintro (a | a | a)
          · exact .inr (.inl a)
          · exact .inl a
          · exact .inr (.inr a)
theorem mem_sortU {k : Int} : ∀ {is : List Int}, k ∈ sortU is ↔ k ∈ is
  | [] => by simp [sortU]
  | i :: r => by
    show k ∈ insU i (sortU r) ↔ _
    rw [mem_insU, mem_sortU (is := r), List.mem_cons]
theorem sorted_insU {i : Int} : ∀ {l : List Int}, l.Pairwise (· < ·) → (insU i l).Pairwise (· < ·)
  | [], _ => by simp [insU]
  | j :: r, h => by
    rw [List.pairwise_cons] at h
    unfold insU
    split
    · rename_i hij
      refine List.pairwise_cons.mpr ⟨fun k hk => ?_, List.pairwise_cons.mpr h⟩
      rcases List.mem_cons.mp hk with z | z
      · rw [z]; exact hij
      · have := h.1 k z
        omega
    · split
      · exact List.pairwise_cons.mpr h
      · rename_i h1 h2
        refine List.pairwise_cons.mpr ⟨fun k hk => ?_, sorted_insU h.2⟩
        rcases mem_insU.mp hk with z | z
        · rw [z]; omega
        · exact h.1 k z
theorem sorted_sortU : ∀ is : List Int, (sortU is).Pairwise (· < ·)
  | [] => by simp [sortU]
  | i :: r => sorted_insU (sorted_sortU r)
theorem sorted_one : ∀ {xs ys : List Int}, xs.Pairwise (· < ·) → ys.Pairwise (· < ·) → (∀ k, k ∈ xs ↔ k ∈ ys) → xs = ys
  | [], [], _, _, _ => rfl
  | [], y :: ys, _, _, h => absurd ((h y).mpr List.mem_cons_self) (by simp)
  | x :: xs, [], _, _, h => absurd ((h x).mp List.mem_cons_self) (by simp)
  | x :: xs, y :: ys, hx, hy, h => by
    rw [List.pairwise_cons] at hx hy
    have e : x = y := by
      rcases List.mem_cons.mp ((h x).mp List.mem_cons_self) with a | a
      · exact a
      · rcases List.mem_cons.mp ((h y).mpr List.mem_cons_self) with b | b
        · exact b.symm
        · have := hx.1 y b
          have := hy.1 x a
          omega
    subst e
    have ih := sorted_one hx.2 hy.2 fun k => by
      constructor
      · intro hk
        rcases List.mem_cons.mp ((h k).mp (List.mem_cons_of_mem _ hk)) with a | a
        · have := hx.1 k hk; omega
        · exact a
      · intro hk
        rcases List.mem_cons.mp ((h k).mpr (List.mem_cons_of_mem _ hk)) with a | a
        · have := hy.1 k hk; omega
        · exact a
    rw [ih]
end L3
/-! L3: the table of a program's defs and classes; what must hold of it. -/
namespace L3
open PySem PySem.Spec PyProof.Rows L2

structure Fn where
  nm : Str
  ad : Addr
  ps : List Str
  lev : Nat
structure Cl where
  nm : Str
  ad : Addr
  fl : List Str
  ini : Nat
  mt : List (Str × Nat)
  pr : List (Str × Nat)
  eq : Option Nat
structure Tb where
  fns : List Fn
  cls : List Cl
  glo : List (Str × D)
  free : List Str
def Tb.cn (T : Tb) (Z : Addr → Prop) : Cn := ⟨fun c => match T.cls[c]? with
  | some d => d.ad
  | none => 0, fun c => match T.cls[c]? with
  | some d => d.fl
  | none => [], fun c => (T.cls[c]?).isSome, Z⟩
/-- what a def promises: what G says -/
def spOf (K : PySem.W.Frag) (T : Tb) (n : Nat) (G : List Vl → Hs → Out Vl) : Sp := fun vs H Q E => ∃ (Z : Addr → Prop) (h : Hs) (ρ : List Addr) (as : List Vl), as.length = n ∧ Sim K (T.cn Z) ρ h H ∧ RepVs K (T.cn Z) ρ h H as vs ∧ OkV K (T.cn Z) ρ h H (G as h) Q E
theorem spOf_len {K : PySem.W.Frag} {T : Tb} {n : Nat} {G : List Vl → Hs → Out Vl} (vs : List V) (H : Hp) (Q : VK) (E : XK) (h : spOf K T n G vs H Q E) : vs.length = n := by
  obtain ⟨_, _, _, as, e, _, r, _⟩ := h
  rw [← r.len]
  exact e
/-- a global's value -/
def GV : D → Value → Prop
  | .int i, u => ∃ t, u = .int i t
  | .str x, u => ∃ t, u = .str x t
  | _, _ => False
def tyNames : List String := ["int", "bool", "str", "list", "tuple", "dict"]
structure ClF (T : Tb) (K : PySem.W.Frag) (mg : Str → Option Value) (d : Cl) : Prop where
  cl : Cls K d.ad
  no : ∀ x ∈ d.fl, NoAttr K d.ad x
  nd : d.fl.Nodup
  len : d.fl.length < 1000
  nm : mg d.nm = some (.ref d.ad)
  mkr : ∃ f, T.fns[d.ini]? = some f ∧ L2.Mk K d.ad f.ad
  i1 : PySem.W.findIn K (.ref d.ad) "__class__" = some (some (.builtin "object.__class__"))
  i2 : PySem.W.specialIn K (.builtin "object.__class__") "__get__" = some (some (.builtin "getset_descriptor.__get__"))
  i3 : PySem.W.takesIn K (.builtin "object.__class__") = some true
  i4 : PySem.W.mroIn K d.ad (.type "object") = some true
  i5 : PySem.W.subIn K (.ref d.ad) (.type "object") = some true
  kT : ∀ n ∈ tyNames, PySem.W.kitOne K (.ref d.ad) (.type n) = some false
  kO : ∀ n ∈ "NoneType" :: tyNames, PySem.W.kitOne K (.type n) (.ref d.ad) = some false
  nf : ∀ n ∈ "NoneType" :: tyNames, PySem.W.subIn K (.type n) (.ref d.ad) = some false
  mt : ∀ p ∈ d.mt, p.1 ∉ d.fl ∧ ∃ f, T.fns[p.2]? = some f ∧ Meth K d.ad p.1 f.ad
  pr : ∀ p ∈ d.pr, ∃ f q, T.fns[p.2]? = some f ∧ PropOf K d.ad p.1 q f.ad
  eq : ∀ i, d.eq = some i → ∃ f, T.fns[i]? = some f ∧ PySem.W.findIn K (.ref d.ad) "__eq__" = some (some (.ref f.ad)) ∧ PySem.W.isFn K (.ref f.ad) = true ∧ PySem.W.findIn K (.ref d.ad) "__ne__" = some (some (.builtin "object.__ne__"))
structure Facts (T : Tb) (F : Nat → List Vl → Hs → Out Vl) (P : Program) (w : World) (K : PySem.W.Frag) (mg : Str → Option Value) (base : Heap) (k : Nat) : Prop where
  fn : ∀ (i : Nat) (d : Fn), T.fns[i]? = some d → d.lev ≤ k → ∃ fd, FnG P w K mg base (CX P w) d.lev d.ad fd d.ps (spOf K T d.ps.length (F i)) ∧ Binds K fd d.ps []
  fnG : ∀ (i : Nat) (d : Fn), T.fns[i]? = some d → d.nm ≠ Str.empty → mg d.nm = some (.ref d.ad) ∧ PySem.W.keepIn K (.ref d.ad) = true
  free : ∀ x ∈ T.free, mg x = none
  glo : ∀ p ∈ T.glo, ∃ u, mg p.1 = some u ∧ GV p.2 u
  cls : ∀ (c : Nat) (d : Cl), T.cls[c]? = some d → ClF T K mg d
  kC : ∀ (c : Nat) (d : Cl) (c' : Nat) (d' : Cl), T.cls[c]? = some d → T.cls[c']? = some d' → PySem.W.kitOne K (.ref d.ad) (.ref d'.ad) = some (decide (c = c'))
  sm : (K.lookup sysModules).isSome = true
  nfC : ∀ (c : Nat) (d : Cl) (c' : Nat) (d' : Cl), T.cls[c]? = some d → T.cls[c']? = some d' → PySem.W.notFirst K d.ad (.ref d'.ad) = true
/-- the contexts of a def's body and of its blocks -/
structure XOk (T : Tb) (F : Nat → List Vl → Hs → Out Vl) (N : List Str) (sc : Scope) (k : Nat) (X : Cx) (W : WX) : Prop where
  fa : Facts T F X.prog X.w X.K X.mg X.base k
  hN : X.N = N
  nd : X.N.Nodup
  hs : X.env.scope = sc
  calm : X.calm = true
  room : Room k X.A
  ng : NoG X.A
  tk : Takes X W
def visB (sc : Scope) (x : Str) : Bool := match sc.names.lookup x with
  | some .local => true
  | some .cell => true
  | some .free => true
  | _ => false
theorem vis_of {sc : Scope} {x : Str} (h : visB sc x = true) : Vis sc x := by
  unfold visB at h
  unfold Vis
  split at h <;> simp_all
def glB (sc : Scope) (x : Str) : Bool := match sc.names.lookup x with
  | some .globalImplicit => true
  | _ => false
theorem gl_of {sc : Scope} {x : Str} {X : Cx} (hs : X.env.scope = sc) (h : glB sc x = true) : Gl X x := by
  unfold glB at h
  unfold Gl Env.kindOf
  rw [hs]
  split at h
  · assumption
  · cases h
def nameB (x : Str) : Bool := !(x == ("__debug__" : Str)) && !(x == ("__classdict__" : Str)) && !(x == ("__name__" : Str)) && !(x == ("super" : Str))
theorem nameB_d {x : Str} (h : nameB x = true) : (x == ("__debug__" : Str)) = false := by
  unfold nameB at h
  simp only [Bool.and_eq_true, Bool.not_eq_true'] at h
  exact h.1.1.1
theorem nameB_c {x : Str} (h : nameB x = true) : (x == ("__classdict__" : Str)) = false := by
  unfold nameB at h
  simp only [Bool.and_eq_true, Bool.not_eq_true'] at h
  exact h.1.1.2
theorem nameB_n {x : Str} (h : nameB x = true) : x ≠ ("__name__" : Str) := by
  unfold nameB at h
  simp only [Bool.and_eq_true, Bool.not_eq_true'] at h
  intro e
  rw [e] at h
  exact absurd h.1.2 (by decide +kernel)

/-! ### sound for an expression -/
def NoStar (e : Expr) : Prop := ∀ es env, starEach (e :: es) env = (false, eval e env) :: starEach es env
structure SE (X : Cx) (C : Cn) (W : WX) (m : Env → Hs → Out Vl) (e : Expr) : Prop where
  pe : PE X e (tM X.K C W m)
  pt : PT X e (tMt X.K C W m)
  st : NoStar e
  ix : PlainIx e
theorem SE.of_pe {X : Cx} {C : Cn} {W : WX} {m : Env → Hs → Out Vl} {e : Expr} (h : PE X e (tM X.K C W m)) (he : ∀ whole, isTrue e X.env whole = (do let v ← whole; standAt e.pos; holding [v] (truthy v))) (st : NoStar e) (ix : PlainIx e) : SE X C W m e :=
  ⟨h, ct_val h he, st, ix⟩
section
variable (F : Nat → List Vl → Hs → Out Vl)
def AllE (X : Cx) (C : Cn) (W : WX) : List Ex → List Expr → Prop
  | [], [] => True
  | x :: xs, e :: es => SE X C W (ev F x) e ∧ AllE X C W xs es
  | _, _ => False
variable {F} {X : Cx} {C : Cn} {W : WX}
theorem AllE.len : ∀ {xs : List Ex} {es : List Expr}, AllE F X C W xs es → xs.length = es.length
  | [], [], _ => rfl
  | _ :: _, _ :: _, h => congrArg Nat.succ (AllE.len h.2)
  | [], _ :: _, h => h.elim
  | _ :: _, [], h => h.elim
theorem AllE.pa : ∀ {xs : List Ex} {es : List Expr}, AllE F X C W xs es → PA X es (tMs X.K C W (evs F xs))
  | [], [], _ => by
    have e : evs F [] = fun _ h => .ok [] h := by funext e h; rw [evs]
    rw [e]
    exact c_nil
  | x :: xs, y :: es, h => by
    have e : evs F (x :: xs) = fun e h => (ev F x e h).bind fun v h1 => (evs F xs e h1).bind fun vs h2 => .ok (v :: vs) h2 := by funext e h; rw [evs]
    rw [e]
    exact c_cons h.1.pe (AllE.pa h.2) (h.1.st es X.env)
  | [], _ :: _, h => h.elim
  | _ :: _, [], h => h.elim
theorem evs1 {x : Ex} {e : Env} {h : Hs} {β : Type} {f : List Vl → Hs → Out β} : (evs F [x] e h).bind f = (ev F x e h).bind fun v h1 => f [v] h1 := by
  rw [evs, bind_assoc']
  congr 1
theorem evs2 {x y : Ex} {e : Env} {h : Hs} {β : Type} {f : List Vl → Hs → Out β} : (evs F [x, y] e h).bind f = (ev F x e h).bind fun v h1 => (ev F y e h1).bind fun w h2 => f [v, w] h2 := by
  rw [evs, bind_assoc']
  congr 1
  funext v h1
  rw [bind_assoc', evs1]
  rfl
theorem evs3 {x y z : Ex} {e : Env} {h : Hs} {β : Type} {f : List Vl → Hs → Out β} : (evs F [x, y, z] e h).bind f = (ev F x e h).bind fun v h1 => (ev F y e h1).bind fun w h2 => (ev F z e h2).bind fun u h3 => f [v, w, u] h3 := by
  rw [evs, bind_assoc']
  congr 1
  funext v h1
  rw [bind_assoc', evs2]
  rfl
theorem evsC {x : Ex} {xs : List Ex} {e : Env} {h : Hs} {β : Type} {f : List Vl → Hs → Out β} : (evs F (x :: xs) e h).bind f = (ev F x e h).bind fun v h1 => (evs F xs e h1).bind fun vs h2 => f (v :: vs) h2 := by
  rw [evs, bind_assoc']
  congr 1
  funext v h1
  rw [bind_assoc']
  rfl
theorem bind_eqOk {α β : Type} {o : Out α} {f : α → Hs → Out β} {b : β} {h' : Hs} (e : o.bind f = .ok b h') : ∃ a h, o = .ok a h ∧ f a h = .ok b h' := by
  cases o with
  | ok a h => exact ⟨a, h, rfl, e⟩
  | ex x h => cases e
  | bad => cases e
theorem evs_len : ∀ {xs : List Ex} {e : Env} {h h' : Hs} {vs : List Vl}, evs F xs e h = .ok vs h' → vs.length = xs.length
  | [], e, h, h', vs, q => by
    rw [evs] at q
    cases q
    rfl
  | x :: xs, e, h, h', vs, q => by
    rw [evs] at q
    obtain ⟨v, h1, _, q⟩ := bind_eqOk q
    obtain ⟨ws, h2, q1, q⟩ := bind_eqOk q
    cases q
    rw [List.length_cons, List.length_cons, evs_len q1]
end
/-- .. with the outcome known -/
theorem tMs_firstE {K : PySem.W.Frag} {C : Cn} {W : WX} {σ : L2.St} {H : Hp} {e : Env} {h : Hs} {ρ : List Addr} {m : Env → Hs → Out (List Vl)} {δ ε : Type} {S : List Addr → Hs → Hp → δ → ε → Prop} {f : List Vl → Hs → Out δ} {P : ε → Hp → Prop} {Q : List V → Hp → Prop} (s : Sim K C ρ h H) (se : SimE K C ρ h H e σ) (k : OkO K C S ρ h H ((m e h).bind f) P (WE' W σ))
    (n : ∀ v h1 u H1 ρ1, m e h = .ok v h1 → L3.Ext C ρ h H ρ1 h1 H1 → Sim K C ρ1 h1 H1 → SimE K C ρ1 h1 H1 e σ → RepVs K C ρ1 h1 H1 v u → OkO K C S ρ1 h1 H1 (f v h1) P (WE' W σ) → Q u H1) : tMs K C W m σ H Q := by
  refine ⟨e, h, ρ, s, se, ?_⟩
  cases q : m e h with
  | ok v h1 =>
    rw [q] at k
    exact fun u H1 ρ1 y s1 r => n v h1 u H1 ρ1 q y s1 (se.mono y) r (OkO.mono y k)
  | ex v h1 =>
    rw [q] at k
    exact k
  | bad =>
    rw [q] at k
    exact k
end L3
/-! L3: which operation of the text is which of ours; the forms with parts. -/
namespace L3
open PySem PySem.Spec PyProof.Rows L2

def opB : Operator → Pr → Bool
  | .Add, .add => true
  | .Sub, .sub => true
  | .Mult, .mul => true
  | .Mod, .mod => true
  | .FloorDiv, .fdiv => true
  | .Pow, .pow => true
  | _, _ => false
theorem opB_ok {X : Cx} {C : Cn} {op : Operator} {p : Pr} (h : opB op p = true) : OpR X (binaryOp op) (rP X.K C (pr p)) := by
  unfold opB at h
  split at h
  · exact o_add
  · exact o_sub
  · exact o_mul
  · exact o_mod
  · exact o_fdiv
  · exact o_pow
  · cases h
def opM : Operator → Mk → Bool
  | .Add, .cat => true
  | .Mult, .mulL => true
  | _, _ => false
theorem opM_ok {X : Cx} {C : Cn} {m : Bool} {op : Operator} {p : Mk} (h : opM op p = true) : OpR X (binaryOp op) (rP X.K C (mk m p)) := by
  unfold opM at h
  split at h
  · exact o_cat m
  · exact o_mulL m
  · cases h
def cmpB : CmpOp → Pr → Bool
  | .Eq, .eq => true
  | .NotEq, .ne => true
  | .Lt, .lt => true
  | .LtE, .le => true
  | .Gt, .gt => true
  | .GtE, .ge => true
  | .Is, .is_ => true
  | .IsNot, .isnot => true
  | .In, .in_ => true
  | .NotIn, .notin => true
  | _, _ => false
theorem cmpB_ok {X : Cx} {C : Cn} {op : CmpOp} {p : Pr} (hu : X.A.units + 64 < cLine) (h : cmpB op p = true) : OpR X (compareOp op) (rP X.K C (pr p)) := by
  unfold cmpB at h
  split at h
  · exact o_eq (by omega)
  · exact o_ne (by omega)
  · exact o_lt
  · exact o_le
  · exact o_gt
  · exact o_ge
  · exact o_is
  · exact o_isnot
  · exact o_in (by omega)
  · exact o_notin (by omega)
  · cases h
/-- called by name: a function, a type -/
def biB : Pr → Str → Bool
  | .len, g => g == ("len" : Str)
  | .all, g => g == ("all" : Str)
  | .any, g => g == ("any" : Str)
  | .min2, g => g == ("min" : Str)
  | .max2, g => g == ("max" : Str)
  | .minL, g => g == ("min" : Str)
  | .maxL, g => g == ("max" : Str)
  | .sum, g => g == ("sum" : Str)
  | .repr, g => g == ("repr" : Str)
  | _, _ => false
theorem biB_ok {X : Cx} {C : Cn} {p : Pr} {g : Str} (hc : X.calm = true) (hu : X.A.units + 64 < cLine) (ng : NoG X.A) (hs : (X.K.lookup sysModules).isSome = true) (h : biB p g = true) : ∃ id, bootBuiltins g = some (.builtin id) ∧ CallR X (.builtin id) (rC X.K C (pr p)) := by
  unfold biB at h
  split at h
  · obtain rfl := eq_of_beq h
    exact ⟨"len", by rfl, c_len⟩
  · obtain rfl := eq_of_beq h
    exact ⟨"all", by rfl, c_all hc⟩
  · obtain rfl := eq_of_beq h
    exact ⟨"any", by rfl, c_any hc⟩
  · obtain rfl := eq_of_beq h
    exact ⟨"min", by rfl, c_min2 hc⟩
  · obtain rfl := eq_of_beq h
    exact ⟨"max", by rfl, c_max2 hc⟩
  · obtain rfl := eq_of_beq h
    exact ⟨"min", by rfl, c_minL hc⟩
  · obtain rfl := eq_of_beq h
    exact ⟨"max", by rfl, c_maxL hc⟩
  · obtain rfl := eq_of_beq h
    exact ⟨"sum", by rfl, c_sum hc⟩
  · obtain rfl := eq_of_beq h
    exact ⟨"repr", by rfl, c_repr hu ng hs⟩
  · cases h
def biT : Pr → Str → Bool
  | .int, g => g == ("int" : Str)
  | .tuple, g => g == ("tuple" : Str)
  | _, _ => false
theorem biT_ok {X : Cx} {C : Cn} {p : Pr} {g : Str} (h : biT p g = true) : ∃ id, bootBuiltins g = some (.type id) ∧ CallR X (.type id) (rC X.K C (pr p)) := by
  unfold biT at h
  split at h
  · obtain rfl := eq_of_beq h
    exact ⟨"int", by rfl, c_int⟩
  · obtain rfl := eq_of_beq h
    exact ⟨"tuple", by rfl, c_tuple⟩
  · cases h
def biM : Mk → Str → Bool
  | .sorted, g => g == ("sorted" : Str)
  | _, _ => false
theorem biM_ok {X : Cx} {C : Cn} {m : Bool} {p : Mk} {g : Str} (hcalm : X.calm = true) (h : biM p g = true) : ∃ id, bootBuiltins g = some (.builtin id) ∧ CallR X (.builtin id) (rC X.K C (mk m p)) := by
  unfold biM at h
  split at h
  · obtain rfl := eq_of_beq h
    exact ⟨"sorted", by rfl, c_sorted hcalm m⟩
  · cases h
def biMT : Mk → Str → Bool
  | .list, g => g == ("list" : Str)
  | _, _ => false
theorem biMT_ok {X : Cx} {C : Cn} {m : Bool} {p : Mk} {g : Str} (h : biMT p g = true) : ∃ id, bootBuiltins g = some (.type id) ∧ CallR X (.type id) (rC X.K C (mk m p)) := by
  unfold biMT at h
  split at h
  · obtain rfl := eq_of_beq h
    exact ⟨"list", by rfl, c_listS m⟩
  · cases h
/-- methods of lists -/
def mtB : Pr → Str → Bool
  | .count, g => g == ("count" : Str)
  | _, _ => false
def constB : Const → D → Bool
  | .none, .non => true
  | .bool a, .bl b => a == b
  | .int i, .int j => i == j
  | .str x, .str y => x == y
  | _, _ => false
def tyN : Ty → String
  | .int => "int"
  | .bool => "bool"
  | .str => "str"
  | .list => "list"
  | .tuple => "tuple"
  | .dict => "dict"

section
variable {F : Nat → List Vl → Hs → Out Vl} {X : Cx} {C : Cn} {W : WX} {a b c : Expr} {x y z : Ex} {pos : Pos}
theorem noStar_of {e : Expr} (h : ∀ v p, e ≠ .Starred v p) : NoStar e := by
  intro es env
  cases e <;> first | rfl | exact absurd rfl (h _ _)
theorem plainIx_of {e : Expr} (h : ∀ l u s p, e ≠ .Slice l u s p) : PlainIx e := by
  intro o i
  cases e <;> first | rfl | exact absurd rfl (h _ _ _ _)
theorem s_const {k : Const} {v : D} {j : Nat} (h : constB k v = true) : SE X C W (ev F (.cst v)) (.Constant k j pos) := by
  have e : ev F (.cst v) = fun _ h => .ok (.d v) h := by funext e h; rw [ev]
  rw [e]
  refine .of_pe ?_ (fun _ => rfl) (fun _ _ => rfl) (fun _ _ => rfl)
  unfold constB at h
  split at h
  · exact PE.imp pe_non fun σ H Q ⟨e, h, ρ, S, SE, k⟩ => okV_d S k .non
  · obtain rfl := eq_of_beq h
    exact PE.imp pe_bl fun σ H Q ⟨e, h, ρ, S, SE, k⟩ => okV_d S k (.bl _)
  · obtain rfl := eq_of_beq h
    exact PE.imp pe_int fun σ H Q ⟨e, h, ρ, S, SE, k⟩ => okV_d S k (.int _)
  · obtain rfl := eq_of_beq h
    exact PE.imp pe_str fun σ H Q ⟨e, h, ρ, S, SE, k⟩ => okV_d S k (.str _)
  · cases h
theorem s_var {i : Nat} {n : Str} (hN : X.N[i]? = some n) (hv : Vis X.env.scope n) (hd : nameB n = true) : SE X C W (ev F (.var i)) (.Name n pos) := by
  have e : ev F (.var i) = fun e h => match e[i]? with
      | some (some v) => .ok v h
      | _ => .bad := by
    funext e h
    rw [ev]
    all_goals
      cases q : e[i]? with
      | none => rfl
      | some o => cases o <;> rfl
  rw [e]
  exact .of_pe (c_var hN hv (nameB_d hd) (nameB_c hd)) (fun _ => rfl) (fun _ _ => rfl) (fun _ _ => rfl)
theorem s_glb {n : Str} {v : D} {u : Value} (hg : Gl X n) (hm : X.mg n = some u) (r : GV v u) (hd : nameB n = true) : SE X C W (ev F (.glb n v)) (.Name n pos) := by
  have e : ev F (.glb n v) = fun _ h => .ok (.d v) h := by funext e h; rw [ev]
  rw [e]
  refine .of_pe ?_ (fun _ => rfl) (fun _ _ => rfl) (fun _ _ => rfl)
  cases v with
  | int i => exact PE.imp (pe_glob (v := .int i) hg hm r (nameB_d hd)) fun σ H Q ⟨e, h, ρ, S, SE, k⟩ => okV_d S k (.int _)
  | str i => exact PE.imp (pe_glob (v := .str i) hg hm r (nameB_d hd)) fun σ H Q ⟨e, h, ρ, S, SE, k⟩ => okV_d S k (.str _)
  | _ => exact r.elim
/-- two parts -/
theorem m2_ev {f : List Vl → Hs → Out Vl} {m : Env → Hs → Out Vl} (e : m = fun e h => (evs F [x, y] e h).bind f) : m = fun e h => (ev F x e h).bind fun v h1 => (ev F y e h1).bind fun w h2 => f [v, w] h2 := by
  rw [e]
  funext e h
  exact evs2
theorem ev_prim {p : Pr} {as : List Ex} : ev F (.prim p as) = fun e h => (evs F as e h).bind (pr p) := by funext e h; rw [ev]
theorem ev_mk {m : Bool} {p : Mk} {as : List Ex} : ev F (.mk m p as) = fun e h => (evs F as e h).bind (mk m p) := by funext e h; rw [ev]
theorem s_bin {op : Operator} {f : List Vl → Hs → Out Vl} {m : Env → Hs → Out Vl} (e : m = fun e h => (evs F [x, y] e h).bind f) (cm : Calm f) (ho : OpR X (binaryOp op) (rP X.K C f)) (ha : SE X C W (ev F x) a) (hb : SE X C W (ev F y) b) : SE X C W m (.BinOp a op b pos) := by
  rw [m2_ev e]
  exact .of_pe (PE.imp (pe_op ho ha.pe hb.pe) fun σ H Q q => tOp_of cm q) (fun _ => rfl) (fun _ _ => rfl) (fun _ _ => rfl)
theorem s_un {op : UnaryOp} {f : List Vl → Hs → Out Vl} {m : Env → Hs → Out Vl} (e : m = fun e h => (evs F [x] e h).bind f) (cm : Calm f) (ho : UnR X (unaryOp op) (rU1 X.K C f)) (hn : op ≠ .Not) (ha : SE X C W (ev F x) a) : SE X C W m (.UnaryOp op a pos) := by
  have e2 : m = fun e h => (ev F x e h).bind fun v h1 => f [v] h1 := by
    rw [e]
    funext e h
    exact evs1
  rw [e2]
  refine .of_pe (PE.imp (pe_un ho ha.pe) fun σ H Q q => tUn_of cm q) (fun _ => ?_) (fun _ _ => rfl) (fun _ _ => rfl)
  cases op <;> first | rfl | exact absurd rfl hn
theorem noMark {op : CmpOp} {b : Expr} (h : (match b with
    | .Set _ _ _ => false
    | _ => true) = true) : behindInMarks op b = false := by
  cases b <;> first | rfl | cases h
def noSet (b : Expr) : Bool := match b with
  | .Set _ _ _ => false
  | _ => true
theorem s_cmp {op : CmpOp} {f : List Vl → Hs → Out Vl} {m : Env → Hs → Out Vl} (e : m = fun e h => (evs F [x, y] e h).bind f) (cm : Calm f) (ho : OpR X (compareOp op) (rP X.K C f)) (ha : SE X C W (ev F x) a) (hb : SE X C W (ev F y) b) (hm : noSet b = true) : SE X C W m (.Compare a [op] [b] pos) := by
  rw [m2_ev e]
  refine ⟨PE.imp (pe_cmpR ho ha.pe hb.pe (noMark hm)) fun σ H Q q => tOp_of cm q, PT.imp (pt_cmpR ho ha.pe hb.pe (noMark hm)) fun σ H Q q => ?_, fun _ _ => rfl, fun _ _ => rfl⟩
  exact tOp_of cm q
/-- a < b < c -/
theorem tChain_of {ma mb mc : Env → Hs → Out Vl} {p q : List Vl → Hs → Out Vl} (cp : Calm p) (cq : Calm q) {σ : L2.St} {H : Hp} {Q : VK}
    (k : tM X.K C W (fun e h => (ma e h).bind fun x h1 => (mb e h1).bind fun y h2 => (p [x, y] h2).bind fun v h3 => asB v h3 fun k h3 =>
      if k = true then (mc e h3).bind fun z h4 => q [y, z] h4 else .ok (.d (.bl false)) h3) σ H Q) : tChain (rP X.K C p) (rP X.K C q) (tM X.K C W ma) (tM X.K C W mb) (tM X.K C W mc) σ H Q := by
  obtain ⟨e, h, ρ, S, SE, k⟩ := k
  refine tM_first S SE k fun v h1 u H1 ρ1 x1 S1 SE1 r k1 => ?_
  refine tM_first S1 SE1 k1 fun w h2 z H2 ρ2 x2 S2 SE2 r2 k2 => ?_
  refine ⟨h2, ρ2, v, w, S2, r.mono x2, r2, ?_⟩
  cases hp : p [v, w] h2 with
  | ex x h' => exact absurd hp (cp _ _ _ _)
  | bad =>
    rw [hp] at k2
    exact k2.elim
  | ok d h3 =>
    rw [hp, bind_ok] at k2
    intro u3 H3 ρ3 y3 S3 r3
    have k3 := OkO.mono y3 k2
    obtain ⟨t, e4, k4⟩ := asB_ok k3
    subst e4
    refine ⟨t, repV_bl r3, ?_⟩
    have SE3 := SE2.mono y3
    cases t with
    | false => exact okV_d S3 k4 (.bl false)
    | true =>
      refine tM_first S3 SE3 k4 fun z' h4 u4 H4 ρ4 x4 S4 SE4 r4 k5 => ?_
      exact ⟨h4, ρ4, w, z', S4, (r2.mono y3).mono x4, r4, calm_e cq k5⟩
theorem s_chain {op op' : CmpOp} {p q : Pr} (ho : OpR X (compareOp op) (rP X.K C (pr p))) (ho' : OpR X (compareOp op') (rP X.K C (pr q))) (ha : SE X C W (ev F x) a) (hb : SE X C W (ev F y) b) (hc : SE X C W (ev F z) c) (hm : noSet c = true) : SE X C W (ev F (.chain p q x y z)) (.Compare a [op, op'] [b, c] pos) := by
  have e : ev F (.chain p q x y z) = fun e h => (ev F x e h).bind fun x h1 => (ev F y e h1).bind fun y h2 => (pr p [x, y] h2).bind fun v h3 => asB v h3 fun k h3 =>
      if k = true then (ev F z e h3).bind fun z h4 => pr q [y, z] h4 else .ok (.d (.bl false)) h3 := by funext e h; rw [ev]
  rw [e]
  have lm : lastMarks [op, op'] [b, c] = false := noMark hm
  refine ⟨PE.imp (pe_chain ho ho' ha.pe hb.pe hc.pe lm) fun σ H Q q => tChain_of (pr_calm _) (pr_calm _) q, PT.imp (pt_chain ho ho' ha.pe hb.pe hc.pe lm) fun σ H Q q => ?_, fun _ _ => rfl, fun _ _ => rfl⟩
  exact tChain_of (pr_calm _) (pr_calm _) q
/-- calls of built-ins -/
theorem noStars {es : List Expr} {as : List Ex} (h : AllE F X C W as es) : (backTo pos (starEach es X.env)).any (·.1) = false := by
  induction as generalizing es with
  | nil =>
    cases es with
    | nil => rfl
    | cons e es => exact h.elim
  | cons x xs ih =>
    cases es with
    | nil => exact h.elim
    | cons e es =>
      rw [h.1.st]
      show (false || (backTo pos (starEach es X.env)).any (·.1)) = false
      rw [ih h.2]
      rfl
theorem s_callB {es : List Expr} {as : List Ex} {g : Str} {id : String} {p p2 : Pos} {f : List Vl → Hs → Out Vl} {m : Env → Hs → Out Vl} (e : m = fun e h => (evs F as e h).bind f) (cm : Calm f) (hc : CallR X (.builtin id) (rC X.K C f)) (hg : Gl X g) (hm : X.mg g = none) (hv : bootBuiltins g = some (.builtin id)) (hn : nameB g = true)
    (ha : AllE F X C W as es) (hne : es ≠ []) : SE X C W m (.Call (.Name g p) es [] pos) := by
  cases es with
  | nil => exact absurd rfl hne
  | cons e0 es =>
    cases as with
    | nil => exact ha.elim
    | cons x0 as =>
      rw [e]
      exact .of_pe (PE.imp (pe_callB hc hg hm hv ha.pa (nameB_n hn) (nameB_d hn) (ha.1.st _ _) (noStars ha.2)) fun σ H Q q => tCB_of cm q) (fun _ => rfl) (fun _ _ => rfl) (fun _ _ => rfl)
theorem s_callT {es : List Expr} {as : List Ex} {g : Str} {id : String} {p p2 : Pos} {f : List Vl → Hs → Out Vl} {m : Env → Hs → Out Vl} (e : m = fun e h => (evs F as e h).bind f) (cm : Calm f) (hc : CallR X (.type id) (rC X.K C f)) (hg : Gl X g) (hm : X.mg g = none) (hv : bootBuiltins g = some (.type id)) (hn : nameB g = true)
    (ha : AllE F X C W as es) (hne : es ≠ []) : SE X C W m (.Call (.Name g p) es [] pos) := by
  cases es with
  | nil => exact absurd rfl hne
  | cons e0 es =>
    cases as with
    | nil => exact ha.elim
    | cons x0 as =>
      rw [e]
      exact .of_pe (PE.imp (pe_callTy hc hg hm hv ha.pa (nameB_n hn) (nameB_d hn) (ha.1.st _ _) (noStars ha.2)) fun σ H Q q => tCB_of cm q) (fun _ => rfl) (fun _ _ => rfl) (fun _ _ => rfl)
/-- len(set(..)) -/
theorem s_lenset {p1 p2 p3 : Pos} (hc : X.calm = true) (g1 : Gl X "len") (m1 : X.mg "len" = none) (g2 : Gl X "set") (m2 : X.mg "set" = none) (ha : SE X C W (ev F x) a) : SE X C W (ev F (.prim .lenset [x])) (.Call (.Name "len" p1) [.Call (.Name "set" p2) [a] [] p3] [] pos) := by
  have e2 : ev F (.prim .lenset [x]) = fun e h => (ev F x e h).bind fun v h1 => pr .lenset [v] h1 := by
    rw [ev_prim]
    funext e h
    exact evs1
  rw [e2]
  refine .of_pe (PE.imp (pe_lenset g1 m1 g2 m2 ha.pe hc (ha.st _ _)) fun σ H Q ⟨e, h, ρ, S, SE, k⟩ => ?_) (fun _ => rfl) (fun _ _ => rfl) (fun _ _ => rfl)
  refine tM_first S SE k fun v h1 u H1 ρ1 x1 S1 SE1 r k1 => ?_
  simp only [pr] at k1
  split at k1
  · rename_i bs e
    obtain ⟨ws, e1, e2⟩ := lbind e
    obtain ⟨p, ys, rfl, at_, b⟩ := lview_ok S1 e1 r
    rw [allI_ok e2 b] at at_
    split at k1
    · rename_i hl
      exact ⟨p, bs, rfl, .of at_, hl, okI_q S1 k1⟩
    · exact k1.elim
  · exact k1.elim
/-- list(range(..)) -/
theorem s_listRange {m : Bool} {p1 p2 p3 : Pos} (hc : X.calm = true) (g1 : Gl X "list") (m1 : X.mg "list" = none) (g2 : Gl X "range") (m2 : X.mg "range" = none) (ha : SE X C W (ev F x) a) : SE X C W (ev F (.mk m .listRange [x])) (.Call (.Name "list" p1) [.Call (.Name "range" p2) [a] [] p3] [] pos) := by
  have e2 : ev F (.mk m .listRange [x]) = fun e h => (ev F x e h).bind fun v h1 => mk m .listRange [v] h1 := by
    rw [ev_mk]
    funext e h
    exact evs1
  rw [e2]
  refine .of_pe (PE.imp (pe_listRg hc g1 m1 (prg_1 g2 m2 ha.pe (ha.st _ _)) (by rfl)) fun σ H Q ⟨e, h, ρ, S, SE, k⟩ => ?_) (fun _ => rfl) (fun _ _ => rfl) (fun _ _ => rfl)
  refine tM_first S SE k fun v h1 u H1 ρ1 x1 S1 SE1 r k1 => ?_
  simp only [mk] at k1
  split at k1
  · rename_i j heq
    cases heq
    obtain rfl := repV_int r
    refine ⟨j, rfl, ?_⟩
    split at k1
    · rename_i h0
      have hr : RepVs X.K C ρ1 h1 H1 ((rngI 0 j).map fun i => .d (.int i)) (rgV 0 j) := by
        unfold rngI rgV
        rw [List.map_map]
        generalize List.range (j - 0).toNat = l
        induction l with
        | nil => exact .nil
        | cons i l ih => exact .cons (.int _) ih
      obtain ⟨hz, q⟩ := mkL_ok S1 k1 hr
      have hz' := hz
      rw [rgV_length, sizeLine_eq] at hz'
      exact ⟨RgOk.of_le (by omega) (by omega) (by omega) h0, q⟩
    · exact k1.elim
  · exact k1.elim
/-- sorted(set(..)) -/
theorem s_sortedSet {m : Bool} {p1 p2 p3 : Pos} (hc : X.calm = true) (g1 : Gl X "sorted") (m1 : X.mg "sorted" = none) (g2 : Gl X "set") (m2 : X.mg "set" = none) (ha : SE X C W (ev F x) a) : SE X C W (ev F (.mk m .sortedSet [x])) (.Call (.Name "sorted" p1) [.Call (.Name "set" p2) [a] [] p3] [] pos) := by
  have e2 : ev F (.mk m .sortedSet [x]) = fun e h => (ev F x e h).bind fun v h1 => mk m .sortedSet [v] h1 := by
    rw [ev_mk]
    funext e h
    exact evs1
  rw [e2]
  refine .of_pe (PE.imp (pe_sortset g1 m1 g2 m2 ha.pe hc (ha.st _ _)) fun σ H Q ⟨e, h, ρ, S, SE, k⟩ => ?_) (fun _ => rfl) (fun _ _ => rfl) (fun _ _ => rfl)
  refine tM_first S SE k fun v h1 u H1 ρ1 x1 S1 SE1 r k1 => ?_
  simp only [mk] at k1
  split at k1
  · rename_i xs heq
    cases heq
    split at k1
    · rename_i is e
      split at k1
      · rename_i hl
        obtain ⟨p, vs, rfl, s, rs⟩ := rep_tup r
        have sq := s.sq
        rw [allI_ok e (ds_of_reps rs)] at sq
        have hr : RepVs X.K C ρ1 h1 H1 ((sortU is).map fun i => .d (.int i)) ((sortU is).map V.int) := by
          generalize sortU is = l
          induction l with
          | nil => exact .nil
          | cons i l ih => exact .cons (.int i) ih
        obtain ⟨_, q⟩ := mkL_ok S1 k1 hr
        refine ⟨p, is, rfl, sq, hl, fun ks p' h1 h2 n => ?_⟩
        have : ks = sortU is := sorted_one h1 (sorted_sortU is) fun k => by rw [h2 k, mem_sortU]
        rw [this]
        exact q p' n
      · exact k1.elim
    · exact k1.elim
  · exact k1.elim
/-- displays -/
theorem s_list {m : Bool} {es : List Expr} {as : List Ex} (ha : AllE F X C W as es) : SE X C W (ev F (.mk m .lst as)) (.List es pos) := by
  rw [ev_mk]
  refine .of_pe (PE.imp (pe_lst ha.pa) fun σ H Q q => ?_) (fun _ => rfl) (fun _ _ => rfl) (fun _ _ => rfl)
  obtain ⟨e, h, ρ, S, SE, k⟩ := q
  refine tMs_first S SE k fun v h1 u H1 ρ1 x S1 SE1 r k1 => ?_
  exact mkL_ok S1 k1 r
theorem s_tup {es : List Expr} {as : List Ex} {j : Nat} (ha : AllE F X C W as es) : SE X C W (ev F (.prim .tup as)) (.Tuple es j pos) := by
  rw [ev_prim]
  refine .of_pe (PE.imp (pe_tup ha.pa) fun σ H Q q => ?_) (fun _ => rfl) (fun _ _ => rfl) (fun _ _ => rfl)
  obtain ⟨e, h, ρ, S, SE, k⟩ := q
  refine tMs_first S SE k fun v h1 u H1 ρ1 x S1 SE1 r k1 => ?_
  simp only [pr] at k1
  split at k1
  · rename_i ds ed
    split at k1
    · rename_i hl
      rw [allD_eq ed] at r
      have r' := reps_of_ds r
      exact ⟨by rw [← r'.len]; exact lim_line hl, fun p n => new_tup S1 k1 r' n⟩
    · exact k1.elim
  · exact k1.elim
/-! displays with starred parts -/
def evS (F : Nat → List Vl → Hs → Out Vl) : List Bool → List Ex → Env → Hs → Out (List Vl)
  | [], [], _, h => .ok [] h
  | b :: bs, x :: xs, e, h => (noEx (ev F x e h)).bind fun v h1 => match spr1 b v with
    | some a => (evS F bs xs e h1).bind fun us h2 => .ok (a ++ us) h2
    | none => .bad
  | _, _, _, _ => .bad
theorem evS_eq : ∀ (bs : List Bool) (as : List Ex) (e : Env) (h : Hs), ((noEx (evs F as e h)).bind fun vs h1 => match spread bs vs with
    | some us => .ok us h1
    | none => .bad) = evS F bs as e h
  | [], [], e, h => by rw [evs, evS]; rfl
  | [], x :: xs, e, h => by
    rw [evs, evS]
    cases ev F x e h with
    | ok v h1 =>
      rw [bind_ok]
      cases evs F xs e h1 <;> rfl
    | ex _ _ => rfl
    | bad => rfl
    all_goals simp
  | b :: bs, [], e, h => by
    rw [evs, evS]
    · rfl
    all_goals simp
  | b :: bs, x :: xs, e, h => by
    rw [evs, evS]
    cases ev F x e h with
    | ex _ _ => rfl
    | bad => rfl
    | ok v h1 =>
      rw [bind_ok]
      show _ = (Out.ok v h1).bind _
      rw [bind_ok, ← evS_eq bs xs e h1]
      cases evs F xs e h1 with
      | ex _ _ => cases spr1 b v <;> rfl
      | bad => cases spr1 b v <;> rfl
      | ok vs h2 =>
        show (match spread (b :: bs) (v :: vs) with
          | some us => Out.ok us h2
          | none => .bad) = _
        rw [spread]
        cases spr1 b v with
        | none => rfl
        | some a =>
          show _ = ((Out.ok vs h2).bind fun vs h1 => match spread bs vs with
            | some us => Out.ok us h1
            | none => .bad).bind _
          rw [bind_ok]
          cases spread bs vs <;> rfl
def unst : List Bool → List Expr → Option (List Expr)
  | [], [] => some []
  | b :: bs, e :: es => if b = true then (match e with
      | .Starred a _ => (unst bs es).map (a :: ·)
      | _ => none) else (unst bs es).map (e :: ·)
  | _, _ => none
theorem okO_noEx {K : PySem.W.Frag} {C : Cn} {α β : Type} {R : List Addr → Hs → Hp → α → β → Prop} {ρ : List Addr} {h : Hs} {H : Hp} {γ : Type} {o : Out γ} {f : γ → Hs → Out α} {Q : β → Hp → Prop} {E : XK} (k : OkO K C R ρ h H ((noEx o).bind f) Q E) : OkO K C R ρ h H (o.bind f) Q E := by
  cases o with
  | ok v h1 => exact k
  | ex x h1 => exact k.elim
  | bad => exact k.elim
theorem star_pa : ∀ {bs : List Bool} {as : List Ex} {us es : List Expr}, unst bs es = some us → AllE F X C W as us → PA X es (tMs X.K C W (evS F bs as))
  | [], as, us, [], h, ha => by
    cases h
    cases as with
    | cons _ _ => exact ha.elim
    | nil =>
      have e : evS F [] [] = fun _ h => .ok [] h := by funext e h; rw [evS]
      rw [e]
      exact c_nil
  | [], as, us, _ :: _, h, ha => by cases h
  | _ :: _, as, us, [], h, ha => by cases h
  | b :: bs, as, us, e :: es, h, ha => by
    unfold unst at h
    split at h
    · rename_i hb
      split at h
      · rename_i a p
        cases hu : unst bs es with
        | none => rw [hu] at h; cases h
        | some us' =>
          rw [hu] at h
          cases h
          cases as with
          | nil => exact ha.elim
          | cons x as =>
            refine PA.imp (StX.pa_star ha.1.pe (star_pa hu ha.2)) fun σ H Q ⟨e, h, ρ, S, SE, k⟩ => ?_
            have ee : evS F (b :: bs) (x :: as) e h = (noEx (ev F x e h)).bind fun v h1 => match spr1 b v with
              | some a => (evS F bs as e h1).bind fun us h2 => .ok (a ++ us) h2
              | none => .bad := by rw [evS]
            rw [ee] at k
            refine tM_first S SE (okO_noEx k) fun v h1 u H1 ρ1 x1 S1 SE1 r k1 => ?_
            split at k1
            · rename_i ws hw
              unfold spr1 at hw
              rw [if_pos hb] at hw
              have fin : ∀ {q : Addr} {ds : List D} {vs : List V}, Reps X.K C (AV C ρ1 h1) H1 ds vs → ws = ds.map .d → u = .ref q → (SqT X.K H1 q vs ∨ SqL X.K H1 q vs) → ∃ p xs, u = V.ref p ∧ (SqT X.K H1 p xs ∨ SqL X.K H1 p xs) ∧ tMs X.K C W (evS F bs as) σ H1 fun ys H2 => Q (xs ++ ys) H2 := by
                intro q ds vs rs hws hu sq
                refine ⟨q, vs, hu, sq, tMs_first S1 SE1 k1 fun vs' h2 us' H2 ρ2 x2 S2 SE2 r2 k2 => ?_⟩
                have rd : RepVs X.K C ρ1 h1 H1 ws vs := by rw [hws]; exact ds_of_reps rs
                exact k2 _ _ _ Ext.refl S2 (Paired.app' (RepVs.mono x2 rd) r2)
              split at hw
              · rename_i ds
                cases hw
                obtain ⟨q, vs, hu, s, rs⟩ := rep_lst r
                exact fin rs rfl hu (.inr s.sq)
              · rename_i ds
                cases hw
                obtain ⟨q, vs, hu, s, rs⟩ := rep_tup r
                exact fin rs rfl hu (.inl s.sq)
              · cases hw
            · exact k1.elim
      · cases h
    · rename_i hb
      cases hu : unst bs es with
      | none => rw [hu] at h; cases h
      | some us' =>
        rw [hu] at h
        cases h
        cases as with
        | nil => exact ha.elim
        | cons x as =>
          refine PA.imp (c_cons ha.1.pe (star_pa hu ha.2) (ha.1.st es X.env)) fun σ H Q ⟨e, h, ρ, S, SE, k⟩ => ?_
          refine ⟨e, h, ρ, S, SE, ?_⟩
          have ee : evS F (b :: bs) (x :: as) e h = (noEx (ev F x e h)).bind fun v h1 => match spr1 b v with
            | some a => (evS F bs as e h1).bind fun us h2 => .ok (a ++ us) h2
            | none => .bad := by rw [evS]
          rw [ee] at k
          have k2 := okO_noEx k
          have es : (fun (v : Vl) (h1 : Hs) => match spr1 b v with
            | some a => (evS F bs as e h1).bind fun us h2 => Out.ok (a ++ us) h2
            | none => .bad) = fun v h1 => (evS F bs as e h1).bind fun vs h2 => .ok (v :: vs) h2 := by
            funext v h1
            unfold spr1
            rw [if_neg hb]
            rfl
          rw [es] at k2
          exact k2
theorem ev_star {k : Nat} {bs : List Bool} {as : List Ex} : ev F (.star k bs as) = fun e h => (evS F bs as e h).bind (starK k) := by
  funext e h
  rw [ev, ← evS_eq, bind_assoc']
  congr 1
  funext vs h1
  cases spread bs vs <;> rfl
theorem s_starL {k : Nat} {bs : List Bool} {as : List Ex} {us es : List Expr} (hk : (k == 2) = false) (h : unst bs es = some us) (ha : AllE F X C W as us) : SE X C W (ev F (.star k bs as)) (.List es pos) := by
  rw [ev_star]
  refine .of_pe (PE.imp (pe_lst (star_pa h ha)) fun σ H Q q => ?_) (fun _ => rfl) (fun _ _ => rfl) (fun _ _ => rfl)
  obtain ⟨e, h, ρ, S, SE, k⟩ := q
  refine tMs_first S SE k fun v h1 u H1 ρ1 x S1 SE1 r k1 => ?_
  unfold starK at k1
  rw [if_neg (by simpa using hk)] at k1
  exact mkL_ok S1 k1 r
theorem s_starT {bs : List Bool} {as : List Ex} {us es : List Expr} {j : Nat} (h : unst bs es = some us) (ha : AllE F X C W as us) : SE X C W (ev F (.star 2 bs as)) (.Tuple es j pos) := by
  rw [ev_star]
  refine .of_pe (PE.imp (pe_tup (star_pa h ha)) fun σ H Q q => ?_) (fun _ => rfl) (fun _ _ => rfl) (fun _ _ => rfl)
  obtain ⟨e, h, ρ, S, SE, k⟩ := q
  refine tMs_first S SE k fun v h1 u H1 ρ1 x S1 SE1 r k1 => ?_
  unfold starK at k1
  rw [if_pos rfl] at k1
  simp only [pr] at k1
  split at k1
  · rename_i ds ed
    split at k1
    · rename_i hl
      rw [allD_eq ed] at r
      have r' := reps_of_ds r
      exact ⟨by rw [← r'.len]; exact lim_line hl, fun p n => new_tup S1 k1 r' n⟩
    · exact k1.elim
  · exact k1.elim
/-- subscripts -/
theorem s_item (hu : X.A.units + 1 < cLine) (ha : SE X C W (ev F x) a) (hb : SE X C W (ev F y) b) : SE X C W (ev F (.prim .item [x, y])) (.Subscript a b pos) := by
  rw [m2_ev ev_prim]
  exact .of_pe (PE.imp (pe_ix (i_item hu) ha.pe hb.pe hb.ix) fun σ H Q q => tOp_of (pr_calm _) q) (fun _ => rfl) (fun _ _ => rfl) (fun _ _ => rfl)
/-- slices -/
theorem s_slL {f : Vl → Option Int → Option Int → Hs → Out Vl} {g : List Vl → Hs → Out Vl} {m : Env → Hs → Out Vl} {p2 : Pos} (e : m = fun e h => (evs F [x, y] e h).bind g) (cm : Calm g) (hr : SlR X (rS X C f)) (hg : ∀ v w h, g [v, w] h = .bad ∨ ∃ i, w = .d (.int i) ∧ g [v, w] h = f v (some i) none h)
    (ha : SE X C W (ev F x) a) (hb : SE X C W (ev F y) b) : SE X C W m (.Subscript a (.Slice (some b) none none p2) pos) := by
  rw [m2_ev e]
  refine .of_pe (PE.imp (pe_slice hr ha.pe (po_some hb.pe) po_none) fun σ H Q q => ?_) (fun _ => rfl) (fun _ _ => rfl) (fun _ _ => rfl)
  obtain ⟨e, h, ρ, S, SE, k⟩ := q
  refine tM_first S SE k fun v h1 u H1 ρ1 x1 S1 SE1 r k1 => ?_
  refine tM_first S1 SE1 k1 fun w h2 z H2 ρ2 x2 S2 SE2 r2 k2 => ?_
  rcases hg v w h2 with e | ⟨i, rfl, e⟩
  · rw [e] at k2
    exact k2.elim
  · refine ⟨i, repV_int r2, h2, ρ2, v, S2, r.mono x2, ?_⟩
    have := calm_e (E' := fun _ _ _ => False) cm k2
    rw [e] at this
    exact this
theorem s_slU {f : Vl → Option Int → Option Int → Hs → Out Vl} {g : List Vl → Hs → Out Vl} {m : Env → Hs → Out Vl} {p2 : Pos} (e : m = fun e h => (evs F [x, y] e h).bind g) (cm : Calm g) (hr : SlR X (rS X C f)) (hg : ∀ v w h, g [v, w] h = .bad ∨ ∃ i, w = .d (.int i) ∧ g [v, w] h = f v none (some i) h)
    (ha : SE X C W (ev F x) a) (hb : SE X C W (ev F y) b) : SE X C W m (.Subscript a (.Slice none (some b) none p2) pos) := by
  rw [m2_ev e]
  refine .of_pe (PE.imp (pe_slice hr ha.pe po_none (po_some hb.pe)) fun σ H Q q => ?_) (fun _ => rfl) (fun _ _ => rfl) (fun _ _ => rfl)
  obtain ⟨e, h, ρ, S, SE, k⟩ := q
  refine tM_first S SE k fun v h1 u H1 ρ1 x1 S1 SE1 r k1 => ?_
  refine tM_first S1 SE1 k1 fun w h2 z H2 ρ2 x2 S2 SE2 r2 k2 => ?_
  rcases hg v w h2 with e | ⟨i, rfl, e⟩
  · rw [e] at k2
    exact k2.elim
  · refine ⟨i, repV_int r2, h2, ρ2, v, S2, r.mono x2, ?_⟩
    have := calm_e (E' := fun _ _ _ => False) cm k2
    rw [e] at this
    exact this
/-! what raises nothing, by its form -/
mutual
def quietE : Ex → Bool
  | .var _ => true
  | .cst _ => true
  | .glb _ _ => true
  | .prim _ as => quietEs as
  | .mk _ _ as => quietEs as
  | _ => false
def quietEs : List Ex → Bool
  | [] => true
  | x :: r => quietE x && quietEs r
end
theorem bind_calm {α β : Type} {o : Out α} {f : α → Hs → Out β} (h1 : ∀ x h, o ≠ .ex x h) (h2 : ∀ a h x h', f a h ≠ .ex x h') : ∀ x h, o.bind f ≠ .ex x h := by
  intro x h
  cases o with
  | ok a h => exact h2 _ _ _ _
  | ex y h' => exact absurd rfl (h1 _ _)
  | bad => intro z; cases z
mutual
theorem quietE_ok : ∀ {x : Ex}, quietE x = true → ∀ e h y h', ev F x e h ≠ .ex y h'
  | .var i, _, e, h, y, h' => by
    rw [ev]
    split <;> (intro z; cases z)
  | .cst _, _, e, h, y, h' => by
    rw [ev]
    intro z
    cases z
  | .glb _ _, _, e, h, y, h' => by
    rw [ev]
    intro z
    cases z
  | .prim p as, q, e, h, y, h' => by
    rw [ev]
    exact bind_calm (fun a b => quietEs_ok (xs := as) (by rw [quietE] at q; exact q) e h a b) (fun a b c d => pr_calm p a b c d) y h'
  | .mk m p as, q, e, h, y, h' => by
    rw [ev]
    exact bind_calm (fun a b => quietEs_ok (xs := as) (by rw [quietE] at q; exact q) e h a b) (fun a b c d => mk_calm m p a b c d) y h'
  | .and _ _, q, _, _, _, _ => by simp [quietE] at q
  | .or _ _, q, _, _, _, _ => by simp [quietE] at q
  | .not _, q, _, _, _, _ => by simp [quietE] at q
  | .ite _ _ _, q, _, _, _, _ => by simp [quietE] at q
  | .chain _ _ _ _ _, q, _, _, _, _ => by simp [quietE] at q
  | .call _ _, q, _, _, _, _ => by simp [quietE] at q
  | .meth _ _ _ _ _, q, _, _, _, _ => by simp [quietE] at q
  | .attr _ _ _ _, q, _, _, _, _ => by simp [quietE] at q
  | .pro _ _ _ _, q, _, _, _, _ => by simp [quietE] at q
  | .new _ _ _ _, q, _, _, _, _ => by simp [quietE] at q
  | .eqO _ _ _ _ _, q, _, _, _, _ => by simp [quietE] at q
  | .star _ _ _, q, _, _, _, _ => by simp [quietE] at q
  | .popc _ _, q, _, _, _, _ => by simp [quietE] at q
  | .dcomp _ _ _ _ _ _ _, q, _, _, _, _ => by simp [quietE] at q
  | .comp _ _ _ _ _ _, q, _, _, _, _ => by simp [quietE] at q
  | .dict _ _ _, q, _, _, _, _ => by simp [quietE] at q
  | .dictP _ _, q, _, _, _, _ => by simp [quietE] at q
  | .frz _, q, _, _, _, _ => by simp [quietE] at q
  | .wall, q, _, _, _, _ => by simp [quietE] at q
theorem quietEs_ok : ∀ {xs : List Ex}, quietEs xs = true → ∀ e h y h', evs F xs e h ≠ .ex y h'
  | [], _, e, h, y, h' => by
    rw [evs]
    intro z
    cases z
  | x :: xs, q, e, h, y, h' => by
    rw [evs]
    rw [quietEs, Bool.and_eq_true] at q
    exact bind_calm (fun a b => quietE_ok (x := x) q.1 e h a b) (fun a b c d => bind_calm (fun a' b' => quietEs_ok (xs := xs) q.2 e b a' b') (fun a b c d z => by cases z) c d) y h'
end
theorem s_slLU {f : Vl → Option Int → Option Int → Hs → Out Vl} {g : List Vl → Hs → Out Vl} {m : Env → Hs → Out Vl} {p2 : Pos} (e : m = fun e h => (evs F [x, y, z] e h).bind g) (cm : Calm g) (hr : SlR X (rS X C f)) (hg : ∀ v w t h, g [v, w, t] h = .bad ∨ ∃ i j, w = .d (.int i) ∧ t = .d (.int j) ∧ g [v, w, t] h = f v (some i) (some j) h)
    (ha : SE X C W (ev F x) a) (hb : SE X C W (ev F y) b) (hc : SE X C W (ev F z) c) (qz : quietE z = true) : SE X C W m (.Subscript a (.Slice (some b) (some c) none p2) pos) := by
  have e3 : m = fun e h => (ev F x e h).bind fun v h1 => (ev F y e h1).bind fun w h2 => (ev F z e h2).bind fun t h3 => g [v, w, t] h3 := by
    rw [e]
    funext e h
    exact evs3
  rw [e3]
  refine .of_pe (PE.imp (pe_slice hr ha.pe (po_some hb.pe) (po_some hc.pe)) fun σ H Q q => ?_) (fun _ => rfl) (fun _ _ => rfl) (fun _ _ => rfl)
  obtain ⟨e, h, ρ, S, SE, k⟩ := q
  refine tM_first S SE k fun v h1 u H1 ρ1 x1 S1 SE1 r k1 => ?_
  refine tM_first S1 SE1 k1 fun w h2 z2 H2 ρ2 x2 S2 SE2 r2 k2 => ?_
  have hz : ∀ t h3, ev F z e h2 = .ok t h3 → ∃ i, w = .d (.int i) := by
    intro t h3 ez
    rw [ez, bind_ok] at k2
    rcases hg v w t h3 with e | ⟨i, j, e1, _, _⟩
    · rw [e] at k2
      exact k2.elim
    · exact ⟨i, e1⟩
  have hw : ∃ i, w = .d (.int i) := by
    cases ez : ev F z e h2 with
    | ok t h3 => exact hz t h3 ez
    | ex x' h' => exact absurd ez (quietE_ok qz _ _ _ _)
    | bad =>
      rw [ez] at k2
      exact k2.elim
  obtain ⟨i, rfl⟩ := hw
  refine ⟨i, repV_int r2, ?_⟩
  refine tM_first S2 SE2 k2 fun t h3 z3 H3 ρ3 x3 S3 SE3 r3 k3 => ?_
  rcases hg v (.d (.int i)) t h3 with e | ⟨i', j, e1, rfl, e⟩
  · rw [e] at k3
    exact k3.elim
  · cases e1
    refine ⟨j, repV_int r3, h3, ρ3, v, S3, (r.mono x2).mono x3, ?_⟩
    have := calm_e (E' := fun _ _ _ => False) cm k3
    rw [e] at this
    exact this
end
end L3
/-! L3: cells that become data; isinstance; attributes; calls; instances made; ==. -/
namespace L3
open PySem PySem.Spec PyProof.Rows L2

section
variable {X : Cx} {C : Cn} {pins : List (Addr × Obj)} {s : Shared} {σ : L2.St}
/-- a cell that dies is no longer among the alive ones -/
theorem dead_av {ρ : List Addr} {h : Hs} {H : Hp} {n : Nat} {p : Addr} {c : Cell} (S : Sim X.K C ρ h H) (hn : ρ[n]? = some p) (hc : h[n]? = some c) (nd : c ≠ .dead) : ¬ AV C ρ (h.set n .dead) p := by
  rintro (⟨i, d, e1, e2, e3⟩ | z)
  rcases get_set e2 with ⟨z1, z2⟩ | ⟨z1, z2⟩
  · exact z1 (S.inj i n p d c e1 hn z2 hc e3 nd)
  · exact e3 z2.symm
  · exact S.hd n c p hn hc nd z
theorem freeze_ok {ρ : List Addr} {h : Hs} {H : Hp} {v : Vl} {u : V} {Q : VK} {E : XK} (I : Inv X pins σ H s) (S : Sim X.K C ρ h H) (r : RepV X.K C ρ h H v u) (k : OkV X.K C ρ h H (freeze v h) Q E) : ∃ H', Inv X pins σ H' s ∧ Q u H' := by
  unfold freeze at k
  split at k
  · exact ⟨H, I, okV_v S k r⟩
  · rename_i n
    obtain ⟨p, hp, rfl⟩ := r
    split at k
    · rename_i xs hc
      obtain ⟨vs, e2, e3⟩ := S.ok _ _ p hc hp
      split at k
      · rename_i ds ed
        rw [allD_eq ed] at e3
        have x := ext_set S (H' := H) (c' := .dead) hp hc (by intro z; cases z) fun _ _ => rfl
        have S' := S.set (H' := H) (c' := .dead) hp hc (by intro z; cases z) (fun _ _ => rfl) trivial
        exact ⟨H, I, k (.ref p) H ρ x S' (.lst ⟨dead_av S hp hc (by intro z; cases z), e2⟩ ((reps_of_ds e3).mono x.fro))⟩
      · exact k.elim
    · rename_i kvs hc
      obtain ⟨ks, e2, e3⟩ := S.ok _ _ p hc hp
      obtain ⟨od, I'⟩ := I.lock e2 trivial
      have x := ext_set S (H' := upd H p (.frz od (.dK ks))) (c' := .dead) hp hc (by intro z; cases z) fun a ne => upd_ne ne
      have S' := S.set (H' := upd H p (.frz od (.dK ks))) (c' := .dead) hp hc (by intro z; cases z) (fun a ne => upd_ne ne) trivial
      exact ⟨_, I', k (.ref p) _ ρ x S' (.dic (dead_av S hp hc (by intro z; cases z)) upd_same (e3.mono x.fro))⟩
    · rename_i c fs hc
      obtain ⟨dx, l, ek, e2, e3, e4⟩ := S.ok _ _ p hc hp
      split at k
      · rename_i ds ed
        have ef := allD_eq ed
        subst ef
        have x := ext_set S (H' := H) (c' := .dead) hp hc (by intro z; cases z) fun _ _ => rfl
        have S' := S.set (H' := H) (c' := .dead) hp hc (by intro z; cases z) (fun _ _ => rfl) trivial
        rw [List.length_map] at e3
        exact ⟨H, I, k (.ref p) H ρ x S' (.ins ek (dead_av S hp hc (by intro z; cases z)) e2 e3 ((reps_of_ds e4).mono x.fro))⟩
      · exact k.elim
    · exact k.elim
end
section
variable {T : Tb} {Z : Addr → Prop} {F : Nat → List Vl → Hs → Out Vl} {N : List Str} {sc : Scope} {k : Nat} {X : Cx} {C : Cn} {W : WX} {e a b : Expr} {x y : Ex} {pos : Pos}
theorem s_frz (h : SE X C W (ev F x) e) : SE X C W (ev F (.frz x)) e := by
  have q : ev F (.frz x) = fun e h => (ev F x e h).bind fun v h1 => freeze v h1 := by funext e h; rw [ev]
  rw [q]
  have go : ∀ σ H Q, tM X.K C W (fun e h => (ev F x e h).bind fun v h1 => freeze v h1) σ H Q → tM X.K C W (ev F x) σ H fun u H1 => ∀ pins s, Inv X pins σ H1 s → ∃ H', Inv X pins σ H' s ∧ Q u H' := by
    intro σ H Q ⟨e, h, ρ, S, SE, k⟩
    exact tM_first S SE k fun v h1 u H1 ρ1 x1 S1 SE1 r k1 pins s I => freeze_ok I S1 r k1
  refine ⟨⟨fun pins s σ H Q I q => thn (h.pe.run pins s σ H _ I (go σ H Q q)) fun u s1 ⟨v, H1, I1, rv, f⟩ => ?_⟩, ⟨fun pins s σ H Q I q => ?_⟩, h.st, h.ix⟩
  · obtain ⟨H2, I2, q2⟩ := f pins s1 I1
    exact ⟨v, H2, I2, rv, q2⟩
  · -- a test of a frozen thing: a bool stays
    have q' : tMt X.K C W (ev F x) σ H Q := by
      obtain ⟨e, h, ρ, S, SE, k⟩ := q
      refine tMt_first S SE k fun v h1 u H1 ρ1 x1 S1 SE1 r k1 => ?_
      cases v with
      | d y => exact okV_v S1 k1 r
      | r n =>
        -- no cell is a bool
        exfalso
        obtain ⟨p, hp, rfl⟩ := r
        unfold freeze at k1
        dsimp only at k1
        split at k1
        · rename_i xs hc
          split at k1
          · rename_i ds ed
            obtain ⟨vs, e2, e3⟩ := S1.ok _ _ p hc hp
            rw [allD_eq ed] at e3
            have x := ext_set S1 (H' := H1) (c' := .dead) hp hc (by intro z; cases z) fun _ _ => rfl
            have S' := S1.set (H' := H1) (c' := .dead) hp hc (by intro z; cases z) (fun _ _ => rfl) trivial
            obtain ⟨b, eb, _⟩ := k1 (.ref p) H1 ρ1 x S' (.lst ⟨dead_av S1 hp hc (by intro z; cases z), e2⟩ ((reps_of_ds e3).mono x.fro))
            cases eb
          · exact k1.elim
        · rename_i kvs hc
          obtain ⟨ks, e2, e3⟩ := S1.ok _ _ p hc hp
          have x := ext_set S1 (H' := upd H1 p (.frz ⟨.none, none, .cell none, #[]⟩ (.dK ks))) (c' := .dead) hp hc (by intro z; cases z) fun a ne => upd_ne ne
          have S' := S1.set (H' := upd H1 p (.frz ⟨.none, none, .cell none, #[]⟩ (.dK ks))) (c' := .dead) hp hc (by intro z; cases z) (fun a ne => upd_ne ne) trivial
          obtain ⟨b, eb, _⟩ := k1 (.ref p) _ ρ1 x S' (.dic (dead_av S1 hp hc (by intro z; cases z)) upd_same (e3.mono x.fro))
          cases eb
        · rename_i c fs hc
          split at k1
          · rename_i ds ed
            obtain ⟨dx, l, ek, e2, e3, e4⟩ := S1.ok _ _ p hc hp
            have ef := allD_eq ed
            subst ef
            have x := ext_set S1 (H' := H1) (c' := .dead) hp hc (by intro z; cases z) fun _ _ => rfl
            have S' := S1.set (H' := H1) (c' := .dead) hp hc (by intro z; cases z) (fun _ _ => rfl) trivial
            rw [List.length_map] at e3
            obtain ⟨b, eb, _⟩ := k1 (.ref p) H1 ρ1 x S' (.ins ek (dead_av S1 hp hc (by intro z; cases z)) e2 e3 ((reps_of_ds e4).mono x.fro))
            cases eb
          · exact k1.elim
        · exact k1.elim
    exact h.pt.run pins s σ H Q I q'
/-! ### isinstance -/
def dTy : D → String
  | .non => "NoneType"
  | .bl _ => "bool"
  | .int _ => "int"
  | .str _ => "str"
  | .tup _ => "tuple"
  | .lst _ => "list"
  | .dic _ => "dict"
  | _ => ""
/-- the type of what a value stands for -/
theorem tyx_d {av : Addr → Prop} {H : Hp} {x : D} {u : V} (r : Rep X.K C av H x u) (hro : ∀ xs, x ≠ .ro xs) (h : ∀ c fs, x ≠ .ins c fs) : TyX X.K H u (.type (dTy x)) := by
  cases r with
  | non => exact .base .non
  | bl b => exact .base (.bl b)
  | int i => exact .base (.int i)
  | str x => exact .base (.str x)
  | tup s _ =>
    rcases s with ⟨_, s | ⟨o, s⟩⟩ | ⟨o, its, n, e, c, _⟩
    · exact .base (.tup s)
    · exact .fTuple s
    · exact .kTuple e c
  | lst s _ => exact .base (.lst s.2)
  | ro _ => exact absurd rfl (hro _)
  | dic _ e _ => exact .fDict e
  | ins _ _ _ _ _ => exact absurd rfl (h _ _)
theorem kit_d (x : D) (t : Ty) (hro : ∀ xs, x ≠ .ro xs) (h : (∀ c fs, x ≠ .ins c fs) ∧ (∀ xs, x ≠ .set xs) ∧ ∀ c fs, x ≠ .exc c fs) : kitB (dTy x) (tyN t) = some (isTy t x) := by
  cases x with
  | ins c fs => exact absurd rfl (h.1 c fs)
  | set xs => exact absurd rfl (h.2.1 xs)
  | exc c fs => exact absurd rfl (h.2.2 c fs)
  | ro xs => exact absurd rfl (hro xs)
  | _ => cases t <;> (simp only [dTy, tyN, isTy]; decide +kernel)
theorem rep_no {av : Addr → Prop} {H : Hp} {x : D} {u : V} (r : Rep X.K C av H x u) : (∀ xs, x ≠ .set xs) ∧ ∀ c fs, x ≠ .exc c fs := by
  cases r <;> exact ⟨fun _ z => (by cases z), fun _ _ z => (by cases z)⟩
theorem tyN_mem (t : Ty) : tyN t ∈ tyNames := by cases t <;> simp [tyN, tyNames]
theorem ca_of {c : Nat} {d : Cl} (h : T.cls[c]? = some d) : (T.cn Z).ca c = d.ad := by
  show (match T.cls[c]? with
    | some d => d.ad
    | none => 0) = _
  rw [h]
theorem fl_of {c : Nat} {d : Cl} (h : T.cls[c]? = some d) : (T.cn Z).fl c = d.fl := by
  show (match T.cls[c]? with
    | some d => d.fl
    | none => []) = _
  rw [h]
theorem cl_of {c : Nat} (h : (T.cn Z).ok c = true) : ∃ d, T.cls[c]? = some d := Option.isSome_iff_exists.mp h
/-- isinstance(v, T) -/
theorem kit_v {ρ : List Addr} {h : Hs} {H : Hp} {v : Vl} {u : V} {t : Ty} {b : Bool} (fa : ∀ (c : Nat) (d : Cl), T.cls[c]? = some d → ClF T X.K X.mg d) (S : Sim X.K (T.cn Z) ρ h H) (r : RepV X.K (T.cn Z) ρ h H v u) (e : isTyV t v h = some b) :
    ∃ ty, TyX X.K H u ty ∧ PySem.W.kitOne X.K ty (.type (tyN t)) = some b := by
  unfold isTyV at e
  split at e
  · cases e
  · rename_i x hro0
    have hro : ∀ xs, x ≠ .ro xs := fun xs z => hro0 xs (by rw [z])
    by_cases hx : ∃ c fs, x = .ins c fs
    · obtain ⟨c, fs, rfl⟩ := hx
      cases r with
      | ins ek na eh _ _ =>
        obtain ⟨d, e2⟩ := cl_of ek
        have f := fa c d e2
        rw [ca_of e2] at eh
        refine ⟨.ref d.ad, .base (.ins eh f.cl f.i1 f.i2 f.i3 f.i4), ?_⟩
        rw [f.kT _ (tyN_mem t)]
        rw [← e]
        cases t <;> rfl
    · have hn : ∀ c fs, x ≠ .ins c fs := fun c fs z => hx ⟨c, fs, z⟩
      refine ⟨_, tyx_d r hro hn, ?_⟩
      rw [← e]
      exact kit_ty (kit_d x t hro ⟨hn, rep_no r⟩)
  · rename_i n
    obtain ⟨p, hp, rfl⟩ := r
    split at e
    · rename_i hc
      obtain ⟨vs, e2, _⟩ := S.ok _ _ p hc hp
      refine ⟨_, .base (.lst e2), ?_⟩
      rw [← e]
      exact kit_ty (by cases t <;> decide +kernel)
    · rename_i hc
      obtain ⟨vs, e2, _⟩ := S.ok _ _ p hc hp
      refine ⟨_, .base (.dK e2), ?_⟩
      rw [← e]
      exact kit_ty (by cases t <;> decide +kernel)
    · rename_i c fs hc
      obtain ⟨dx, l, ek, e3, _⟩ := S.ok _ _ p hc hp
      obtain ⟨d, e2⟩ := cl_of ek
      have f := fa c d e2
      rw [ca_of e2] at e3
      refine ⟨.ref d.ad, .base (.ins e3 f.cl f.i1 f.i2 f.i3 f.i4), ?_⟩
      rw [f.kT _ (tyN_mem t), ← e]
    · cases e
/-- isinstance(v, C), one class of the program's own -/
theorem kit_o' {ρ : List Addr} {h : Hs} {H : Hp} {v : Vl} {u : V} {c : Nat} {d : Cl} {b : Bool} (fa : ∀ (c : Nat) (d : Cl), T.cls[c]? = some d → ClF T X.K X.mg d) (kC : ∀ (c : Nat) (d : Cl) (c' : Nat) (d' : Cl), T.cls[c]? = some d → T.cls[c']? = some d' → PySem.W.kitOne X.K (.ref d.ad) (.ref d'.ad) = some (decide (c = c')))
    (S : Sim X.K (T.cn Z) ρ h H) (r : RepV X.K (T.cn Z) ρ h H v u) (e : isCV [c] v h = some b) (hd : T.cls[c]? = some d) (nfC : ∀ (c : Nat) (d : Cl) (c' : Nat) (d' : Cl), T.cls[c]? = some d → T.cls[c']? = some d' → PySem.W.notFirst X.K d.ad (.ref d'.ad) = true) : ∃ ty, TyX X.K H u ty ∧ PySem.W.kitOne X.K ty (.ref d.ad) = some b ∧ PySem.W.notFirst X.K d.ad ty = true := by
  have fd := fa c d hd
  have dec : ∀ a : Nat, [c].contains a = decide (a = c) := fun a => by
    simp [List.contains_cons, eq_comm]
  unfold isCV at e
  split at e
  · cases e
  · rename_i x hro0
    have hro : ∀ xs, x ≠ .ro xs := fun xs z => hro0 xs (by rw [z])
    by_cases hx : ∃ c fs, x = .ins c fs
    · obtain ⟨c', fs, rfl⟩ := hx
      cases r with
      | ins ek na eh _ _ =>
        obtain ⟨d', e2⟩ := cl_of ek
        have f := fa c' d' e2
        rw [ca_of e2] at eh
        refine ⟨.ref d'.ad, .base (.ins eh f.cl f.i1 f.i2 f.i3 f.i4), ?_⟩
        refine ⟨?_, nfC c d c' d' hd e2⟩
        rw [kC c' d' c d e2 hd, ← e]
        show _ = some ([c].contains c')
        rw [dec]
    · have hn : ∀ c fs, x ≠ .ins c fs := fun c fs z => hx ⟨c, fs, z⟩
      obtain ⟨n1, n2⟩ := rep_no r
      refine ⟨_, tyx_d r hro hn, ?_⟩
      have hm : dTy x ∈ "NoneType" :: tyNames := by
        cases x with
        | ins c fs => exact absurd rfl (hn c fs)
        | set xs => exact absurd rfl (n1 xs)
        | exc c fs => exact absurd rfl (n2 c fs)
        | ro xs => exact absurd rfl (hro xs)
        | _ => simp [dTy, tyNames]
      refine ⟨?_, by
        unfold PySem.W.notFirst
        rw [fd.nf _ hm]
        exact Bool.or_true _⟩
      rw [fd.kO _ hm, ← e]
      cases x with
      | ins c fs => exact absurd rfl (hn c fs)
      | exc c fs => exact absurd rfl (n2 c fs)
      | _ => rfl
  · rename_i n
    obtain ⟨p, hp, rfl⟩ := r
    split at e
    · rename_i hc
      obtain ⟨vs, e2, _⟩ := S.ok _ _ p hc hp
      refine ⟨_, .base (.lst e2), ?_⟩
      refine ⟨?_, by
        unfold PySem.W.notFirst
        rw [fd.nf _ (by simp [tyNames])]
        exact Bool.or_true _⟩
      rw [← e]
      exact fd.kO _ (by simp [tyNames])
    · rename_i hc
      obtain ⟨vs, e2, _⟩ := S.ok _ _ p hc hp
      refine ⟨_, .base (.dK e2), ?_⟩
      refine ⟨?_, by
        unfold PySem.W.notFirst
        rw [fd.nf _ (by simp [tyNames])]
        exact Bool.or_true _⟩
      rw [← e]
      exact fd.kO _ (by simp [tyNames])
    · rename_i c' fs hc
      obtain ⟨dx, l, ek, e3, _⟩ := S.ok _ _ p hc hp
      obtain ⟨d', e2⟩ := cl_of ek
      have f := fa c' d' e2
      rw [ca_of e2] at e3
      refine ⟨.ref d'.ad, .base (.ins e3 f.cl f.i1 f.i2 f.i3 f.i4), ?_⟩
      refine ⟨?_, nfC c d c' d' hd e2⟩
      rw [kC c' d' c d e2 hd, ← e, dec]
    · cases e
theorem s_isi {t : Ty} {p p1 p2 : Pos} (fa : ∀ (c : Nat) (d : Cl), T.cls[c]? = some d → ClF T X.K X.mg d) (hg : Gl X ("isinstance" : Str)) (hm : X.mg ("isinstance" : Str) = none) (hg2 : Gl X (tyN t : Str)) (hm2 : X.mg (tyN t : Str) = none) (ha : SE X (T.cn Z) W (ev F x) a) :
    SE X (T.cn Z) W (ev F (.prim (.isi t) [x])) (.Call (.Name ("isinstance" : Str) p) [a, .Name (tyN t : Str) p2] [] pos) := by
  have e2 : ev F (.prim (.isi t) [x]) = fun e h => (ev F x e h).bind fun v h1 => pr (.isi t) [v] h1 := by
    rw [ev_prim]
    funext e h
    exact evs1
  rw [e2]
  have hv : bootBuiltins (tyN t : Str) = some (.type (tyN t)) := by cases t <;> rfl
  have hN : ((tyN t : Str) == ("__debug__" : Str)) = false := by cases t <;> decide +kernel
  have hN2 : (tyN t : Str) ≠ ("__name__" : Str) := by cases t <;> decide +kernel
  have pb : PE X (.Name (tyN t : Str) p2) (tC (.ty (tyN t))) := pe_bltn hg2 hm2 hv rfl hN2 hN
  refine .of_pe (PE.imp (pe_callB call_isi hg hm (by rfl) (pa_cons ha.pe (pa_cons pb pa_nil (by rfl)) (ha.st _ _)) (by decide) (by decide) (ha.st _ _) (by rfl)) fun σ H Q q => ?_) (fun _ => rfl) (fun _ _ => rfl) (fun _ _ => rfl)
  obtain ⟨e, h, ρ, S, SE, k⟩ := q
  refine tM_first S SE k fun v h1 u H1 ρ1 x1 S1 SE1 r k1 => ?_
  simp only [pr] at k1
  obtain ⟨b, eb, qb⟩ := oB_ok S1 k1
  obtain ⟨ty, g1, g2⟩ := kit_v fa S1 r eb
  exact ⟨u, .ty (tyN t), ty, .type (tyN t), b, rfl, .ty _, g1, g2, qb⟩
theorem s_isc {c : Nat} {d : Cl} {p p1 p2 : Pos} (fa : ∀ (c : Nat) (d : Cl), T.cls[c]? = some d → ClF T X.K X.mg d) (kC : ∀ (c : Nat) (d : Cl) (c' : Nat) (d' : Cl), T.cls[c]? = some d → T.cls[c']? = some d' → PySem.W.kitOne X.K (.ref d.ad) (.ref d'.ad) = some (decide (c = c'))) (nfC : ∀ (c : Nat) (d : Cl) (c' : Nat) (d' : Cl), T.cls[c]? = some d → T.cls[c']? = some d' → PySem.W.notFirst X.K d.ad (.ref d'.ad) = true)
    (hg : Gl X ("isinstance" : Str)) (hm : X.mg ("isinstance" : Str) = none) (hg2 : Gl X d.nm) (hn : nameB d.nm = true) (hd : T.cls[c]? = some d) (ha : SE X (T.cn Z) W (ev F x) a) :
    SE X (T.cn Z) W (ev F (.prim (.isc [c]) [x])) (.Call (.Name ("isinstance" : Str) p) [a, .Name d.nm p2] [] pos) := by
  have e2 : ev F (.prim (.isc [c]) [x]) = fun e h => (ev F x e h).bind fun v h1 => pr (.isc [c]) [v] h1 := by
    rw [ev_prim]
    funext e h
    exact evs1
  rw [e2]
  have pb : PE X (.Name d.nm p2) (tC (.ref d.ad)) := pe_glob hg2 (fa c d hd).nm rfl (nameB_d hn)
  refine .of_pe (PE.imp (pe_callB call_isi hg hm (by rfl) (pa_cons ha.pe (pa_cons pb pa_nil (by rfl)) (ha.st _ _)) (by decide) (by decide) (ha.st _ _) (by rfl)) fun σ H Q q => ?_) (fun _ => rfl) (fun _ _ => rfl) (fun _ _ => rfl)
  obtain ⟨e, h, ρ, S, SE, k⟩ := q
  refine tM_first S SE k fun v h1 u H1 ρ1 x1 S1 SE1 r k1 => ?_
  simp only [pr] at k1
  obtain ⟨b, eb, qb⟩ := oB_ok S1 k1
  obtain ⟨ty, g1, g2, _⟩ := kit_o' fa kC S1 r eb hd nfC
  exact ⟨u, .ref d.ad, ty, .ref d.ad, b, rfl, .own _, g1, g2, qb⟩
end
end L3
/-! L3: != by the text's own ==. -/
namespace PySem.W
open PySem PySem.Calls PyProof.Rows Builtin
section
variable {prog : Program} {w : World} {A : Around} {E : Value → Shared → Prop} {s : Shared} {K : Frag} {x C L f : Addr} {h₀ : Heap} {m : Str → Option Value} {ox : Obj} {od : Option Obj} {b tb : Value}
/-- the slot bound, whatever the class -/
theorem bound_slot {M : Model} {name : Str} {id T : String} {args : List Value} {Q : Option Value → Shared → Prop} (X : K.In s.heap) (I : InstAt s.heap x ox C od) (hs : findIn K (.ref C) name = some (some (.builtin id))) (S : Slot T name id)
    (h : wpAny M A (call (.builtin id) (.ref x :: args)) (fun v => Q (some v)) E s) : wpAny M A (callSpecialIfBound? (.ref x) name args) Q E s := by
  simp only [callSpecialIfBound?, bindSpecialIfBound?]
  refine wpAny_holding (wpAny_bind (wpAny_bind (wpAny_bind (I.type.here ((looks_findIn X hs).here ?_)))))
  simp only [S.bind]
  refine wpAny_bind (wpAny_askSetting (wpAny_ite ?_))
  have fin : wpAny M A (call (.builtin id) ([.ref x] ++ args) >>= fun v => pure (some v)) Q E s := wpAny_bind (wpAny_mono h (fun v s' h' => wpAny_pure h') fun _ _ h' => h')
  split
  · exact wpAny_bind (wpAny_pure (wpAny_pure (by exact fin)))
  · exact wpAny_tryCatch (wpAny_bind (wpAny_pure (wpAny_pure (by exact fin))))
theorem ne_entry {Q : Fin → Shared → Prop} (hu : A.units < cLine) (X : K.In s.heap) (I : InstAt s.heap x ox C od) (he : findIn K (.ref C) "__eq__" = some (some (.ref f))) (hf : isFn K (.ref f) = true)
    (h : wpAny (model prog w) A (call (.ref f) [.ref x, b]) (fun v s' => ∃ r, v = .bool r ∧ Q (.done (.ret (.bool (!r)))) s') E s) : wpAny (model prog w) A (Builtin.«object.__ne__» ⟨[.ref x, b], []⟩) Q E s := by
  unfold Builtin.«object.__ne__»
  repeat (first
    | with_reducible refine wpAny_cRoomFor hu ?_
    | (refine wpAny_bind (m := callSpecialIfBound? (.ref x) (Str.ofString "__eq__") [b])
        (ifBound_K X I he hf (wpAny_mono h (fun r s' hr => by
          obtain ⟨b, rfl, hq⟩ := hr
          repeat (first | exact hq | exact wpAny_pure hq | exact wpAny_truthy_bool hq | (refine wpAny_bind (m := truthy (.bool _)) (wpAny_truthy_bool ?_)) | wp_step)) fun _ _ e => e)))
    | wp_step)
theorem ne_K {Q : Value → Shared → Prop} (hu : A.units + 1 < cLine) (Fz : Fr h₀ L s.heap m) (X₀ : K.In h₀) (I : InstAt s.heap x ox C od) (hb : Looks (model prog w) s.heap (typeOf b) tb) (hn : notFirst K C tb = true)
    (hs : findIn K (.ref C) "__ne__" = some (some (.builtin "object.__ne__"))) (he : findIn K (.ref C) "__eq__" = some (some (.ref f))) (hf : isFn K (.ref f) = true) (ho : subIn K (.ref C) (.type "object") = some true)
    (h : wpAny (model prog w) A.in1 (call (.ref f) [.ref x, b]) (fun v s' => ∃ r, v = .bool r ∧ Q (.bool (!r)) s') E s) : wpAny (model prog w) A (richCompare .NotEq (.ref x) b) Q E s := by
  have X := X₀.keeps Fz.keep
  have one : wpAny (model prog w) A (tryCompare (.ref x) (cmpInfo .NotEq).2.1 b) (fun r s' => ∃ v, r = some v ∧ Q v s') E s := by
    unfold tryCompare
    refine wpAny_bind (bound_slot X I hs F.cmp_object.ne (wpAny_call (codeAny_call_builtin F.cmp_object.ne.plain F.cmpEntry_ne (check_slot F.cmpKind_ne F.cmpSplit_ne ?_ (F.cmpArgs_ne _ _) ?_))))
    · exact I.type.andThen (looks_subIn X ho)
    · refine ne_entry (A := A.in1) hu X I he hf (wpAny_mono h (fun v s' hv => ?_) fun _ _ e => e)
      obtain ⟨r, rfl, q⟩ := hv
      first | exact ⟨r, rfl, wpAny_pure ⟨_, rfl, q⟩⟩ | exact ⟨r, rfl, wpAny_pure (wpAny_pure ⟨_, rfl, q⟩)⟩ | exact ⟨r, rfl, ⟨_, rfl, q⟩⟩
  unfold richCompare
  simp only [oneThing_ref]
  refine wpAny_holding (wpAny_bind (wpAny_cRoomFor (Nat.lt_of_succ_lt hu) ?_))
  refine wpAny_bind (I.type.here (wpAny_bind (hb.here ?_)))
  split
  · rename_i q
    have e : subIn K tb (.ref C) = some false := by
      rcases Bool.or_eq_true_iff.mp hn with e | e
      · rw [beq_iff_eq.mp e] at q; simp at q
      · exact beq_iff_eq.mp e
    refine wpAny_bind ((looks_subIn X e).here ?_)
    simp only [Bool.false_eq_true, if_false]
    refine wpAny_bind (wpAny_mono one (fun r s' z => ?_) fun _ _ e => e)
    obtain ⟨v, rfl, hq⟩ := z
    exact wpAny_pure hq
  · refine wpAny_bind (wpAny_pure ?_)
    simp only [Bool.false_eq_true, if_false]
    refine wpAny_bind (wpAny_mono one (fun r s' z => ?_) fun _ _ e => e)
    obtain ⟨v, rfl, hq⟩ := z
    exact wpAny_pure hq
end
end PySem.W
/-! L3: attributes, calls of the program's own defs, instances made, own ==. -/
namespace L3
open PySem PySem.Spec PyProof.Rows L2

section
variable {T : Tb} {Z : Addr → Prop} {F : Nat → List Vl → Hs → Out Vl} {N : List Str} {sc : Scope} {k : Nat} {X : Cx} {C : Cn} {W : WX} {e a b : Expr} {x y : Ex} {pos : Pos}
/-- the i-th attribute, by its name -/
theorem lookup_at : ∀ {l : List (Str × V)} {i : Nat} {n : Str} {v : V}, (l.map (·.1)).Nodup → (l.map (·.1))[i]? = some n → (l.map (·.2))[i]? = some v → l.lookup n = some v
  | [], _, _, _, _, e, _ => by simp at e
  | (m, u) :: r, 0, n, v, _, e1, e2 => by
    simp at e1 e2
    subst e1
    subst e2
    simp [List.lookup]
  | (m, u) :: r, i + 1, n, v, nd, e1, e2 => by
    simp only [List.map_cons, List.nodup_cons] at nd
    have e1' : (r.map (·.1))[i]? = some n := by simpa using e1
    have e2' : (r.map (·.2))[i]? = some v := by simpa using e2
    have hne : (n == m) = false := by
      refine beq_eq_false_iff_ne.mpr fun z => ?_
      subst z
      exact nd.1 (List.mem_of_getElem? e1')
    rw [List.lookup_cons, hne]
    exact lookup_at nd.2 e1' e2'
/-- an object read -/
theorem obj_ok {ρ : List Addr} {h : Hs} {H : Hp} {v : Vl} {u : V} {c : Nat} {fs : List Vl} (S : Sim X.K (T.cn Z) ρ h H) (r : RepV X.K (T.cn Z) ρ h H v u) (e : objOf v h = some (c, fs)) (hx : ∀ c fs, v ≠ .d (.exc c fs)) :
    ∃ d p dx l, T.cls[c]? = some d ∧ u = .ref p ∧ H p = some (.ins d.ad dx l) ∧ l.map (·.1) = d.fl.take fs.length ∧ RepVs X.K (T.cn Z) ρ h H fs (l.map (·.2)) := by
  unfold objOf at e
  split at e
  · cases e
    cases r with
    | ins ek na eh el er =>
      obtain ⟨d, e2⟩ := cl_of ek
      rw [ca_of e2] at eh
      rw [fl_of e2] at el
      exact ⟨d, _, _, _, e2, rfl, eh, by rw [List.length_map]; exact el, ds_of_reps er⟩
  · exact absurd rfl (hx _ _)
  · rename_i n
    obtain ⟨p, hp, rfl⟩ := r
    split at e
    · rename_i c' fs' hc
      cases e
      obtain ⟨dx, l, ek, e3, e4, e5⟩ := S.ok _ _ p hc hp
      obtain ⟨d, e2⟩ := cl_of ek
      rw [ca_of e2] at e3
      rw [fl_of e2] at e4
      exact ⟨d, p, dx, l, e2, rfl, e3, e4, e5⟩
    · cases e
  · cases e
theorem rep_noexc {ρ : List Addr} {h : Hs} {H : Hp} {v : Vl} {u : V} (r : RepV X.K C ρ h H v u) : ∀ c fs, v ≠ .d (.exc c fs) := by
  intro c fs z
  subst z
  cases r
/-- o.x -/
theorem s_attr {c i : Nat} {n : Str} {d : Cl} (fa : ∀ (c : Nat) (d : Cl), T.cls[c]? = some d → ClF T X.K X.mg d) (hd : T.cls[c]? = some d) (hi : d.fl[i]? = some n) (ha : SE X (T.cn Z) W (ev F x) a) (hb : attributeBase a n X.env (eval a X.env) = eval a X.env) :
    SE X (T.cn Z) W (ev F (.attr c i n x)) (.Attribute a n pos) := by
  have e : ev F (.attr c i n x) = fun e h => (ev F x e h).bind fun v h1 => match objOf v h1 with
    | some (k, fs) => if k = c then match fs[i]? with
        | some u => .ok u h1
        | none => .bad
      else .bad
    | none => .bad := by
    funext e h
    rw [ev]
    all_goals congr 1
  rw [e]
  refine .of_pe (PE.imp (pe_fld ha.pe hb) fun σ H Q q => ?_) (fun _ => rfl) (fun _ _ => rfl) (fun _ _ => rfl)
  obtain ⟨e, h, ρ, S, SE, k⟩ := q
  refine tM_first S SE k fun v h1 u H1 ρ1 x1 S1 SE1 r k1 => ?_
  cases eo : objOf v h1 with
  | none =>
    rw [eo] at k1
    exact k1.elim
  | some o =>
    obtain ⟨c', fs⟩ := o
    rw [eo] at k1
    dsimp only at k1
    split at k1
    · rename_i hc
      subst hc
      cases ef : fs[i]? with
      | none =>
        rw [ef] at k1
        exact k1.elim
      | some w =>
        rw [ef] at k1
        obtain ⟨d', p, dx, l, e1, rfl, e2, e3, e4⟩ := obj_ok S1 r eo (rep_noexc r)
        rw [hd] at e1
        cases e1
        have f := fa _ _ hd
        obtain ⟨z, ez, rz⟩ := Paired.get' e4 ef
        have hil : i < fs.length := (List.getElem?_eq_some_iff.mp ef).1
        have en : (l.map (·.1))[i]? = some n := by
          rw [e3, List.getElem?_take_of_lt hil]
          exact hi
        have nd : (l.map (·.1)).Nodup := by
          rw [e3]
          exact f.nd.sublist (List.take_sublist _ _)
        exact ⟨p, d.ad, dx, l, z, rfl, e2, f.cl, f.no n (List.mem_of_getElem? hi), lookup_at nd en ez, okV_v S1 k1 rz⟩
    · exact k1.elim
/-- f(..) -/
theorem s_call {f : Nat} {d : Fn} {es : List Expr} {as : List Ex} {p : Pos} (fa : Facts T F X.prog X.w X.K X.mg X.base k) (hr : Room k X.A) (ng : NoG X.A) (tk : Takes X W) (hd : T.fns[f]? = some d) (hl : d.lev ≤ k) (hne : d.nm ≠ Str.empty) (hn : nameB d.nm = true) (hg : Gl X d.nm)
    (ha : AllE F X (T.cn Z) W as es) (hlen : es.length = d.ps.length) : SE X (T.cn Z) W (ev F (.call f as)) (.Call (.Name d.nm p) es [] pos) := by
  have e : ev F (.call f as) = fun e h => (evs F as e h).bind fun vs h1 => F f vs h1 := by
    funext e h
    rw [ev]
  rw [e]
  obtain ⟨fd, Fn, Bn⟩ := fa.fn f d hd hl
  obtain ⟨gm, gk⟩ := fa.fnG f d hd hne
  have key : ∀ σ H Q, tM X.K (T.cn Z) W (fun e h => (evs F as e h).bind fun vs h1 => F f vs h1) σ H Q → tCallS (spOf X.K T d.ps.length (F f)) (WE W) (tMs X.K (T.cn Z) W (evs F as)) σ H Q := by
    intro σ H Q ⟨e, h, ρ, S, SE, k⟩
    refine tMs_firstE S SE k fun v h1 u H1 ρ1 ee x1 S1 SE1 r k1 => ?_
    exact ⟨Z, h1, ρ1, v, by rw [evs_len ee, ha.len]; exact hlen, S1, r, k1⟩
  cases es with
  | nil =>
    refine .of_pe ⟨fun pins s σ H Q I q => ?_⟩ (fun _ => rfl) (fun _ _ => rfl) (fun _ _ => rfl)
    have q' := key σ H Q q
    cases as with
    | cons _ _ => exact ha.elim
    | nil =>
      obtain ⟨e, h, ρ, S, SE, k⟩ := q'
      rw [evs] at k
      have k' := k [] H ρ Ext.refl S .nil
      refine wpAny_Call_Name_kw (ld_glob I hg gm ?_ (nameB_d hn))
      exact PySem.W.callWith_K0 I.kIn gk (run_g (E := WE W) (us := []) (Fn.mono hl) hr ng Bn (passAt tk σ) I .nil k')
  | cons e0 es =>
    cases as with
    | nil => exact ha.elim
    | cons x0 as =>
      exact .of_pe (PE.imp (pe_callG (Fn.mono hl) hr ng hg gm gk Bn (passAt tk) ha.pa (nameB_d hn) (ha.1.st _ _) (noStars ha.2)) key) (fun _ => rfl) (fun _ _ => rfl) (fun _ _ => rfl)
/-- C(..): like run_make, the wish of exceptions at these slots -/
theorem run_makeS {Cc f : Addr} {fd : FuncData} {ps : List Str} {sp : Sp} {E : L2.St → XK} {pins : List (Addr × Obj)} {σ : L2.St} {H : Hp} {s : Shared} {Q : VK} {us : List Value} {vs : List V} (M : L2.Mk X.K Cc f) (Fo : FnG X.prog X.w X.K X.mg X.base (CX X.prog X.w) k f fd ps sp) (hr : Room (k + 1) X.A) (ng : NoG X.A) (hb : Binds X.K fd ps [])
    (hx : PassesAt (CX X.prog X.w) X σ (E σ)) (I : Inv X pins σ H s) (r : Vals vs us)
    (h : ∀ x dx, H x = none → H dx = none → dx ≠ x → sp (.ref x :: vs) (upd (upd H dx (.own x)) x (.ins Cc dx [])) (fun v H2 => v = .non ∧ Q (.ref x) H2) (E σ)) :
    wpAny (model X.prog X.w) X.A (call (.ref Cc) us) (EP X pins σ Q) X.xe s := by
  have hq := h (s.heap.objs.size + 1) s.heap.objs.size (I.hok.fresh (Nat.le_succ _)) (I.hok.fresh (Nat.le_refl _)) (Nat.ne_of_lt (Nat.lt_succ_self _))
  have I2 := Inv.made (C := Cc) I
  have r2 : Vals (V.ref (s.heap.objs.size + 1) :: vs) (Value.ref (s.heap.objs.size + 1) :: us) := .cons rfl r
  have hl : (Value.ref (s.heap.objs.size + 1) :: us).length = ps.length := by
    have e := r2.length
    rw [Fo.len _ _ _ _ hq] at e
    exact e.symm
  have hb' := hb _ (Value.ref (s.heap.objs.size + 1) :: us) I2.kIn (by rw [List.append_nil]; exact hl)
  rw [List.append_nil] at hb'
  refine wpAny_call (make_map (f := f) I.kIn M.makes M.init (beq_iff_eq.mp M.fn) (codeAny_mono (Fo.run _ X.stack _ _ ⟨Value.ref (s.heap.objs.size + 1) :: us, []⟩ (Value.ref (s.heap.objs.size + 1) :: us) _ _ (E σ) (hr.make Cc us []) (ng.make Cc us [])
    (I2.env0.make Cc us []) hb' r2 hq) fun r s' hq' => ?_))
  cases r with
  | error e => exact hx pins _ _ e s' I2 hq'
  | ok fl =>
    cases fl with
    | ret u =>
      obtain ⟨v, H', I3, rv, ev, q3⟩ := I2.after hq'
      subst ev
      exact ⟨rv, ⟨V.ref (s.heap.objs.size + 1), H', I3, rfl, q3⟩⟩
    | next => exact False.elim hq'
    | brk => exact False.elim hq'
    | cont => exact False.elim hq'
/-- what stands behind __init__ -/
def newK (m : Bool) (n : Nat) (w : Vl) (h2 : Hs) : Out Vl := match w with
  | .d .non => if m = true then .ok (.r n) h2 else freeze (.r n) h2
  | _ => .bad
theorem s_new {m : Bool} {c f : Nat} {d : Cl} {df : Fn} {es : List Expr} {as : List Ex} {p : Pos} (fa : Facts T F X.prog X.w X.K X.mg X.base k) (hr : Room k X.A) (ng : NoG X.A) (tk : Takes X W) (hc : T.cls[c]? = some d) (hi : d.ini = f) (hd : T.fns[f]? = some df) (hl : df.lev + 1 ≤ k) (hn : nameB d.nm = true) (hg : Gl X d.nm)
    (ha : AllE F X (T.cn Z) W as es) (hlen : es.length + 1 = df.ps.length) : SE X (T.cn Z) W (ev F (.new m c f as)) (.Call (.Name d.nm p) es [] pos) := by
  have e : ev F (.new m c f as) = fun e h => (evs F as e h).bind fun vs h1 => (F f (.r h1.length :: vs) (h1 ++ [.ins c []])).bind (newK m h1.length) := by
    funext e h
    rw [ev]
    rfl
  rw [e]
  have cf := fa.cls c d hc
  obtain ⟨fd, Fn, Bn⟩ := fa.fn f df hd (by omega)
  obtain ⟨f', e1, M⟩ := cf.mkr
  rw [hi, hd] at e1
  cases e1
  -- what is wanted of the call, by the arguments
  have key : ∀ σ H Q, tM X.K (T.cn Z) W (fun e h => (evs F as e h).bind fun vs h1 => (F f (.r h1.length :: vs) (h1 ++ [.ins c []])).bind (newK m h1.length)) σ H Q → tMs X.K (T.cn Z) W (evs F as) σ H fun vs H1 => ∀ x dx, H1 x = none → H1 dx = none → dx ≠ x →
      spOf X.K T df.ps.length (F f) (.ref x :: vs) (upd (upd H1 dx (.own x)) x (.ins d.ad dx [])) (fun v H2 => v = .non ∧ ∀ pins s, Inv X pins σ H2 s → ∃ H', Inv X pins σ H' s ∧ Q (.ref x) H') (WE W σ) := by
    intro σ H Q ⟨e, h, ρ, S, SE, k⟩
    refine tMs_firstE S SE k fun v h1 u H1 ρ1 ee x1 S1 SE1 r k1 => ?_
    intro x dx nx ndx hne
    have S2 : Sim X.K (T.cn Z) ρ1 h1 (upd H1 dx (.own x)) := S1.same (upd_keeps ndx)
    have x2 : L3.Ext (T.cn Z) ρ1 h1 H1 ρ1 h1 (upd H1 dx (.own x)) := ext_same S1 (upd_keeps ndx)
    have nx2 : upd H1 dx (.own x) x = none := by rw [upd_ne (Ne.symm hne)]; exact nx
    have x3 := ext_cell (o := .ins d.ad dx []) (c := .ins c []) S2 nx2
    have S3 : Sim X.K (T.cn Z) (ρ1 ++ [x]) (h1 ++ [.ins c []]) (upd (upd H1 dx (.own x)) x (.ins d.ad dx [])) := S2.cell nx2 ⟨dx, [], by
      show (T.cls[c]?).isSome = true
      rw [hc]
      rfl, by rw [ca_of hc]; exact upd_same, by simp, .nil⟩
    have x23 := x2.trans x3
    have hx : (ρ1 ++ [x])[h1.length]? = some x := by
      rw [← S1.len, List.getElem?_append_right (Nat.le_refl _), Nat.sub_self]
      rfl
    refine ⟨Z, _, _, .r h1.length :: v, by rw [List.length_cons, evs_len ee, ha.len]; exact hlen, S3, .cons ⟨x, hx, rfl⟩ (r.mono x23), ?_⟩
    refine OkO.first (OkO.mono x23 k1) fun w h2 z H2 ρ2 x4 S4 r4 k4 => ?_
    unfold newK at k4
    split at k4
    · refine ⟨repV_non r4, fun pins s I => ?_⟩
      have rx : RepV X.K (T.cn Z) ρ2 h2 H2 (.r h1.length) (.ref x) := ⟨x, x4.pre _ _ hx, rfl⟩
      split at k4
      · exact ⟨H2, I, okV_v S4 k4 rx⟩
      · exact freeze_ok I S4 rx k4
    · exact k4.elim
  have fin : ∀ {pins : List (Addr × Obj)} {σ : L2.St} {H1 : Hp} {s : Shared} {us : List Value} {vs : List V} {Q : VK}, Inv X pins σ H1 s → Vals vs us → (∀ x dx, H1 x = none → H1 dx = none → dx ≠ x →
      spOf X.K T df.ps.length (F f) (.ref x :: vs) (upd (upd H1 dx (.own x)) x (.ins d.ad dx [])) (fun v H2 => v = .non ∧ ∀ pins s, Inv X pins σ H2 s → ∃ H', Inv X pins σ H' s ∧ Q (.ref x) H') (WE W σ)) →
      wpAny (model X.prog X.w) X.A (call (.ref d.ad) us) (EP X pins σ Q) X.xe s := by
    intro pins σ H1 s us vs Q I r q
    refine thn (run_makeS (E := WE W) (Q := fun u H2 => ∀ pins s, Inv X pins σ H2 s → ∃ H', Inv X pins σ H' s ∧ Q u H') M Fn (hr.mono hl) ng Bn (passAt tk σ) I r q) fun u s' ⟨v, H2, I2, rv, g⟩ => ?_
    obtain ⟨H3, I3, q3⟩ := g pins s' I2
    exact ⟨v, H3, I3, rv, q3⟩
  cases es with
  | nil =>
    refine .of_pe ⟨fun pins s σ H Q I q => ?_⟩ (fun _ => rfl) (fun _ _ => rfl) (fun _ _ => rfl)
    have q' := key σ H Q q
    cases as with
    | cons _ _ => exact ha.elim
    | nil =>
      obtain ⟨e, h, ρ, S, SE, k⟩ := q'
      rw [evs] at k
      have k' := k [] H ρ Ext.refl S .nil
      refine wpAny_Call_Name_kw (ld_glob I hg cf.nm ?_ (nameB_d hn))
      exact PySem.W.callWith_K0 I.kIn M.kp (fin I .nil k')
  | cons e0 es =>
    cases as with
    | nil => exact ha.elim
    | cons x0 as =>
      refine .of_pe ⟨fun pins s σ H Q I q => ?_⟩ (fun _ => rfl) (fun _ _ => rfl) (fun _ _ => rfl)
      refine wpAny_Call_Name_kw (ld_glob I hg cf.nm ?_ (nameB_d hn))
      exact PySem.W.callWith_K (h₀ := X.base) I.ok.mod.kin M.kp (thn (ha.pa.run pos pins s σ H _ I (key σ H Q q)) fun us s1 ⟨vs, H1, I1, r, q⟩ => ⟨I1.kIn, fin I1 r q⟩) (ha.1.st _ _) (noStars ha.2)
/-! ### a property read -/
theorem okV_noEx {K : PySem.W.Frag} {C : Cn} {ρ : List Addr} {h : Hs} {H : Hp} {o : Out Vl} {Q : VK} {E : XK} (k : OkV K C ρ h H (noEx o) Q E) : OkV K C ρ h H o Q fun _ _ _ => False := by
  cases o with
  | ok v h1 => exact k
  | ex x h1 => exact k.elim
  | bad => exact k.elim
theorem getpropG {Cc g q a dx : Addr} {fs : List (Str × V)} {fd : FuncData} {ps : List Str} {sp : Sp} {n : Str} {pins : List (Addr × Obj)} {σ : L2.St} {H : Hp} {s : Shared} {Q : VK} {b : Bool} {E' : Value → Shared → Prop} (I : Inv X pins σ H s) (ea : H a = some (.ins Cc dx fs)) (c : Cls X.K Cc) (hp : PropOf X.K Cc n q g)
    (Fo : FnG X.prog X.w X.K X.mg X.base (L2.CX X.prog X.w) k g fd ps sp) (hr : Room (k + 1) X.A) (ng : NoG X.A) (hb : Binds X.K fd ps []) (h : sp [.ref a] H Q fun _ _ _ => False) :
    wpAny (model X.prog X.w) X.A (getAttr (.ref a) n b) (EP X pins σ Q) E' s := by
  obtain ⟨mA, O, _, _, _, _⟩ := ins_get I.hok ea
  obtain ⟨od, J, _⟩ := O.look
  obtain ⟨rest, hrec⟩ := hp.rec_
  have I1 := I.tok (s.toks + 1)
  have hl : ([Value.ref a] ++ ([] : List Value)).length = ps.length := (Fo.len _ _ _ _ h)
  have bs := hb _ [.ref a] I1.kIn hl
  rw [List.append_nil] at bs
  have hc : (PySem.W.clsIn X.K Cc).isSome = true := by
    obtain ⟨cd, hc, _⟩ := PySem.W.any_some c.hd
    rw [hc]
    rfl
  refine PySem.W.get_bind I.kIn J (PySem.W.plainGet_of (c.get n)).1 (PySem.W.findObj_data hc hp.at_ hp.get hp.tak) (PySem.W.plainGet_of (c.get n)).2 (wpAny_call (PySem.W.prop_get (s := { s with toks := s.toks + 1 }) I.kIn hrec ?_))
  refine codeAny_mono (Fo.run X.A.in1 X.stack { s with toks := s.toks + 1 } H ⟨[.ref a], []⟩ [.ref a] [.ref a] Q (fun _ _ _ => False) hr.in1 ng.in1 I1.env0.in1 bs (.cons rfl .nil) h) fun r s' hq => ?_
  cases r with
  | error er =>
    obtain ⟨_, _, _, _, _, _, _, _, _, _, _, _, z⟩ := hq
    exact z.elim
  | ok fl =>
    cases fl with
    | ret u =>
      obtain ⟨v, H', I3, rv, q3⟩ := I1.after hq
      show wpAny _ _ (handedOut u) _ _ _
      rw [PySem.W.handedOut_of (handed_of rv)]
      exact wpAny_pure ⟨v, H', I3, rv, q3⟩
    | next => exact hq.elim
    | brk => exact hq.elim
    | cont => exact hq.elim
theorem s_pro {c f : Nat} {n : Str} {d : Cl} {df : Fn} (fa : Facts T F X.prog X.w X.K X.mg X.base k) (hr : Room k X.A) (ng : NoG X.A) (hc : T.cls[c]? = some d) (hm : (n, f) ∈ d.pr) (hd : T.fns[f]? = some df) (hl : df.lev + 1 ≤ k) (h1 : df.ps.length = 1) (ha : SE X (T.cn Z) W (ev F x) a) (hab : attributeBase a n X.env (eval a X.env) = eval a X.env) :
    SE X (T.cn Z) W (ev F (.pro c n f x)) (.Attribute a n pos) := by
  have e : ev F (.pro c n f x) = fun e h => (ev F x e h).bind fun v h1 => if isObj c v h1 then noEx (F f [v] h1) else .bad := by
    funext e h
    rw [ev]
  rw [e]
  obtain ⟨fd, Fn, Bn⟩ := fa.fn f df hd (by omega)
  have cf := fa.cls c d hc
  obtain ⟨f', q, e1, hp⟩ := cf.pr _ hm
  rw [hd] at e1
  cases e1
  refine .of_pe ⟨fun pins s σ H Q I z => ?_⟩ (fun _ => rfl) (fun _ _ => rfl) (fun _ _ => rfl)
  refine attr_of hab (thn (ha.pe.run pins s σ H (fun x H1 => ∃ a dx fs, x = .ref a ∧ H1 a = some (.ins d.ad dx fs) ∧ spOf X.K T df.ps.length (F f) [.ref a] H1 Q fun _ _ _ => False) I ?_) fun u s1 ⟨x, H1, I1, rx, a, dx, fs, ex, ea, z⟩ => ?_)
  · obtain ⟨e, h, ρ, S, SE, k⟩ := z
    refine tM_first S SE k fun v h1 u H1 ρ1 x1 S1 SE1 r k1 => ?_
    split at k1
    · rename_i ho
      have hobj : ∃ fs, objOf v h1 = some (c, fs) := by
        unfold isObj at ho
        split at ho
        · rename_i k' fs eo
          have : k' = c := eq_of_beq ho
          exact ⟨fs, this ▸ eo⟩
        · cases ho
      obtain ⟨fs, eo⟩ := hobj
      obtain ⟨d', p, dx, l, e1, rfl, e2, _, _⟩ := obj_ok S1 r eo (rep_noexc r)
      rw [hc] at e1
      cases e1
      exact ⟨p, dx, l, rfl, e2, Z, h1, ρ1, [v], by rw [‹df.ps.length = 1›]; rfl, S1, .cons r .nil, okV_noEx k1⟩
    · exact k1.elim
  · subst ex
    obtain rfl : u = Value.ref a := rx
    exact getpropG I1 ea cf.cl hp (Fn.mono (Nat.le_refl _)) (hr.mono hl) ng Bn z
/-! ### == and != of the program's own objects -/
def eqOp (n : Bool) : CmpOp := if n = true then .NotEq else .Eq
/-- the call of the text's own == at a place below the body -/
theorem run_eq {f : Nat} {df : Fn} {fd : FuncData} {A : Around} (Fo : FnG X.prog X.w X.K X.mg X.base (CX X.prog X.w) k df.ad fd df.ps (spOf X.K T df.ps.length (F f))) (Bn : Binds X.K fd df.ps []) (hA : Room k A) (ng : NoG A) (hf : A.frames = X.A.frames) (h2 : df.ps.length = 2) {σ : L2.St} (tk : Takes X W)
    {pins : List (Addr × Obj)} {s : Shared} {H : Hp} {a b : Vl} {x y : V} {v u : Value} {Q : VK} {h : Hs} {ρ : List Addr} (I : Inv X pins σ H s) (rx : RelV x v) (ry : RelV y u) (S : Sim X.K (T.cn Z) ρ h H) (ra : RepV X.K (T.cn Z) ρ h H a x) (rb : RepV X.K (T.cn Z) ρ h H b y)
    (q : OkV X.K (T.cn Z) ρ h H (F f [a, b] h) Q (WE' W σ)) : wpAny (model X.prog X.w) A (call (.ref df.ad) [v, u]) (EP X pins σ Q) X.xe s := by
  have e0 : Env0 X.prog X.w X.K X.mg X.base A X.stack s H := by
    have e := I.env0
    exact ⟨by rw [hf]; exact e.frames, e.mod, e.bs, e.bsz, e.funs, e.frf, e.hok, e.bare⟩
  have hb := Bn s [v, u] I.kIn (by rw [List.append_nil]; exact h2.symm)
  rw [List.append_nil] at hb
  have r2 : Vals [x, y] [v, u] := .cons rx (.cons ry .nil)
  refine wpAny_call (codeAny_mono (Fo.run A X.stack s H ⟨[v, u], []⟩ [v, u] [x, y] Q (WE' W σ) hA ng e0 hb r2 ⟨Z, h, ρ, [a, b], h2.symm, S, .cons ra (.cons rb .nil), q⟩) fun r s' hq => ?_)
  cases r with
  | error e => exact passAt tk σ pins H s e s' I hq
  | ok fl =>
    cases fl with
    | ret w => exact I.after hq
    | next => exact False.elim hq
    | brk => exact False.elim hq
    | cont => exact False.elim hq
theorem o_eqO {c f : Nat} {n : Bool} {d : Cl} {df : Fn} (fa : Facts T F X.prog X.w X.K X.mg X.base k) (hr : Room k X.A) (ng : NoG X.A) (hc : T.cls[c]? = some d) (he : d.eq = some f) (hd : T.fns[f]? = some df) (hl : df.lev + 1 ≤ k) (h2 : df.ps.length = 2) {σ : L2.St} (tk : Takes X W)
    {pins : List (Addr × Obj)} {s : Shared} {H : Hp} {a b : Vl} {x y : V} {v u : Value} {Q : VK} {h : Hs} {ρ : List Addr} (I : Inv X pins σ H s) (rx : RelV x v) (ry : RelV y u) (S : Sim X.K (T.cn Z) ρ h H) (ra : RepV X.K (T.cn Z) ρ h H a x) (rb : RepV X.K (T.cn Z) ρ h H b y) (ho : isObj c a h = true) (hk : (isCV [c] b h).isSome = true)
    (q : OkV X.K (T.cn Z) ρ h H ((F f [a, b] h).bind fun w h3 => asB w h3 fun k h3 => .ok (.d (.bl (k != n))) h3) Q (WE' W σ)) : wpAny (model X.prog X.w) X.A (compareOp (eqOp n) v u) (EP X pins σ Q) X.xe s := by
  obtain ⟨fd, Fn, Bn⟩ := fa.fn f df hd (by omega)
  have cf := fa.cls c d hc
  obtain ⟨t, et⟩ := Option.isSome_iff_exists.mp hk
  obtain ⟨ty, g1, g2, g3⟩ := kit_o' fa.cls fa.kC S rb et hc fa.nfC
  obtain ⟨P, KX, pp, _⟩ := kit_of I ry g1
  obtain ⟨df', ed, eq1, eq2, ne1⟩ := cf.eq f he
  rw [hd] at ed
  cases ed
  -- the receiver
  have hobj : ∃ fs, objOf a h = some (c, fs) := by
    unfold isObj at ho
    split at ho
    · rename_i k' fs e
      have : k' = c := eq_of_beq ho
      subst this
      exact ⟨fs, e⟩
    · cases ho
  obtain ⟨fs, eo⟩ := hobj
  obtain ⟨d', p, dx, l, e1, rfl, e2, _, _⟩ := obj_ok S ra eo (rep_noexc ra)
  rw [hc] at e1
  cases e1
  cases rx
  obtain ⟨mA, J, _⟩ := ins_get I.hok e2
  obtain ⟨od, J, _⟩ := J.look
  obtain ⟨m, hF⟩ := I.fr
  have hb : PySem.W.Looks (model X.prog X.w) s.heap (typeOf u) ty := KX.ty _ _ I.kIn pp
  -- what the call gives
  have q' : OkV X.K (T.cn Z) ρ h H (F f [a, b] h) (fun w H2 => ∃ b, w = .bl b ∧ Q (.bl (b != n)) H2) (WE' W σ) := by
    refine OkO.first q fun w h3 z H3 ρ3 x3 S3 r3 k3 => ?_
    obtain ⟨t, e4, k4⟩ := asB_ok k3
    subst e4
    exact ⟨t, repV_bl r3, okV_d S3 k4 (.bl _)⟩
  have hu := hr.units0
  cases n with
  | false =>
    refine PySem.W.cmp_K (op := .Eq) (tb := ty) hu hF I.ok.mod.kin J hb g3 eq1 eq2 ?_
    refine thn (run_eq (Fn.mono (by omega)) Bn hr ng rfl h2 tk I (show RelV (.ref p) (.ref p) from rfl) ry S ra rb q') fun w s1 ⟨z, H1, I1, rz, b', ez, qz⟩ => ?_
    subst ez
    cases rz
    show EP X pins σ Q (.bool b') s1
    exact ⟨.bl b', H1, I1, rfl, by rw [Bool.bne_false] at qz; exact qz⟩
  | true =>
    have hu1 : X.A.units + 1 < cLine := by have := hr.units; omega
    refine PySem.W.ne_K (tb := ty) hu1 hF I.ok.mod.kin J hb g3 ne1 eq1 eq2 cf.i5 ?_
    refine thn (run_eq (Fn.mono (Nat.le_refl _)) Bn ((hr.mono hl).in1) ng.in1 rfl h2 tk I (show RelV (.ref p) (.ref p) from rfl) ry S ra rb q') fun w s1 ⟨z, H1, I1, rz, b', ez, qz⟩ => ?_
    subst ez
    cases rz
    exact ⟨b', rfl, .bl (!b'), H1, I1, rfl, by rw [Bool.bne_true] at qz; exact qz⟩
theorem s_eqO {c f : Nat} {n : Bool} {d : Cl} {df : Fn} (fa : Facts T F X.prog X.w X.K X.mg X.base k) (hr : Room k X.A) (ng : NoG X.A) (hc : T.cls[c]? = some d) (he : d.eq = some f) (hd : T.fns[f]? = some df) (hl : df.lev + 1 ≤ k) (h2 : df.ps.length = 2) (tk : Takes X W)
    (ha : SE X (T.cn Z) W (ev F x) a) (hb : SE X (T.cn Z) W (ev F y) b) (hm : noSet b = true) : SE X (T.cn Z) W (ev F (.eqO c f n x y)) (.Compare a [eqOp n] [b] pos) := by
  have e : ev F (.eqO c f n x y) = fun e h => (ev F x e h).bind fun v h1 => (ev F y e h1).bind fun u h2 => if isObj c v h2 && (isCV [c] u h2).isSome then (F f [v, u] h2).bind fun w h3 => asB w h3 fun k h3 => .ok (.d (.bl (k != n))) h3 else .bad := by
    funext e h
    rw [ev]
  rw [e]
  have key : ∀ σ H Q, tM X.K (T.cn Z) W (fun e h => (ev F x e h).bind fun v h1 => (ev F y e h1).bind fun u h2 => if isObj c v h2 && (isCV [c] u h2).isSome then (F f [v, u] h2).bind fun w h3 => asB w h3 fun k h3 => .ok (.d (.bl (k != n))) h3 else .bad) σ H Q →
      tM X.K (T.cn Z) W (ev F x) σ H fun z H1 => tM X.K (T.cn Z) W (ev F y) σ H1 fun w H2 => ∃ (h : Hs) (ρ : List Addr) (v1 w1 : Vl), Sim X.K (T.cn Z) ρ h H2 ∧ RepV X.K (T.cn Z) ρ h H2 v1 z ∧ RepV X.K (T.cn Z) ρ h H2 w1 w ∧ isObj c v1 h = true ∧ (isCV [c] w1 h).isSome = true ∧
        OkV X.K (T.cn Z) ρ h H2 ((F f [v1, w1] h).bind fun w h3 => asB w h3 fun k h3 => .ok (.d (.bl (k != n))) h3) Q (WE' W σ) := by
    intro σ H Q ⟨e, h, ρ, S, SE, k⟩
    refine tM_first S SE k fun v h1 u H1 ρ1 x1 S1 SE1 r k1 => ?_
    refine tM_first S1 SE1 k1 fun w h2 z H2 ρ2 x2 S2 SE2 r2 k2 => ?_
    split at k2
    · rename_i hh
      rw [Bool.and_eq_true] at hh
      exact ⟨h2, ρ2, v, w, S2, r.mono x2, r2, hh.1, hh.2, k2⟩
    · exact k2.elim
  refine ⟨⟨fun pins s σ H Q I q => ?_⟩, ⟨fun pins s σ H Q I q => ?_⟩, fun _ _ => rfl, fun _ _ => rfl⟩
  · refine wpAny_Compare1 (thn (ha.pe.run pins s σ H _ I (key σ H Q q)) fun v s1 ⟨z, H1, I1, r1, q1⟩ => thn (hb.pe.run pins s1 σ H1 _ I1 q1) fun u s2 ⟨w, H2, I2, r2, h, ρ, v1, w1, S, ra, rb, ho, hk, q2⟩ => ?_) (noMark hm)
    exact o_eqO fa hr ng hc he hd hl h2 tk I2 r1 r2 S ra rb ho hk q2
  · have q' : tM X.K (T.cn Z) W (fun e h => (ev F x e h).bind fun v h1 => (ev F y e h1).bind fun u h2 => if isObj c v h2 && (isCV [c] u h2).isSome then (F f [v, u] h2).bind fun w h3 => asB w h3 fun k h3 => .ok (.d (.bl (k != n))) h3 else .bad) σ H (fun v H1 => ∃ b, v = .bl b ∧ Q b H1) := q
    refine wpAny_isTrue_Compare1 (thn (ha.pe.run pins s σ H _ I (key σ H _ q')) fun v s1 ⟨z, H1, I1, r1, q1⟩ => thn (hb.pe.run pins s1 σ H1 _ I1 q1) fun u s2 ⟨w, H2, I2, r2, h, ρ, v1, w1, S, ra, rb, ho, hk, q2⟩ => ?_) (noMark hm)
    refine thn (o_eqO fa hr ng hc he hd hl h2 tk I2 r1 r2 S ra rb ho hk q2) fun c s3 ⟨x3, H3, I3, r3, b3, e3, q3⟩ => ?_
    subst e3
    cases r3
    exact wpAny_truthy_bool ⟨H3, I3, q3⟩
end
end L3
/-! L3: enumerate of a tuple. -/
namespace L3
open PySem PySem.Spec PyProof.Rows L2

theorem meets_enumT (l : Addr) (items : Array Value) (n : Nat) (dct : Option Addr) (sl : Array (Option Value)) :
    Meets (Builtin.«enumerate.__new__» ⟨[.type "enumerate", .ref l], []⟩) (fun _ R s => s.heap.get? l = some { cls := .type "tuple", dict := dct, data := .seq items n, slots := sl } ∧
      R (.ok (.ret (.ref (s.heap.push { cls := .type "tuple_iterator", data := .fields #[.ref l, .int 0 0] }).objs.size)))
        { s with heap := (s.heap.push { cls := .type "tuple_iterator", data := .fields #[.ref l, .int 0 0] }).push { cls := .type "enumerate", data := .fields #[.none, .bool false, .ref s.heap.objs.size, rawInt 0, .none, .none] } }) :=
  .of_wp fun prog w A R s h => by
    obtain ⟨hp, g, d, tk, os⟩ := s
    obtain ⟨hl, h⟩ := h
    have hsub := sub_enumerate
    have hL : Heap.IsTuple (Shared.heap ⟨hp, g, d, tk, os⟩) l items := ⟨_, hl, rfl, n, rfl⟩
    wp_walk using AutoSeq1.wpAny_loadPart' hl
    refine wpAny_stack_any fun st => wpAny_pure ?_
    split
    · rename_i c _ _ _ _ _
      cases (c == Value.type "enumerate")
      · wp_walk using AutoSeq1.wpAny_loadPart' hl, wpAny_pyIter_tuple hL
        exact ⟨_, rfl, h⟩
      · wp_walk using AutoSeq1.wpAny_loadPart' hl, wpAny_pyIter_tuple hL
        exact ⟨_, rfl, h⟩
    · wp_walk using AutoSeq1.wpAny_loadPart' hl, wpAny_pyIter_tuple hL
      exact ⟨_, rfl, h⟩
theorem call_enumT {prog : Program} {w : World} {A : Around} {E : Value → Shared → Prop} {s : Shared} {l : Addr} {items : Array Value} {Q : Value → Shared → Prop} (hL : s.heap.IsTuple l items)
    (h : ∀ h', IsEnum h' (s.heap.objs.size + 1) s.heap.objs.size 0 .none → h'.IsTupleIter s.heap.objs.size l 0 → h'.objs.size = s.heap.objs.size + 2 →
      (∀ b o, s.heap.get? b = some o → h'.get? b = some o) → Q (.ref (s.heap.objs.size + 1)) { s with heap := h' }) :
    wpAny (model prog w) A (call (.type "enumerate") [.ref l]) Q E s := by
  obtain ⟨⟨c, dct, dt, sl⟩, hl, hc, n, hd⟩ := hL
  replace hc : c = .type "tuple" := hc
  replace hd : dt = .seq items n := hd
  subst hc hd
  refine callType_new F.called_enumerate (by decide) (F.typeCall_enumerate_1 _) (F.newCall_enumerate_1 _) (fun obj => F.args_object_init_2 obj _) F.entry_enumerate_new
    (meets_enumT l items n dct sl) ⟨hl, ?_⟩
  have hz : (s.heap.push { cls := .type "tuple_iterator", data := .fields #[.ref l, .int 0 0] }).objs.size = s.heap.objs.size + 1 := Heap.size_push ..
  show _ ∧ _
  rw [hz]
  have he : IsEnum ((s.heap.push { cls := .type "tuple_iterator", data := .fields #[.ref l, .int 0 0] }).push
      { cls := .type "enumerate", data := .fields #[.none, .bool false, .ref s.heap.objs.size, rawInt 0, .none, .none] }) (s.heap.objs.size + 1) s.heap.objs.size 0 .none := by
    have := Heap.get?_push_size (s.heap.push { cls := .type "tuple_iterator", data := .fields #[.ref l, .int 0 0] })
      (o := { cls := .type "enumerate", data := .fields #[.none, .bool false, .ref s.heap.objs.size, rawInt 0, .none, .none] }) rfl
    rw [hz] at this; exact this
  refine ⟨⟨_, he, rfl⟩, h _ he ⟨_, Heap.get?_push_of_some _ (Heap.get?_push_size _ rfl), rfl, rfl⟩ (by rw [Heap.size_push, hz]) fun b o x => Heap.get?_push_of_some _ (Heap.get?_push_of_some _ x)⟩
/-- the tuple at a, each item in a new pair -/
def Itet (K : PySem.W.Frag) (a : Addr) : It :=
  ⟨fun i H => ∃ (xs : List V) (x : V), SqT K H a xs ∧ xs[i]? = some x, fun i H v H' => ∃ T x, v = .ref T ∧ H T = none ∧ H' = upd H T (.tup [.int (i : Nat), x]) ∧ ∀ xs, SqT K H a xs → xs[i]? = some x, fun i H => ∃ xs : List V, SqT K H a xs ∧ xs.length ≤ i⟩
theorem turn_enumT {P : Program} {w : World} {K : PySem.W.Frag} {elts : List Expr} {kk : Nat} {tpos : Pos} (a e it : Addr) :
    Turn P w K (.Tuple elts kk tpos) (Itet K a) [e, it] e (fun i h => (∃ old, IsEnum h e it ((i : Nat) : Int) old) ∧ h.IsTupleIter it a i ∧ e ≠ it) where
  mem := by simp
  obj := fun i h st b hb => by
    obtain ⟨⟨old, he⟩, ⟨o, ho, hc, hd⟩, _⟩ := st
    have e' : b = e ∨ b = it := by simpa using hb
    rcases e' with z | z
    · rw [z]; exact ⟨_, he, fun v q => nomatch q⟩
    · rw [z]; exact ⟨o, ho, fun v q => by rw [hd] at q; cases q⟩
  keep := fun i h h' st k => let ⟨⟨old, he⟩, hi, hne⟩ := st; ⟨⟨old, k e (by simp) _ he⟩, hi.at fun o q => k it (by simp) o q, hne⟩
  item := by
    intro X hP hw hK hc i pins s σ H E I hf st hg
    subst hP hw hK
    obtain ⟨⟨old, he⟩, hit, hne⟩ := st
    obtain ⟨xs, x, hq, hx⟩ := hg
    obtain ⟨its, rv, p, hz⟩ := I.tuple hq
    obtain ⟨u, hu, ru⟩ := rv.get hx
    have hel : e < s.heap.objs.size := Heap.lt_size he
    have hil : it < s.heap.objs.size := by obtain ⟨_, q, _⟩ := hit; exact Heap.lt_size q
    have p' : s.heap.IsTuple a its.toArray := p
    have hea : e ≠ a := by
      intro z
      obtain ⟨o, ho, hoc, _⟩ := p'
      rw [← z] at ho
      have he2 := he
      unfold IsEnum at he2
      rw [he2] at ho
      cases ho
      simp at hoc
    have hia : a ≠ it := by
      intro z
      obtain ⟨o, ho, hoc, _⟩ := p'
      obtain ⟨o2, ho2, hc2, _⟩ := hit
      rw [z] at ho
      rw [ho] at ho2
      cases ho2
      rw [hoc] at hc2
      exact absurd hc2 (by decide)
    have D := Draws.tuple (prog := X.prog) (w := X.w) (A := X.A.in1) (I.ok.hd hc) it a hia its.toArray
    have hlt : i < its.toArray.size := by
      have := (List.getElem?_eq_some_iff.mp hu).1
      simpa using this
    refine wpAny_pyNext_enum_itemD D he ⟨hit, p'⟩ hlt hne (by simp; exact ⟨hne, hea⟩) fun y h' tk hP ho hst hT hsz hk => ?_
    have hy : y = u := by
      have : its.toArray[i]? = some u := by simpa using hu
      rw [this] at hP
      exact (Option.some.inj hP).symm
    subst hy
    refine ⟨_, rfl, wpAny_letOwnedTupleGo_enum (s := { s with heap := h', toks := tk + 1 }) ho fun h'' he' sb => ?_⟩
    have hT2 : h''.get? s.heap.objs.size = some { cls := .type "tuple", data := .seq #[.int i tk, y] } := (sb.2 _ (Nat.ne_of_gt hel)).trans hT
    have new : ObjOk X.prog X.w (upd H s.heap.objs.size (.tup [.int (i : Nat), x])) h'' s.heap.objs.size (.tup [.int (i : Nat), x]) :=
      ⟨by show 2 ≤ sizeLine; decide, [.int i tk, y], .cons ⟨_, rfl⟩ (.cons ru .nil), ⟨_, hT2, rfl, _, rfl⟩⟩
    have I1 : Inv X pins σ (upd H s.heap.objs.size (.tup [.int (i : Nat), x])) { s with heap := h'', toks := tk + 1 } :=
      I.turnedNew (ch := [e, it]) (fun b ob hb q => (sb.2 b (fun z => hb (by simp [z]))).trans (hk b ob (fun z => hb (by simp [z])) (fun z => hb (by simp [z])) q)) hf (Nat.le_refl _) new
    refine ⟨.ref s.heap.objs.size, _, I1, rfl, ⟨_, x, rfl, I.hok.fresh (Nat.le_refl _), rfl, fun ys hy => by rw [I.tuple_inj hy hq]; exact hx⟩, ⟨⟨y, ?_⟩, hst.1.at fun o q => (sb.2 it (Ne.symm hne)).trans q, hne⟩, fun b hb => ?_⟩
    · have e1 : ((i + 1 : Nat) : Int) = (i : Int) + 1 := by omega
      rw [e1]; exact he'
    · have hb' : b < s.heap.objs.size := by
        have e' : b = e ∨ b = it := by simpa using hb
        rcases e' with z | z
        · rw [z]; exact hel
        · rw [z]; exact hil
      rw [upd_ne (Nat.ne_of_lt hb')]
      exact (hf b hb).1
  done := by
    intro X hP hw hK hc i pins s σ H E I hf st hg
    subst hP hw hK
    obtain ⟨⟨old, he⟩, hit, hne⟩ := st
    obtain ⟨xs, hq, hx⟩ := hg
    obtain ⟨its, rv, p, hz⟩ := I.tuple hq
    have p' : s.heap.IsTuple a its.toArray := p
    obtain ⟨f0, f1, f2, f3, f4, f5⟩ := hf it (by simp)
    have hl := rv.length
    have hhd := I.ok.hd hc
    have hT : s.TypeIs (.ref e) "enumerate" := ⟨_, he, rfl⟩
    unfold pyNext
    refine wpAny_bind (wpAny_attempt (wpAny_callSpecial?_slot (name := Str.ofString "__next__") hT F.slot_enumerate_next
      (wpAny_call_entry F.slot_enumerate_next hT F.entry_enumerate_next ?_ (F.args_enumerate_next_1 _))))
    show wpAny _ _ (field (.ref e) 2 >>= _) _ _ _
    refine wpAny_bind (wpAny_field he rfl (x := .ref it) rfl ?_)
    refine wpAny_bind (wpAny_nextOf_tuple_end hhd hit p' (by simp; omega) fun h' x he' hx' => ?_)
    obtain ⟨o, ho, hcc⟩ := hx'
    refine wpAny_bind (wpAny_isInstance (T := "StopIteration") (b := true) ⟨o, ho, hcc⟩ isSubtype_stop ?_)
    exact wpAny_pure ⟨rfl, I.turned (t' := s.toks) (fun b o hb q => he' b o hb q) f0 f1 f3 f4 f5⟩
  self := fun A i s Q E st h => let ⟨⟨_, he⟩, _⟩ := st; wpAny_pyIter_enum he h
def iEnumT (K : PySem.W.Frag) (ta : TA) : TI := fun σ H R => ta σ H fun vs H1 => ∃ a xs, vs = [.ref a] ∧ SqT K H1 a xs ∧ R (Itet K a) H1
theorem pi_enumT {X : Cx} {e : Expr} {ta : TA} {p pos tpos : Pos} {elts : List Expr} {kk : Nat} (hg : Gl X "enumerate") (hm : X.mg "enumerate" = none) (ha : PA X [e] ta) (hs : starEach [e] X.env = [(false, eval e X.env)] := by rfl) :
    PI X (.Tuple elts kk tpos) (.Call (.Name "enumerate" p) [e] [] pos) (iEnumT X.K ta) := by
  refine ⟨fun pins s σ H R I h => ?_⟩
  refine Call_ (ld_blt I hg hm boot_enumerate (PyProof.Rows.callWith_type1 (thn (ha.run pos pins s σ H _ I h) fun us s1 ⟨vs, H1, I1, r1, q1⟩ => ?_) hs rfl))
  obtain ⟨a, xs, ex, hq, q⟩ := q1
  subst ex
  cases r1 with
  | cons r rr =>
    cases rr
    cases r
    obtain ⟨its, rv, p', hz⟩ := I1.tuple hq
    refine call_enumT (show s1.heap.IsTuple a its.toArray from p') fun h' he hit hsz hk => wpAny_pyIter_enum he ?_
    have I2 : Inv X pins σ H1 { s1 with heap := h' } := I1.kept (t' := s1.toks) hk
    refine ⟨s1.heap.objs.size + 1, [s1.heap.objs.size + 1, s1.heap.objs.size], _, _, H1, rfl, I2, turn_enumT a (s1.heap.objs.size + 1) s1.heap.objs.size, ⟨⟨.none, he⟩, hit, Nat.succ_ne_self _⟩, fun b hb => ?_, q⟩
    have e' : b = s1.heap.objs.size + 1 ∨ b = s1.heap.objs.size := by simpa using hb
    have hle : s1.heap.objs.size ≤ b := by
      rcases e' with z | z
      · rw [z]; exact Nat.le_add_right _ _
      · rw [z]; exact Nat.le_refl _
    exact I1.fpOk hle (I1.hok.fresh hle)
/-! ### t[::-1] of a tuple -/
theorem revApplied {prog : Program} {w : World} {A : Around} {E : Value → Shared → Prop} {s : Shared} {sl : Addr} {vl vu vs : Value} {n : Nat} {Q : Int × Int × Nat → Shared → Prop} (hs : s.heap.IsSliceOf sl vl vu vs) (pl : IsPart vl none) (pu : IsPart vu none) (ps : IsPart vs (some (-1)))
    (h : Q ((n : Int) - 1, -1, n) s) : wpAny (model prog w) A (Builtin.Slice.sliceApplied (.ref sl) (pure (n : Int))) Q E s := by
  obtain ⟨os, hos, hcs, hds⟩ := id hs
  unfold Builtin.Slice.sliceApplied Builtin.Slice.sliceFields
  refine wpAny_bind (wpAny_bind (wpAny_field hos hds (x := vl) rfl (wpAny_bind (wpAny_field hos hds (x := vu) rfl (wpAny_bind (wpAny_field hos hds (x := vs) rfl (wpAny_pure ?_)))))))
  refine wpAny_bind (HT.slicePart_ ps ?_)
  show wpAny _ _ (if ((-1 : Int) == 0) = true then _ else _) _ _ s
  rw [if_neg (by decide)]
  refine wpAny_bind (HT.slicePart_ pl (wpAny_bind (HT.slicePart_ pu (wpAny_bind (wpAny_pure ?_)))))
  show wpAny _ _ (pure ((n : Int) - 1, (-1 : Int), Builtin.Slice.slicePlaces ((n : Int) - 1) (-1) (-1))) _ _ s
  have e : Builtin.Slice.slicePlaces ((n : Int) - 1) (-1) (-1) = n := by
    unfold Builtin.Slice.slicePlaces
    rw [if_neg (by decide)]
    by_cases hn : ((n : Int) - 1) > -1
    · rw [if_pos hn]
      have : (((n : Int) - 1 - -1 - 1) / (- -1) + 1) = (n : Int) := by
        rw [show (- -1 : Int) = 1 by decide, Int.ediv_one]
        omega
      rw [this]
      rfl
    · rw [if_neg hn]
      have : n = 0 := by omega
      subst this
      rfl
  rw [e]
  exact wpAny_pure h
theorem fm_congr {α β : Type} {f g : α → Option β} : ∀ {l : List α}, (∀ x ∈ l, f x = g x) → l.filterMap f = l.filterMap g
  | [], _ => rfl
  | x :: r, h => by
    rw [List.filterMap_cons, List.filterMap_cons, h x List.mem_cons_self, fm_congr fun y hy => h y (List.mem_cons_of_mem _ hy)]
theorem revPick (xs : Array Value) : ((List.range xs.size).filterMap fun (k : Nat) => xs[((xs.size : Int) - 1 + (k : Int) * (-1)).toNat]?).toArray = xs.toList.reverse.toArray := by
  have h := PySem.W.krv_pick xs
  unfold slicePick at h
  rw [PySem.W.krv_bounds] at h
  have h2 : ((sliceRange ((xs.size : Int) - 1) (-1) (-1)).filterMap (xs[·]?)).toArray = xs.toList.reverse.toArray := h
  rw [PySem.W.krv_sliceRange, List.filterMap_map] at h2
  rw [← h2]
  congr 1
  refine fm_congr fun k hk => ?_
  have hk' : k < xs.size := List.mem_range.mp hk
  have : ((xs.size : Int) - 1 + (k : Int) * (-1)).toNat = xs.size - 1 - k := by omega
  rw [this]
  rfl
theorem getItem_tuple_rev {prog : Program} {w : World} {A : Around} {E : Value → Shared → Prop} {s : Shared} {t sl : Addr} {items : Array Value} {vl vu vs : Value} {Q : Value → Shared → Prop} (ht : IsTup s.heap t items) (hs : s.heap.IsSliceOf sl vl vu vs) (pl : IsPart vl none) (pu : IsPart vu none) (ps : IsPart vs (some (-1)))
    (h : Q (.ref s.heap.objs.size) { s with heap := s.heap.push { cls := .type "tuple", data := .seq items.toList.reverse.toArray } })
    (hsz : items.size ≤ sizeLine) : wpAny (model prog w) A (getItem (.ref t) (.ref sl)) Q E s := by
  have htake : sizeOk (.seq items.toList.reverse.toArray) := by
    show items.toList.reverse.toArray.size ≤ sizeLine
    rw [List.size_toArray, List.length_reverse, Array.length_toList]
    exact hsz
  obtain ⟨os, hos, hcs, hds⟩ := id hs
  have hTs : s.TypeIs (.ref sl) "slice" := ⟨os, hos, hcs⟩
  unfold getItem
  try with_reducible refine wpAny_holding ?_
  first | refine wpAny_bind (wpAny_pure ?_) | skip
  refine wpAny_bind (wpAny_sequenceKey ht.typeIs (by decide) ?_)
  refine wpAny_bind (wpAny_callSpecial?_slot (name := Str.ofString "__getitem__") ht.typeIs PyProof.Rows.slot_tuple_getitem
    (wpAny_call_entry PyProof.Rows.slot_tuple_getitem ht.typeIs entry_tuple_getitem ?_ (args_tuple_getitem _ _)))
  show wpAny _ _ (Builtin.Tuple.tupleItemsOf (.ref t) >>= _) _ _ s
  refine wpAny_bind (PyProof.Rows.tupleItemsOf_ ht ?_)
  refine wpAny_bind (wpAny_typeOf hTs ?_)
  rw [if_pos (by decide)]
  refine wpAny_bind (revApplied hs pl pu ps ?_)
  have hno : ¬ ((((items.size : Int) - 1) == 0 && (-1 : Int) == 1 && items.size == items.size) = true) := by
    intro q
    rw [Bool.and_eq_true, Bool.and_eq_true] at q
    exact absurd (eq_of_beq q.1.2) (by decide)
  show wpAny _ _ (if (((items.size : Int) - 1) == 0 && (-1 : Int) == 1 && items.size == items.size) = true then _ else _) _ _ s
  rw [if_neg hno, revPick]
  first
    | exact wpAny_bind (m := Builtin.Tuple.tupleExact _) (wpAny_newObj_type (wpAny_pure ⟨_, rfl, wpAny_pure h⟩) htake)
    | exact wpAny_bind (m := Builtin.Tuple.tupleExact _) (wpAny_newObj_type (wpAny_bind (wpAny_pure (wpAny_pure ⟨_, rfl, wpAny_pure h⟩))) htake)
    | exact wpAny_bind (wpAny_bind (m := Builtin.Tuple.tupleExact _) (wpAny_newObj_type (wpAny_pure (wpAny_pure ⟨_, rfl, wpAny_pure h⟩)) htake))
    | exact wpAny_bind (wpAny_bind (m := Builtin.Tuple.tupleExact _) (wpAny_newObj_type (wpAny_pure ⟨_, rfl, wpAny_pure h⟩) htake))
def tRevT (K : PySem.W.Frag) (te : TE) : TE := fun σ H Q => te σ H fun x H1 => ∃ a xs, x = .ref a ∧ SqT K H1 a xs ∧ ∀ p, H1 p = none → Q (.ref p) (upd H1 p (.tup xs.reverse))
theorem pe_revT {X : Cx} {e : Expr} {te : TE} {k : Nat} {p1 p2 p3 pos : Pos} (he : PE X e te) : PE X (.Subscript e (.Slice none none (some (.UnaryOp .USub (.Constant (.int 1) k p1) p2)) p3) pos) (tRevT X.K te) := by
  refine ⟨fun pins s σ H Q I h => ?_⟩
  refine Subscript_ (thn (he.run pins s σ H _ I h) fun v s1 ⟨x, H1, I1, r1, q1⟩ => ?_)
  obtain ⟨a, xs, ex, hx, q⟩ := q1
  subst ex
  cases r1
  have hst : PO X (some (.UnaryOp .USub (.Constant (.int 1) k p1) p2)) (tPart (tUn (rU fun i => .int (-i)) (tC (.int 1)))) := po_some (pe_un un_neg pe_int)
  refine wpAny_Slice (thn (po_none.run pins s1 σ H1 (fun o H2 => o = none ∧ H2 = H1) I1 ⟨rfl, rfl⟩) fun vl s2 ⟨l, H2, I2, pl, el, e2⟩ => ?_)
  subst el e2
  refine thn (po_none.run pins s2 σ H2 (fun o H3 => o = none ∧ H3 = H2) I2 ⟨rfl, rfl⟩) fun vu s3 ⟨u, H3, I3, pu, eu, e3⟩ => ?_
  subst eu e3
  refine thn (hst.run pins s3 σ H3 (fun o H4 => o = some (-1) ∧ H4 = H3) I3 ⟨1, rfl, -1, rfl, rfl, rfl⟩) fun vs s4 ⟨o, H4, I4, ps, eo, e4⟩ => ?_
  subst eo e4
  have I5 : Inv X pins σ H4 { s4 with heap := s4.heap.push { cls := .type "slice", data := .fields #[vl, vu, vs] } } := I4.kept (t' := s4.toks) fun b ob q => Heap.get?_push_of_some _ q
  obtain ⟨its, r, ht, hz⟩ := I5.tuple hx
  have hlen := r.length
  show wpAny (model X.prog X.w) X.A (subscriptTail e (.Slice none none (some (.UnaryOp .USub (.Constant (.int 1) k p1) p2)) p3) (.ref a) (.ref s4.heap.objs.size)) (EP X pins σ Q) X.xe { s4 with heap := s4.heap.push { cls := .type "slice", data := .fields #[vl, vu, vs] } }
  refine tail_any (ops := [.ref a, .ref s4.heap.objs.size]) ht.typeIs (PyProof.Rows.slot_tuple_getitem.lookup) ?_ (by with_unfolding_all rfl)
  refine getItem_tuple_rev ht (Heap.IsSliceOf.new _ vl vu vs) pl pu ps ?_ (by rw [List.size_toArray]; omega)
  refine ⟨.ref _, _, I5.laid (t' := s4.toks) (o := .tup xs.reverse) (fun b ob q => Heap.get?_push_of_some _ q) (Nat.le_refl _) ?_, rfl, q _ (I5.hok.fresh (Nat.le_refl _))⟩
  exact ⟨by rw [List.length_reverse]; exact hz, its.reverse, r.reverse, IsTup.new _ _⟩
end L3
/-! L3: what is walked; targets. -/
namespace L3
open PySem PySem.Spec PyProof.Rows L2

section
variable (K : PySem.W.Frag) (C : Cn)
/-- what comes at a turn, for a row -/
def RowR (ρ : List Addr) (h : Hs) (H : Hp) (x : V) (row : List Vl) : Prop := (∃ v, row = [v] ∧ RepV K C ρ h H v x) ∨ (row.length ≠ 1 ∧ ∃ p xs, x = .ref p ∧ SqT K H p xs ∧ RepVs K C ρ h H row xs)
def Wlk (ρ : List Addr) (h : Hs) (H : Hp) (rows : List (List Vl)) (J : It) : Prop := ∀ (Z : Addr → Prop) ρ' h' H', Fro (AV C ρ h) H (AV (C.h Z) ρ' h') H' → Sim K (C.h Z) ρ' h' H' → (∀ i, rows.length ≤ i → J.stop i H') ∧ ∀ (i : Nat) row, rows[i]? = some row → J.go i H' ∧ ∀ x H'', J.yld i H' x H'' → L3.Ext (C.h Z) ρ' h' H' ρ' h' H'' ∧ Sim K (C.h Z) ρ' h' H'' ∧ RowR K (C.h Z) ρ' h' H'' x row
def tI (W : WX) (m : Env → Hs → Out (List (List Vl))) : TI := fun σ H R => ∃ (e : Env) (h : Hs) (ρ : List Addr), Sim K C ρ h H ∧ SimE K C ρ h H e σ ∧ OkO K C (Wlk K C) ρ h H (m e h) R (WE' W σ)
end
theorem PI.imp' {X : Cx} {tg e : Expr} {t : TI} (h : ∀ σ H R, t σ H R → ∃ t', PI X tg e t' ∧ t' σ H R) : PI X tg e t := ⟨fun pins s σ H R I q => by
  obtain ⟨t', p, q'⟩ := h σ H R q
  exact p.run pins s σ H R I q'⟩
section
variable {K : PySem.W.Frag} {C : Cn} {ρ : List Addr} {h : Hs} {H : Hp}
theorem wlk_list {xs : List D} {a : Addr} {vs : List V} (s : SL (AV C ρ h) H a vs) (r : Reps K C (AV C ρ h) H xs vs) : Wlk K C ρ h H (xs.map fun x => [.d x]) (Itl K a) := by
  intro Z ρ' h' H' x S
  have ha : SqL K H' a vs := .of (x _ _ s.2 s.1).1
  have r' := r.monoH (Z := Z) x
  have hl := r.len
  refine ⟨fun i hi => ⟨vs, ha, by rw [List.length_map] at hi; omega⟩, fun i row e => ?_⟩
  rw [List.getElem?_map] at e
  cases ex : xs[i]? with
  | none => rw [ex] at e; cases e
  | some d =>
    rw [ex] at e
    cases e
    obtain ⟨v, ev, rv⟩ := r'.get ex
    refine ⟨⟨vs, v, ha, ev⟩, fun y H'' ⟨e1, e2⟩ => ?_⟩
    subst e1
    have := e2 vs ha
    rw [ev] at this
    cases this
    exact ⟨L3.Ext.refl, S, .inl ⟨_, rfl, rv⟩⟩
theorem st_mono {av av' : Addr → Prop} {H' : Hp} {a : Addr} {vs : List V} (f : Fro av H av' H') (s : ST K av H a vs) : ST K av' H' a vs := s.elim (fun z => .inl (f.rd z)) .inr
theorem wlk_tup {xs : List D} {a : Addr} {vs : List V} (s : ST K (AV C ρ h) H a vs) (r : Reps K C (AV C ρ h) H xs vs) : Wlk K C ρ h H (xs.map fun x => [.d x]) (Itt K a) := by
  intro Z ρ' h' H' x S
  have ha : SqT K H' a vs := (st_mono x s).sq
  have r' := r.monoH (Z := Z) x
  have hl := r.len
  refine ⟨fun i hi => ⟨vs, ha, by rw [List.length_map] at hi; omega⟩, fun i row e => ?_⟩
  rw [List.getElem?_map] at e
  cases ex : xs[i]? with
  | none => rw [ex] at e; cases e
  | some d =>
    rw [ex] at e
    cases e
    obtain ⟨v, ev, rv⟩ := r'.get ex
    refine ⟨⟨vs, v, ha, ev⟩, fun y H'' ⟨e1, e2⟩ => ?_⟩
    subst e1
    have := e2 vs ha
    rw [ev] at this
    cases this
    exact ⟨L3.Ext.refl, S, .inl ⟨_, rfl, rv⟩⟩
theorem repk_get {av : Addr → Prop} : ∀ {kvs : List (D × D)} {ks : List (Key × V)} {i : Nat} {p : D × D}, Repk K C av H kvs ks → kvs[i]? = some p → ∃ q v, ks[i]? = some (q, v) ∧ keyOf p.1 = some q ∧ Rep K C av H p.2 v
  | _, _, _, _, .nil, e => by simp at e
  | _, _, 0, p, .cons k r _, e => by
    simp at e
    subst e
    exact ⟨_, _, rfl, k, r⟩
  | _, _, i + 1, p, .cons _ _ t, e => by
    obtain ⟨q, v, a, b, c⟩ := repk_get (i := i) (p := p) t (by simpa using e)
    exact ⟨q, v, by simpa using a, b, c⟩
theorem key_rep {av : Addr → Prop} {k : D} {q : Key} (e : keyOf k = some q) : Rep K C av H k (kV q) := by
  unfold keyOf at e
  split at e
  · cases e; exact .int _
  · cases e; exact .str _
  · cases e
theorem wlk_keys {kvs : List (D × D)} {d : Addr} {o : Obj} {ks : List (Key × V)} (na : ¬ AV C ρ h d) (s : H d = some (.frz o (.dK ks))) (r : Repk K C (AV C ρ h) H kvs ks) : Wlk K C ρ h H (kvs.map fun p => [.d p.1]) (Itk d o ks) := by
  intro Z ρ' h' H' x S
  have ha := (x _ _ s na).1
  have r' := r.monoH (Z := Z) x
  have hl := r.len
  refine ⟨fun i hi => ⟨ha, by rw [List.length_map] at hi; omega⟩, fun i row e => ?_⟩
  rw [List.getElem?_map] at e
  cases ex : kvs[i]? with
  | none => rw [ex] at e; cases e
  | some p =>
    rw [ex] at e
    cases e
    obtain ⟨q, v, ev, kq, rv⟩ := repk_get r' ex
    refine ⟨⟨ha, (List.getElem?_eq_some_iff.mp ev).1⟩, fun y H'' ⟨e1, k', v', e2, e3⟩ => ?_⟩
    subst e1
    rw [ev] at e2
    cases e2
    subst e3
    exact ⟨L3.Ext.refl, S, .inl ⟨_, rfl, key_rep kq⟩⟩
/-- a new tuple of two, at a turn -/
theorem new_row {p : Addr} {v w : Vl} {x y : V} (S : Sim K C ρ h H) (n : H p = none) (rv : RepV K C ρ h H v x) (rw' : RepV K C ρ h H w y) : L3.Ext C ρ h H ρ h (upd H p (.tup [x, y])) ∧ Sim K C ρ h (upd H p (.tup [x, y])) ∧ RowR K C ρ h (upd H p (.tup [x, y])) (.ref p) [v, w] := by
  have x1 : L3.Ext C ρ h H ρ h (upd H p (.tup [x, y])) := ext_same S (upd_keeps n)
  refine ⟨x1, S.same (upd_keeps n), .inr ⟨by simp, p, [x, y], rfl, .of upd_same, .cons (rv.mono x1) (.cons (rw'.mono x1) .nil)⟩⟩
theorem wlk_items {kvs : List (D × D)} {d : Addr} {o : Obj} {ks : List (Key × V)} (na : ¬ AV C ρ h d) (s : H d = some (.frz o (.dK ks))) (r : Repk K C (AV C ρ h) H kvs ks) : Wlk K C ρ h H (kvs.map fun p => [.d p.1, .d p.2]) (Iti d o ks) := by
  intro Z ρ' h' H' x S
  have ha := (x _ _ s na).1
  have r' := r.monoH (Z := Z) x
  have hl := r.len
  refine ⟨fun i hi => ⟨ha, by rw [List.length_map] at hi; omega⟩, fun i row e => ?_⟩
  rw [List.getElem?_map] at e
  cases ex : kvs[i]? with
  | none => rw [ex] at e; cases e
  | some p =>
    rw [ex] at e
    cases e
    obtain ⟨q, v, ev, kq, rv⟩ := repk_get r' ex
    refine ⟨⟨ha, (List.getElem?_eq_some_iff.mp ev).1⟩, fun y H'' ⟨t, k', v', e2, e3, e4, e5⟩ => ?_⟩
    rw [ev] at e2
    cases e2
    subst e3
    subst e5
    exact new_row S e4 (key_rep kq : Rep K (C.h Z) _ _ _ _) rv
theorem enum_get : ∀ {vs : List Vl} {k : Int} {i : Nat} {row : List Vl}, (enumFrom k vs)[i]? = some row → ∃ v, vs[i]? = some v ∧ row = [.d (.int (k + (i : Nat))), v]
  | [], _, _, _, e => by simp [enumFrom] at e
  | v :: r, k, 0, row, e => by
    simp [enumFrom] at e
    exact ⟨v, rfl, by rw [← e]; simp⟩
  | v :: r, k, i + 1, row, e => by
    obtain ⟨w, a, b⟩ := enum_get (vs := r) (k := k + 1) (i := i) (row := row) (by simpa [enumFrom] using e)
    refine ⟨w, by simpa using a, ?_⟩
    rw [b]
    have : k + 1 + (i : Int) = k + ((i + 1 : Nat) : Int) := by omega
    rw [this]
theorem enum_len : ∀ (vs : List Vl) (k : Int), (enumFrom k vs).length = vs.length
  | [], _ => rfl
  | v :: r, k => congrArg Nat.succ (enum_len r (k + 1))
theorem wlk_enum {xs : List D} {a : Addr} {vs : List V} (s : SL (AV C ρ h) H a vs) (r : Reps K C (AV C ρ h) H xs vs) : Wlk K C ρ h H (enumFrom 0 (xs.map .d)) (Ite K a) := by
  intro Z ρ' h' H' x S
  have ha : SqL K H' a vs := .of (x _ _ s.2 s.1).1
  have r' := r.monoH (Z := Z) x
  have hl := r.len
  refine ⟨fun i hi => ⟨vs, ha, by rw [enum_len, List.length_map] at hi; omega⟩, fun i row e => ?_⟩
  obtain ⟨w, ew, er⟩ := enum_get e
  rw [List.getElem?_map] at ew
  cases ex : xs[i]? with
  | none => rw [ex] at ew; cases ew
  | some d =>
    rw [ex] at ew
    cases ew
    obtain ⟨v, ev, rv⟩ := r'.get ex
    refine ⟨⟨vs, v, ha, ev⟩, fun y H'' ⟨t, z, e1, e2, e3, e4⟩ => ?_⟩
    have := e4 vs ha
    rw [ev] at this
    cases this
    subst e1
    subst e3
    subst er
    have hz : (0 : Int) + (i : Nat) = (i : Nat) := by omega
    rw [hz]
    exact new_row S e2 (.int _ : Rep K (C.h Z) _ _ _ _) rv
theorem wlk_enumT {xs : List D} {a : Addr} {vs : List V} (s : ST K (AV C ρ h) H a vs) (r : Reps K C (AV C ρ h) H xs vs) : Wlk K C ρ h H (enumFrom 0 (xs.map .d)) (Itet K a) := by
  intro Z ρ' h' H' x S
  have ha : SqT K H' a vs := (st_mono x s).sq
  have r' := r.monoH (Z := Z) x
  have hl := r.len
  refine ⟨fun i hi => ⟨vs, ha, by rw [enum_len, List.length_map] at hi; omega⟩, fun i row e => ?_⟩
  obtain ⟨w, ew, er⟩ := enum_get e
  rw [List.getElem?_map] at ew
  cases ex : xs[i]? with
  | none => rw [ex] at ew; cases ew
  | some d =>
    rw [ex] at ew
    cases ew
    obtain ⟨v, ev, rv⟩ := r'.get ex
    refine ⟨⟨vs, v, ha, ev⟩, fun y H'' ⟨t, z, e1, e2, e3, e4⟩ => ?_⟩
    have := e4 vs ha
    rw [ev] at this
    cases this
    subst e1
    subst e3
    subst er
    have hz : (0 : Int) + (i : Nat) = (i : Nat) := by omega
    rw [hz]
    exact new_row S e2 (.int _ : Rep K (C.h Z) _ _ _ _) rv
theorem zip_get : ∀ {vs ws : List Vl} {i : Nat} {row : List Vl}, (zipV vs ws)[i]? = some row → ∃ v w, vs[i]? = some v ∧ ws[i]? = some w ∧ row = [v, w]
  | [], _, _, _, e => by simp [zipV] at e
  | _ :: _, [], _, _, e => by simp [zipV] at e
  | v :: r, w :: q, 0, row, e => by
    simp [zipV] at e
    exact ⟨v, w, rfl, rfl, e.symm⟩
  | v :: r, w :: q, i + 1, row, e => by
    obtain ⟨a, b, c, d, f⟩ := zip_get (vs := r) (ws := q) (i := i) (row := row) (by simpa [zipV] using e)
    exact ⟨a, b, by simpa using c, by simpa using d, f⟩
theorem zip_len : ∀ (vs ws : List Vl), (zipV vs ws).length = min vs.length ws.length
  | [], _ => by simp [zipV]
  | _ :: _, [] => by simp [zipV]
  | v :: r, w :: q => by
    show (zipV r q).length + 1 = _
    rw [zip_len r q, List.length_cons, List.length_cons]
    omega
theorem wlk_zip {xs ys : List D} {a b : Addr} {vs ws : List V} (s : SL (AV C ρ h) H a vs) (r : Reps K C (AV C ρ h) H xs vs) (s2 : SL (AV C ρ h) H b ws) (r2 : Reps K C (AV C ρ h) H ys ws) : Wlk K C ρ h H (zipV (xs.map .d) (ys.map .d)) (Itz K a b) := by
  intro Z ρ' h' H' x S
  have ha : SqL K H' a vs := .of (x _ _ s.2 s.1).1
  have hb : SqL K H' b ws := .of (x _ _ s2.2 s2.1).1
  have r' := r.monoH (Z := Z) x
  have r2' := r2.monoH (Z := Z) x
  have hl := r.len
  have hl2 := r2.len
  refine ⟨fun i hi => ⟨vs, ws, ha, hb, by rw [zip_len, List.length_map, List.length_map] at hi; omega⟩, fun i row e => ?_⟩
  obtain ⟨v, w, ev, ew, er⟩ := zip_get e
  rw [List.getElem?_map] at ev ew
  cases ex : xs[i]? with
  | none => rw [ex] at ev; cases ev
  | some d =>
    cases ey : ys[i]? with
    | none => rw [ey] at ew; cases ew
    | some d2 =>
      rw [ex] at ev
      rw [ey] at ew
      cases ev
      cases ew
      obtain ⟨v, ev, rv⟩ := r'.get ex
      obtain ⟨w, ew, rw'⟩ := r2'.get ey
      refine ⟨⟨vs, ws, v, w, ha, hb, ev, ew⟩, fun y H'' ⟨t, z, z2, e1, e2, e3, e4, e5⟩ => ?_⟩
      have := e4 vs ha
      rw [ev] at this
      cases this
      have := e5 ws hb
      rw [ew] at this
      cases this
      subst e1
      subst e3
      subst er
      exact new_row S e2 rv rw'
theorem rng_get {lo hi : Int} {i : Nat} {row : List Vl} (e : ((rngI lo hi).map fun i => [Vl.d (.int i)])[i]? = some row) : i < (hi - lo).toNat ∧ row = [.d (.int (lo + (i : Nat)))] := by
  unfold rngI at e
  rw [List.map_map, List.getElem?_map] at e
  cases q : (List.range (hi - lo).toNat)[i]? with
  | none => rw [q] at e; cases e
  | some j =>
    rw [q] at e
    have hj : i < (List.range (hi - lo).toNat).length := (List.getElem?_eq_some_iff.mp q).1
    rw [List.length_range] at hj
    rw [List.getElem?_range hj] at q
    cases q
    cases e
    exact ⟨hj, rfl⟩
theorem rng_len (lo hi : Int) : ((rngI lo hi).map fun i => [Vl.d (.int i)]).length = (hi - lo).toNat := by
  unfold rngI
  rw [List.length_map, List.length_map, List.length_range]
theorem wlk_rng (lo hi : Int) : Wlk K C ρ h H ((rngI lo hi).map fun i => [.d (.int i)]) (Itr lo (hi - lo).toNat) := by
  intro Z ρ' h' H' x S
  refine ⟨fun i hi => by rw [rng_len] at hi; exact hi, fun i row e => ?_⟩
  obtain ⟨e1, e2⟩ := rng_get e
  subst e2
  refine ⟨e1, fun y H'' ⟨e3, e4⟩ => ?_⟩
  subst e3
  subst e4
  exact ⟨L3.Ext.refl, S, .inl ⟨_, rfl, .int _⟩⟩
end
/-! ### the text of what is walked -/
section
variable {F : Nat → List Vl → Hs → Out Vl} {X : Cx} {C : Cn} {W : WX} {tg a b : Expr} {x y : Ex} {pos : Pos}
def rowsM (F : Nat → List Vl → Hs → Out Vl) (k : ItK) (its : List Ex) : Env → Hs → Out (List (List Vl)) := fun e h => (evs F its e h).bind fun vs h1 => match rowsOf k vs with
  | some rows => .ok rows h1
  | none => .bad
/-- a reading by the outcome of the parts -/
theorem tM_out {m : Env → Hs → Out Vl} {Q : VK} {σ : L2.St} {H : Hp} {e : Env} {h : Hs} {ρ : List Addr} (S : Sim X.K C ρ h H) (SE : SimE X.K C ρ h H e σ) (k : (∃ x h1, m e h = .ex x h1 ∧ OkV X.K C ρ h H (.ex x h1) Q (WE' W σ)) ∨ ∃ v h1, m e h = .ok v h1 ∧ ∀ u H1 ρ1, L3.Ext C ρ h H ρ1 h1 H1 → Sim X.K C ρ1 h1 H1 → RepV X.K C ρ1 h1 H1 v u → Q u H1) : tM X.K C W m σ H Q := by
  refine ⟨e, h, ρ, S, SE, ?_⟩
  rcases k with ⟨x, h1, e1, k⟩ | ⟨v, h1, e1, k⟩
  · rw [e1]; exact k
  · rw [e1]; exact k
theorem i_seq (ha : SE X C W (ev F x) a) : PI X tg a (tI X.K C W (rowsM F .seq [x])) := by
  refine PI.imp' fun σ H R ⟨e, h, ρ, S, SE, k⟩ => ?_
  unfold rowsM at k
  rw [evs1] at k
  cases em : ev F x e h with
  | bad =>
    rw [em] at k
    exact k.elim
  | ex z h1 =>
    rw [em] at k
    exact ⟨_, pi_list ha.pe, tM_out S SE (.inl ⟨z, h1, em, k⟩)⟩
  | ok v h1 =>
    rw [em, bind_ok] at k
    cases er : rowsOf .seq [v] with
    | none =>
      rw [er] at k
      exact k.elim
    | some rows =>
      rw [er] at k
      unfold rowsOf at er
      dsimp only at er
      split at er
      · rename_i xs heq
        obtain rfl := in1 heq
        cases er
        refine ⟨_, pi_list ha.pe, tM_out S SE (.inr ⟨_, h1, em, fun u H1 ρ1 x1 S1 r => ?_⟩)⟩
        obtain ⟨p, vs, rfl, s, rs⟩ := rep_lst r
        exact ⟨p, rfl, ⟨vs, s.sq⟩, k (Itl X.K p) H1 ρ1 x1 S1 (wlk_list s rs)⟩
      · rename_i xs heq
        obtain rfl := in1 heq
        cases er
        refine ⟨_, pi_tup ha.pe, tM_out S SE (.inr ⟨_, h1, em, fun u H1 ρ1 x1 S1 r => ?_⟩)⟩
        obtain ⟨p, vs, rfl, s, rs⟩ := rep_tup r
        exact ⟨p, rfl, ⟨vs, s.sq⟩, k (Itt X.K p) H1 ρ1 x1 S1 (wlk_tup s rs)⟩
      · rename_i kvs heq
        obtain rfl := in1 heq
        cases er
        refine ⟨_, pi_keys ha.pe, tM_out S SE (.inr ⟨_, h1, em, fun u H1 ρ1 x1 S1 r => ?_⟩)⟩
        cases r with
        | dic na eh rk => exact ⟨_, _, rfl, .inl ⟨_, eh, k _ H1 ρ1 x1 S1 (wlk_keys na eh rk)⟩⟩
      · cases er
theorem bigR_iff {i : Int} (h : bigR i = true) : -(2 ^ 62) ≤ i ∧ i < 2 ^ 62 := by
  unfold bigR at h
  simp only [Bool.and_eq_true, decide_eq_true_eq] at h
  omega
/-- the parts, then the rows -/
theorem rows_of {k : ItK} {its : List Ex} {R : It → Hp → Prop} {Q : List V → Hp → Prop} {σ : L2.St} {H : Hp} (q : tI X.K C W (rowsM F k its) σ H R)
    (f : ∀ vs rows h1 us H1 ρ1, vs.length = its.length → rowsOf k vs = some rows → Sim X.K C ρ1 h1 H1 → RepVs X.K C ρ1 h1 H1 vs us → (∀ J, Wlk X.K C ρ1 h1 H1 rows J → R J H1) → Q us H1) : tMs X.K C W (evs F its) σ H Q := by
  obtain ⟨e, h, ρ, S, SE, k'⟩ := q
  refine tMs_firstE S SE k' fun vs h1 us H1 ρ1 ee x1 S1 SE1 r k1 => ?_
  cases er : rowsOf k vs with
  | none =>
    rw [er] at k1
    exact k1.elim
  | some rows =>
    rw [er] at k1
    exact f vs rows h1 us H1 ρ1 (evs_len ee) er S1 r fun J w => k1 J H1 ρ1 L3.Ext.refl S1 w
theorem i_rng1 {p : Pos} (hg : Gl X "range") (hm : X.mg "range" = none) (ha : SE X C W (ev F x) a) : PI X tg (.Call (.Name "range" p) [a] [] pos) (tI X.K C W (rowsM F .rng [x])) := by
  have pa : PA X [a] (tMs X.K C W (evs F [x])) := AllE.pa (xs := [x]) (es := [a]) ⟨ha, trivial⟩
  refine ⟨fun pins s σ H R I q => (pi_range1 (tg := tg) (p := p) (pos := pos) hg hm pa (ha.st _ _)).run pins s σ H R I ?_⟩
  refine rows_of q fun vs rows h1 us H1 ρ1 hl er S1 r g => ?_
  unfold rowsOf at er
  dsimp only at er
  split at er
  · rename_i j
    split at er
    · rename_i hb
      cases er
      obtain ⟨u, rfl, ru⟩ := vs1 r
      obtain ⟨b1, b2⟩ := bigR_iff hb
      refine ⟨j, by rw [repV_int ru], b1, b2, ?_⟩
      have := g _ (wlk_rng 0 j)
      rw [Int.sub_zero] at this
      exact this
    · cases er
  · simp at hl
  · cases er
theorem i_rng2 {p : Pos} (hg : Gl X "range") (hm : X.mg "range" = none) (ha : SE X C W (ev F x) a) (hb : SE X C W (ev F y) b) : PI X tg (.Call (.Name "range" p) [a, b] [] pos) (tI X.K C W (rowsM F .rng [x, y])) := by
  have pa : PA X [a, b] (tMs X.K C W (evs F [x, y])) := AllE.pa (xs := [x, y]) (es := [a, b]) ⟨ha, hb, trivial⟩
  refine ⟨fun pins s σ H R I q => (pi_range2 (tg := tg) (p := p) (pos := pos) hg hm pa (by rw [ha.st, hb.st] <;> rfl) (hb.st _ _)).run pins s σ H R I ?_⟩
  refine rows_of q fun vs rows h1 us H1 ρ1 hl er S1 r g => ?_
  unfold rowsOf at er
  dsimp only at er
  split at er
  · simp at hl
  · rename_i i j
    split at er
    · rename_i hb
      rw [Bool.and_eq_true] at hb
      cases er
      obtain ⟨u, z, rfl, ru, rz⟩ := vs2 r
      obtain ⟨b1, b2⟩ := bigR_iff hb.1
      obtain ⟨b3, b4⟩ := bigR_iff hb.2
      exact ⟨i, j, by rw [repV_int ru, repV_int rz], ⟨b1, b2, b3, b4⟩, g _ (wlk_rng i j)⟩
    · cases er
  · cases er
theorem i_enum {p tpos : Pos} {elts : List Expr} {kk : Nat} (hg : Gl X "enumerate") (hm : X.mg "enumerate" = none) (ha : SE X C W (ev F x) a) : PI X (.Tuple elts kk tpos) (.Call (.Name "enumerate" p) [a] [] pos) (tI X.K C W (rowsM F .enum [x])) := by
  have pa : PA X [a] (tMs X.K C W (evs F [x])) := AllE.pa (xs := [x]) (es := [a]) ⟨ha, trivial⟩
  refine PI.imp' fun σ H R ⟨e, h, ρ, S, SE, k⟩ => ?_
  unfold rowsM at k
  cases em : evs F [x] e h with
  | bad =>
    rw [em] at k
    exact k.elim
  | ex z h1 =>
    rw [em] at k
    exact ⟨_, pi_enum (p := p) (pos := pos) hg hm pa (ha.st _ _), e, h, ρ, S, SE, by rw [em]; exact k⟩
  | ok vs h1 =>
    rw [em, bind_ok] at k
    cases er : rowsOf .enum vs with
    | none =>
      rw [er] at k
      exact k.elim
    | some rows =>
      rw [er] at k
      unfold rowsOf at er
      dsimp only at er
      split at er
      · rename_i xs
        cases er
        refine ⟨_, pi_enum (p := p) (pos := pos) hg hm pa (ha.st _ _), e, h, ρ, S, SE, ?_⟩
        rw [em]
        intro us H1 ρ1 x1 S1 r
        obtain ⟨u, rfl, ru⟩ := vs1 r
        obtain ⟨q, ys, rfl, s, rs⟩ := rep_lst ru
        exact ⟨q, ys, rfl, s.sq, k (Ite X.K q) H1 ρ1 x1 S1 (wlk_enum s rs)⟩
      · rename_i xs
        cases er
        refine ⟨_, pi_enumT (p := p) (pos := pos) hg hm pa (ha.st _ _), e, h, ρ, S, SE, ?_⟩
        rw [em]
        intro us H1 ρ1 x1 S1 r
        obtain ⟨u, rfl, ru⟩ := vs1 r
        obtain ⟨q, ys, rfl, s, rs⟩ := rep_tup ru
        exact ⟨q, ys, rfl, s.sq, k (Itet X.K q) H1 ρ1 x1 S1 (wlk_enumT s rs)⟩
      · cases er
theorem i_zip {p tpos : Pos} {elts : List Expr} {kk : Nat} (hg : Gl X "zip") (hm : X.mg "zip" = none) (ha : SE X C W (ev F x) a) (hb : SE X C W (ev F y) b) : PI X (.Tuple elts kk tpos) (.Call (.Name "zip" p) [a, b] [] pos) (tI X.K C W (rowsM F .zip [x, y])) := by
  have pa : PA X [a, b] (tMs X.K C W (evs F [x, y])) := AllE.pa (xs := [x, y]) (es := [a, b]) ⟨ha, hb, trivial⟩
  refine ⟨fun pins s σ H R I q => (pi_zip (p := p) (pos := pos) hg hm pa (ha.st _ _) (by rw [hb.st] <;> rfl)).run pins s σ H R I ?_⟩
  refine rows_of q fun vs rows h1 us H1 ρ1 hl er S1 r g => ?_
  unfold rowsOf at er
  dsimp only at er
  split at er
  · rename_i xs ys
    cases er
    obtain ⟨u, z, rfl, ru, rz⟩ := vs2 r
    obtain ⟨p, us, rfl, s, rs⟩ := rep_lst ru
    obtain ⟨p', us', rfl, s', rs'⟩ := rep_lst rz
    exact ⟨p, p', us, us', rfl, s.sq, s'.sq, g _ (wlk_zip s rs s' rs')⟩
  · cases er
theorem i_items {apos tpos : Pos} {elts : List Expr} {kk : Nat} (ha : SE X C W (ev F x) a) (hbase : attributeBase a "items" X.env (eval a X.env) = eval a X.env) (hline : (apos.endLine == pos.line) = true) : PI X (.Tuple elts kk tpos) (.Call (.Attribute a "items" apos) [] [] pos) (tI X.K C W (rowsM F .items [x])) := by
  refine ⟨fun pins s σ H R I q => (pi_items (elts := elts) (kk := kk) (tpos := tpos) ha.pe hbase hline).run pins s σ H R I ?_⟩
  obtain ⟨e, h, ρ, S, SE, k⟩ := q
  unfold rowsM at k
  rw [evs1] at k
  refine tM_first S SE k fun v h1 u H1 ρ1 x1 S1 SE1 r k1 => ?_
  unfold rowsOf at k1
  dsimp only at k1
  split at k1
  · rename_i rows er
    split at er
    · rename_i kvs heq
      obtain rfl := in1 heq
      cases er
      cases r with
      | dic na eh rk => exact ⟨_, _, _, rfl, eh, k1 _ H1 ρ1 L3.Ext.refl S1 (wlk_items na eh rk)⟩
    · cases er
  · exact k1.elim
/-! ### targets -/
def gSlots : List Nat → TGs
  | [] => gNil
  | i :: r => gCons (gName i) (gSlots r)
/-- a target's reading -/
def gT (K : PySem.W.Frag) : Tn → TG
  | .nm i => gName i
  | .tup is => gTup K is.length (gSlots is)
theorem SimE.put {ρ : List Addr} {h : Hs} {H : Hp} {e : Env} {σ : L2.St} {i : Nat} {v : Vl} {u : V} (s : SimE X.K C ρ h H e σ) (r : RepV X.K C ρ h H v u) : SimE X.K C ρ h H (setE e i v) (σ.set i (some u)) := by
  refine ⟨by unfold setE; rw [List.length_set, List.length_set]; exact s.1, fun j w e1 => ?_⟩
  unfold setE at e1
  rcases get_set e1 with ⟨z1, z2⟩ | ⟨z1, z2⟩
  · obtain ⟨u', a, b⟩ := s.2 j w z2
    exact ⟨u', by rw [List.getElem?_set_ne (Ne.symm z1)]; exact a, b⟩
  · subst z1
    cases z2
    have hj : j < e.length := by
      have := (List.getElem?_eq_some_iff.mp e1).1
      rw [List.length_set] at this
      exact this
    rw [s.1] at hj
    exact ⟨u, List.getElem?_set_self hj, r⟩
theorem wipe_in {σ : L2.St} {i : Nat} : ∀ {vs : List Nat}, i ∈ vs → i < σ.length → (L2.wipe σ vs)[i]? = some none
  | [], h, _ => by cases h
  | v :: vs, h, hl => by
    unfold L2.wipe
    by_cases e : v = i
    · subst e
      exact List.getElem?_set_self (by rw [wipe_length]; exact hl)
    · rw [List.getElem?_set_ne e]
      rcases List.mem_cons.mp h with z | z
      · exact absurd z.symm e
      · exact wipe_in z hl
theorem wipe_set {σ : L2.St} {i : Nat} {x : Option V} {vs : List Nat} (h : i ∈ vs) : L2.wipe (σ.set i x) vs = L2.wipe σ vs := by
  refine List.ext_getElem? fun j => ?_
  by_cases hj : j ∈ vs
  · by_cases hl : j < σ.length
    · rw [wipe_in hj (by rw [List.length_set]; exact hl), wipe_in hj hl]
    · rw [List.getElem?_eq_none (by rw [wipe_length, List.length_set]; omega), List.getElem?_eq_none (by rw [wipe_length]; omega)]
  · rw [wipe_out hj, wipe_out hj]
    exact List.getElem?_set_ne fun z => hj (by rw [← z]; exact h)
theorem slots_ok {ρ : List Addr} {h : Hs} {H : Hp} : ∀ {is : List Nat} {vs : List Vl} {us : List V} {e : Env} {σ : L2.St} {Q : L2.St → Hp → Prop}, SimE X.K C ρ h H e σ → RepVs X.K C ρ h H vs us → vs.length = is.length → (∀ σ2, SimE X.K C ρ h H (setEs e is vs) σ2 → (∀ ws : List Nat, (∀ i ∈ is, i ∈ ws) → L2.wipe σ2 ws = L2.wipe σ ws) → Q σ2 H) → gSlots is us σ H Q
  | [], [], _, e, σ, Q, s, .nil, _, q => ⟨rfl, q σ s fun _ _ => rfl⟩
  | i :: is, v :: vs, _, e, σ, Q, s, .cons r rs, hl, q => ⟨_, _, rfl, slots_ok (is := is) (s.put r) rs (Nat.succ.inj hl) fun σ2 s2 w2 => q σ2 s2 fun ws hws => by
    rw [w2 ws fun j hj => hws j (List.mem_cons_of_mem _ hj)]
    exact wipe_set (hws i List.mem_cons_self)⟩
  | [], _ :: _, _, _, _, _, _, _, hl, _ => by cases hl
  | _ :: _, [], _, _, _, _, _, _, hl, _ => by cases hl
theorem gT_ok {t : Tn} {ρ : List Addr} {h : Hs} {H : Hp} {row : List Vl} {x : V} {e e1 : Env} {σ : L2.St} {Q : L2.St → Hp → Prop} (s : SimE X.K C ρ h H e σ) (r : RowR X.K C ρ h H x row) (b : bindT t row e = some e1)
    (q : ∀ σ2, SimE X.K C ρ h H e1 σ2 → (∀ ws : List Nat, (∀ i ∈ t.names, i ∈ ws) → L2.wipe σ2 ws = L2.wipe σ ws) → Q σ2 H) : gT X.K t x σ H Q := by
  cases t with
  | nm i =>
    unfold bindT at b
    dsimp only at b
    split at b
    · cases b
      rcases r with ⟨v, e1, rv⟩ | ⟨hn, _⟩
      · cases e1
        exact q _ (s.put rv) fun ws hws => wipe_set (hws i (List.mem_singleton.mpr rfl))
      · exact absurd rfl hn
    · cases b
  | tup is =>
    unfold bindT at b
    dsimp only at b
    split at b
    · rename_i v
      rcases r with ⟨w, e1, rv⟩ | ⟨hn, _⟩
      · cases e1
        split at b
        · rename_i xs
          split at b
          · rename_i hl
            cases b
            obtain ⟨p, vs, rfl, st, rs⟩ := rep_tup rv
            refine ⟨p, vs, rfl, st.sq, by rw [← rs.len]; exact hl, slots_ok s (ds_of_reps rs) (by rw [List.length_map]; exact hl) q⟩
          · cases b
        · cases b
      · exact absurd rfl hn
    · rename_i hne
      split at b
      · rename_i hl
        cases b
        rcases r with ⟨w, e1, rv⟩ | ⟨hn, p, xs, rfl, st, rs⟩
        · exact absurd e1 (hne w)
        · exact ⟨p, xs, rfl, st, by rw [← rs.len]; exact hl, slots_ok s rs hl q⟩
      · cases b
/-- a target of the text -/
def locB (sc : Scope) (x : Str) : Bool := match sc.names.lookup x with
  | some .local => true
  | some .cell => true
  | _ => false
theorem loc_of {sc : Scope} {x : Str} (h : locB sc x = true) : L2.Loc sc x := by
  unfold locB at h
  unfold L2.Loc
  split at h <;> simp_all
def tgs1 (N : List Str) (sc : Scope) : List Nat → List Expr → Bool
  | [], [] => true
  | i :: is, e :: es => (match e with
    | .Name n _ => decide (N[i]? = some n) && locB sc n
    | _ => false) && tgs1 N sc is es
  | _, _ => false
def tgB (N : List Str) (sc : Scope) : Tn → Expr → Bool
  | .nm i, e => tgs1 N sc [i] [e]
  | .tup is, e => match e with
    | .Tuple es _ _ => tgs1 N sc is es
    | _ => false
/-- what may be stored to, by the scope as it is written -/
def StOk (X : Cx) (sc : Scope) : Prop := ∀ n, locB sc n = true → L2.Loc X.env.scope n ∧ (X.fn n = true ∨ X.env.scope.names.lookup n = some .local)
theorem pg_tgs1 {N : List Str} {sc : Scope} (hN : X.N = N) (nd : X.N.Nodup) (hf : StOk X sc) : ∀ {is : List Nat} {es : List Expr}, tgs1 N sc is es = true → PGs X es (gSlots is) ∧ (assignEach es X.env).length = is.length ∧ (assignEach es X.env).findIdx? (·.1) = none
  | [], [], _ => ⟨pgs_nil, rfl, rfl⟩
  | i :: is, e :: es, h => by
    unfold tgs1 at h
    rw [Bool.and_eq_true] at h
    obtain ⟨h1, h2⟩ := h
    obtain ⟨g1, g2, g3⟩ := pg_tgs1 hN nd hf h2
    split at h1
    · rename_i n p
      rw [Bool.and_eq_true, decide_eq_true_eq] at h1
      subst hN
      obtain ⟨l1, l2⟩ := hf n h1.2
      have pg : PG X (.Name n p) (gName i) := pg_name nd h1.1 l1 l2
      refine ⟨pgs_cons pg g1, ?_, ?_⟩
      · show (assignEach es X.env).length + 1 = _
        rw [g2]
        rfl
      · show List.findIdx? (·.1) ((false, assign (.Name n p) X.env) :: assignEach es X.env) = none
        rw [List.findIdx?_cons, g3]
        rfl
    · cases h1
  | [], _ :: _, h => by cases h
  | _ :: _, [], h => by cases h
theorem pg_tg {N : List Str} {sc : Scope} {t : Tn} {e : Expr} (hN : X.N = N) (nd : X.N.Nodup) (hf : StOk X sc) (hc : X.calm = true) (h : tgB N sc t e = true) : PG X e (gT X.K t) := by
  cases t with
  | nm i =>
    unfold tgB tgs1 at h
    rw [Bool.and_eq_true] at h
    obtain ⟨h1, _⟩ := h
    split at h1
    · rename_i n p
      rw [Bool.and_eq_true, decide_eq_true_eq] at h1
      subst hN
      obtain ⟨l1, l2⟩ := hf n h1.2
      exact pg_name nd h1.1 l1 l2
    · cases h1
  | tup is =>
    unfold tgB at h
    dsimp only at h
    split at h
    · rename_i es kk p
      obtain ⟨g1, g2, g3⟩ := pg_tgs1 hN nd hf h
      exact pg_tup hc g1 g2 g3
    · cases h
end
end L3
/-! L3: list comprehensions. -/
namespace L3
open PySem PySem.Spec PyProof.Rows L2

section
variable {K : PySem.W.Frag} {C : Cn} {ρ ρ' : List Addr} {h h' : Hs} {H H' : Hp} {D : Addr}
def Cn.plus (C : Cn) (D : Addr) : Cn := C.h fun p => C.hid p ∨ p = D
theorem RepV.monoH {Z : Addr → Prop} (f : Fro (AV C ρ h) H (AV (C.h Z) ρ' h') H') (pre : ∀ (n : Nat) p, ρ[n]? = some p → ρ'[n]? = some p) {v : Vl} {u : V} (r : RepV K C ρ h H v u) : RepV K (C.h Z) ρ' h' H' v u := by
  cases v with
  | d y => exact Rep.monoH f r
  | r n =>
    obtain ⟨p, e, q⟩ := r
    exact ⟨p, pre n p e, q⟩
theorem RepVs.monoH {Z : Addr → Prop} (f : Fro (AV C ρ h) H (AV (C.h Z) ρ' h') H') (pre : ∀ (n : Nat) p, ρ[n]? = some p → ρ'[n]? = some p) {vs : List Vl} {us : List V} (r : RepVs K C ρ h H vs us) : RepVs K (C.h Z) ρ' h' H' vs us := Paired.mapP r fun _ _ z => z.monoH f pre
theorem CellOk.monoH {Z : Addr → Prop} (f : Fro (AV C ρ h) H (AV (C.h Z) ρ' h') H') (pre : ∀ (n : Nat) p, ρ[n]? = some p → ρ'[n]? = some p) {c : Cell} {p : Addr} (hp : c ≠ .dead → H' p = H p) (r : CellOk K C ρ h H c p) : CellOk K (C.h Z) ρ' h' H' c p := by
  cases c with
  | dead => trivial
  | lst xs =>
    obtain ⟨vs, e, q⟩ := r
    exact ⟨vs, (hp (by intro z; cases z)).trans e, RepVs.monoH f pre q⟩
  | dic kvs =>
    obtain ⟨ks, e, q⟩ := r
    exact ⟨ks, (hp (by intro z; cases z)).trans e, q.monoH f⟩
  | ins c fs =>
    obtain ⟨dx, l, k, e, n, q⟩ := r
    exact ⟨dx, l, k, (hp (by intro z; cases z)).trans e, n, RepVs.monoH f pre q⟩
theorem SimE.monoH {Z : Addr → Prop} (f : Fro (AV C ρ h) H (AV (C.h Z) ρ' h') H') (pre : ∀ (n : Nat) p, ρ[n]? = some p → ρ'[n]? = some p) {e : Env} {σ : L2.St} (s : SimE K C ρ h H e σ) : SimE K (C.h Z) ρ' h' H' e σ :=
  ⟨s.1, fun i v q => let ⟨u, a, b⟩ := s.2 i v q; ⟨u, a, b.monoH f pre⟩⟩
/-- a new object is hidden -/
theorem hide_fro {o : HO} (n : H D = none) : Fro (AV C ρ h) H (AV (C.plus D) ρ h) (upd H D o) := fun a u e na => ⟨upd_keeps n a u e, fun z => by
  rcases z with z | z | z
  · exact na (.inl z)
  · exact na (.inr z)
  · rw [z, n] at e
    cases e⟩
theorem hide_sim {o : HO} (S : Sim K C ρ h H) (n : H D = none) : Sim K (C.plus D) ρ h (upd H D o) := by
  refine ⟨S.len, S.inj, fun i c p e1 e2 => (S.ok i c p e1 e2).monoH (hide_fro n) (fun _ _ e => e) fun nd => ?_, fun i c p e1 e2 e3 z => ?_, fun p z => ?_⟩
  · obtain ⟨u, e⟩ := (S.ok i c p e1 e2).there nd
    rw [e]
    exact upd_keeps n p u e
  · rcases z with z | z
    · exact S.hd i c p e1 e2 e3 z
    · obtain ⟨u, e⟩ := (S.ok i c p e2 e1).there e3
      rw [z, n] at e
      cases e
  · rcases z with z | z
    · obtain ⟨u, e⟩ := S.ht p z
      exact ⟨u, upd_keeps n p u e⟩
    · subst z
      exact ⟨o, upd_same⟩
theorem unhide_fro : Fro (AV (C.plus D) ρ h) H (AV C ρ h) H := fun a u e na => ⟨e, fun z => na (z.elim .inl fun z => .inr (.inl z))⟩
theorem unhide_sim (S : Sim K (C.plus D) ρ h H) : Sim K C ρ h H := by
  refine ⟨S.len, S.inj, fun i c p e1 e2 => ?_, fun i c p e1 e2 e3 z => S.hd i c p e1 e2 e3 (.inl z), fun p z => S.ht p (.inl z)⟩
  exact CellOk.monoH (C := C.plus D) (Z := C.hid) unhide_fro (fun _ _ e => e) (fun _ => rfl) (S.ok i c p e1 e2)
theorem unhide_vs {vs : List Vl} {us : List V} (r : RepVs K (C.plus D) ρ h H vs us) : RepVs K C ρ h H vs us := RepVs.monoH (C := C.plus D) (Z := C.hid) unhide_fro (fun _ _ e => e) r
theorem plus_hid : (C.plus D).hid D := .inr rfl
/-- the hidden object changes -/
theorem hset_fro {o : HO} : Fro (AV (C.plus D) ρ h) H (AV (C.plus D) ρ h) (upd H D o) := fun a u e na => ⟨by
  rw [upd_ne fun z => na (.inr (.inr z))]
  exact e, na⟩
theorem hset_sim {o : HO} (S : Sim K (C.plus D) ρ h H) : Sim K (C.plus D) ρ h (upd H D o) := by
  refine ⟨S.len, S.inj, fun i c p e1 e2 => ?_, S.hd, fun p z => ?_⟩
  · refine CellOk.monoH (C := C.plus D) (Z := (C.plus D).hid) hset_fro (fun _ _ e => e) (fun nd => ?_) (S.ok i c p e1 e2)
    exact upd_ne fun z => S.hd i c p e2 e1 nd (.inr z)
  · by_cases e : p = D
    · subst e
      exact ⟨o, upd_same⟩
    · rw [upd_ne e]
      exact S.ht p z
theorem hset_vs {o : HO} {vs : List Vl} {us : List V} (r : RepVs K (C.plus D) ρ h H vs us) : RepVs K (C.plus D) ρ h (upd H D o) vs us := RepVs.monoH (C := C.plus D) (Z := (C.plus D).hid) hset_fro (fun _ _ e => e) r
/-- from the start to here, D apart -/
structure Ex0 (C : Cn) (D : Addr) (ρ : List Addr) (h : Hs) (H : Hp) (ρ' : List Addr) (h' : Hs) (H' : Hp) : Prop where
  n : H D = none
  pre : ∀ (n : Nat) p, ρ[n]? = some p → ρ'[n]? = some p
  fro : Fro (AV C ρ h) H (AV (C.plus D) ρ' h') H'
  hid : ∀ p, C.hid p → H' p = H p
theorem Ex0.start {o : HO} (S : Sim K C ρ h H) (n : H D = none) : Ex0 C D ρ h H ρ h (upd H D o) := ⟨n, fun _ _ e => e, hide_fro n, fun p z => by
  obtain ⟨u, e⟩ := S.ht p z
  rw [e]
  exact upd_keeps n p u e⟩
theorem Ex0.next {ρ2 : List Addr} {h2 : Hs} {H2 : Hp} (a : Ex0 C D ρ h H ρ' h' H') (x : L3.Ext (C.plus D) ρ' h' H' ρ2 h2 H2) : Ex0 C D ρ h H ρ2 h2 H2 :=
  ⟨a.n, fun n p e => x.pre n p (a.pre n p e), fun b u e na => x.fro b u (a.fro b u e na).1 (a.fro b u e na).2, fun p z => (x.hid p (.inl z)).trans (a.hid p z)⟩
theorem Ex0.put {o : HO} (S : Sim K C ρ h H) (a : Ex0 C D ρ h H ρ' h' H') : Ex0 C D ρ h H ρ' h' (upd H' D o) := by
  have ne : ∀ b u, H b = some u → b ≠ D := fun b u e z => by
    rw [z, a.n] at e
    cases e
  refine ⟨a.n, a.pre, fun b u e na => ⟨by rw [upd_ne (ne b u e)]; exact (a.fro b u e na).1, (a.fro b u e na).2⟩, fun p z => ?_⟩
  obtain ⟨u, e⟩ := S.ht p z
  rw [upd_ne (ne p u e)]
  exact a.hid p z
theorem Ex0.ext (a : Ex0 C D ρ h H ρ' h' H') : L3.Ext C ρ h H ρ' h' H' := ⟨a.pre, fun b u e na => ⟨(a.fro b u e na).1, fun z => (a.fro b u e na).2 (z.elim .inl fun z => .inr (.inl z))⟩, a.hid⟩
/-- the hidden object becomes a cell -/
theorem cell_fro {c : Cell} (S : Sim K (C.plus D) ρ h H) : Fro (AV (C.plus D) ρ h) H (AV C (ρ ++ [D]) (h ++ [c])) H := fun a u e na => ⟨e, fun z => by
  rcases z with ⟨i, d, e1, e2, e3⟩ | z
  · rcases get_push e1 with y | ⟨_, y⟩
    · rcases get_push e2 with w | ⟨w, _⟩
      · exact na (.inl ⟨i, d, y, w, e3⟩)
      · have := (List.getElem?_eq_some_iff.mp y).1
        rw [S.len] at this
        omega
    · exact na (.inr (.inr y.symm))
  · exact na (.inr (.inl z))⟩
theorem pushed_pre {p : Addr} : ∀ (n : Nat) q, ρ[n]? = some q → (ρ ++ [p])[n]? = some q := fun _ _ e => get_pushed e
theorem cell_sim {c : Cell} (S : Sim K (C.plus D) ρ h H) (nd : ¬ C.hid D) (ok : CellOk K C (ρ ++ [D]) (h ++ [c]) H c D) : Sim K C (ρ ++ [D]) (h ++ [c]) H := by
  have lt1 : ∀ {i : Nat} {p : Addr}, ρ[i]? = some p → i < h.length := fun e => by
    rw [← S.len]
    exact (List.getElem?_eq_some_iff.mp e).1
  have old : ∀ {i : Nat} {d : Cell}, i < h.length → (h ++ [c])[i]? = some d → h[i]? = some d := fun hi e => by
    rw [List.getElem?_append_left hi] at e
    exact e
  refine ⟨by rw [List.length_append, List.length_append, S.len]; rfl, fun i j q c1 c2 e1 e2 e3 e4 n1 n2 => ?_, fun i d q e1 e2 => ?_, fun i d q e1 e2 e3 z => ?_, fun q z => S.ht q (.inl z)⟩
  · rcases get_push e1 with z | ⟨z1, z2⟩
    · rcases get_push e2 with y | ⟨y1, y2⟩
      · exact S.inj i j q c1 c2 z y (old (lt1 z) e3) (old (lt1 y) e4) n1 n2
      · exact absurd (.inr y2.symm) (S.hd i c1 q z (old (lt1 z) e3) n1)
    · rcases get_push e2 with y | ⟨y1, y2⟩
      · exact absurd (.inr z2.symm) (S.hd j c2 q y (old (lt1 y) e4) n2)
      · rw [z1, y1]
  · rcases get_push e2 with z | ⟨z1, z2⟩
    · exact CellOk.monoH (C := C.plus D) (Z := C.hid) (cell_fro S) pushed_pre (fun _ => rfl) (S.ok i d q (old (lt1 z) e1) z)
    · subst z2
      rcases get_push e1 with y | ⟨y1, y2⟩
      · have := (List.getElem?_eq_some_iff.mp y).1
        rw [z1, S.len] at this
        omega
      · rw [← y2]
        exact ok
  · rcases get_push e1 with y | ⟨y1, y2⟩
    · exact S.hd i d q y (old (lt1 y) e2) e3 (.inl z)
    · rw [← y2] at z
      exact nd z
theorem wipe_sim {e : Env} {σ : L2.St} : ∀ {vs : List Nat}, SimE K C ρ h H e σ → SimE K C ρ h H (wipeE e vs) (L2.wipe σ vs) := by
  intro vs s
  have len : ∀ (vs : List Nat) (e : Env), (wipeE e vs).length = e.length := by
    intro vs
    induction vs with
    | nil => intro e; rfl
    | cons i r ih => intro e; rw [wipeE, ih, List.length_set]
  have get : ∀ (vs : List Nat) (e : Env) (i : Nat) v, (wipeE e vs)[i]? = some (some v) → e[i]? = some (some v) ∧ i ∉ vs := by
    intro vs
    induction vs with
    | nil => intro e i v q; exact ⟨q, by simp⟩
    | cons j r ih =>
      intro e i v q
      rw [wipeE] at q
      obtain ⟨q1, q2⟩ := ih _ i v q
      rcases get_set q1 with ⟨z1, z2⟩ | ⟨z1, z2⟩
      · exact ⟨z2, by simp only [List.mem_cons, not_or]; exact ⟨z1, q2⟩⟩
      · cases z2
  refine ⟨by rw [len, wipe_length]; exact s.1, fun i v q => ?_⟩
  obtain ⟨q1, q2⟩ := get vs e i v q
  obtain ⟨u, a, b⟩ := s.2 i v q1
  exact ⟨u, by rw [wipe_out q2]; exact a, b⟩
end
section
variable {F : Nat → List Vl → Hs → Out Vl} {X : Cx} {C : Cn} {W : WX} {tg iter elt : Expr} {ifs : List Expr} {its cs : List Ex} {x : Ex} {t : Tn} {k : ItK} {m : Bool} {pos : Pos} {scope : Scope}
abbrev WNo : WX := fun _ _ _ _ => False
/-- one turn -/
def turnM (F : Nat → List Vl → Hs → Out Vl) (x : Ex) (t : Tn) (cs : List Ex) (e : Env) : List Vl → Hs → Out (Option Vl) := fun row h => match bindT t row (wipeE e t.names) with
  | some e1 => (tests F cs e1 h).bind fun b h1 => if b = true then (ev F x e1 h1).bind fun v h2 => .ok (some v) h2 else .ok none h1
  | none => .bad
theorem ev_comp : ev F (.comp m x t k its cs) = fun e h => (rowsM F k its e h).bind fun rows h1 => (noEx (compL (turnM F x t cs e) rows h1)).bind fun us h2 => mkL m us h2 := by
  funext e h
  rw [ev]
  unfold rowsM
  rw [bind_assoc']
  congr 1
  funext vs h1
  cases rowsOf k vs with
  | none => rfl
  | some rows => rfl
def tTs (F : Nat → List Vl → Hs → Out Vl) (X : Cx) (C : Cn) (cs : List Ex) : TT := match cs with
  | [] => tYes
  | c :: _ => tMt X.K C WNo (ev F c)
/-- the clause's tests, at a place where they are known -/
theorem tests_ok {σ : L2.St} {H : Hp} {e : Env} {h h1 : Hs} {ρ : List Addr} {b : Bool} {Q : Bool → Hp → Prop} (hl : cs.length ≤ 1) (S : Sim X.K C ρ h H) (SE : SimE X.K C ρ h H e σ) (q : tests F cs e h = .ok b h1)
    (n : ∀ H1 ρ1, L3.Ext C ρ h H ρ1 h1 H1 → Sim X.K C ρ1 h1 H1 → Q b H1) : tTs F X C cs σ H Q := by
  cases cs with
  | nil =>
    rw [tests] at q
    cases q
    exact n H ρ L3.Ext.refl S
  | cons c r =>
    cases r with
    | cons _ _ => simp at hl
    | nil =>
      rw [tests] at q
      obtain ⟨v, h2, q1, q2⟩ := bind_eqOk q
      refine ⟨e, h, ρ, S, SE, ?_⟩
      rw [q1]
      intro u H1 ρ1 x1 S1 r1
      split at q2
      · rename_i b'
        refine ⟨b', repV_bl r1, ?_⟩
        split at q2
        · rename_i hb
          rw [tests] at q2
          cases q2
          rw [hb]
          exact n H1 ρ1 x1 S1
        · rename_i hb
          cases q2
          rw [Bool.eq_false_iff.mpr hb]
          exact n H1 ρ1 x1 S1
      · cases q2
theorem noEx_ok {α : Type} {o : Out α} {a : α} {h : Hs} (e : noEx o = .ok a h) : o = .ok a h := by
  unfold noEx at e
  split at e
  · cases e
  · exact e
theorem noEx_noex {α : Type} {o : Out α} {x : D} {h : Hs} : noEx o ≠ .ex x h := by
  unfold noEx
  intro z
  split at z
  · cases z
  · rename_i hn
    exact hn _ _ z
theorem drop_cons' {α : Type} {xs : List α} {i : Nat} {x : α} (e : xs[i]? = some x) : xs.drop i = x :: xs.drop (i + 1) := by
  have h := (List.getElem?_eq_some_iff.mp e).1
  rw [List.drop_eq_getElem_cons h]
  have := List.getElem?_eq_getElem h
  rw [e] at this
  cases this
  rfl
theorem comp_read (hl : cs.length ≤ 1) {σ : L2.St} {H : Hp} {Q : VK} (vs : List Nat) (hv : vs = t.names) (q : tM X.K C W (ev F (.comp m x t k its cs)) σ H Q) :
    tLc (tI X.K C W (rowsM F k its)) (gT X.K t) (fun σ H Q => ∃ D, tTs F X (C.plus D) cs σ H Q) (fun σ H Q => ∃ D, tM X.K (C.plus D) WNo (ev F x) σ H Q) vs σ H Q := by
  subst hv
  obtain ⟨e, h, ρ, S, SE, kk⟩ := q
  rw [ev_comp] at kk
  refine ⟨e, h, ρ, S, SE, OkO.first kk fun rows h1 J H1 ρ1 x1 S1 wk k1 => ?_⟩
  intro D nD
  -- the whole run is known
  have whole : ∃ us h2, compL (turnM F x t cs e) rows h1 = .ok us h2 ∧ us.length ≤ LIM ∧ OkV X.K C ρ1 h1 H1 (mkL m us h2) Q (WE' W σ) := by
    cases q : noEx (compL (turnM F x t cs e) rows h1) with
    | bad =>
      rw [q] at k1
      exact k1.elim
    | ex z h2 => exact absurd q noEx_noex
    | ok us h2 =>
      rw [q, bind_ok] at k1
      refine ⟨us, h2, noEx_ok q, ?_, k1⟩
      unfold mkL at k1
      split at k1
      · assumption
      · exact k1.elim
  obtain ⟨usF, hF, run, lim, kF⟩ := whole
  have SE1 := SE.mono x1
  -- at turn i
  refine ⟨fun i n H => n = rows.length - i ∧ i ≤ rows.length ∧ ∃ ρi hi us acc vs, Ex0 C D ρ1 h1 H1 ρi hi H ∧ Sim X.K (C.plus D) ρi hi H ∧ H D = some (.lst acc) ∧ RepVs X.K (C.plus D) ρi hi H us acc ∧ compL (turnM F x t cs e) (rows.drop i) hi = .ok vs hF ∧ us ++ vs = usF,
    ⟨rows.length, by simp, Nat.zero_le _, ρ1, h1, [], [], usF, Ex0.start S1 nD, hide_sim S1 nD, upd_same, .nil, run, rfl⟩, ?_⟩
  rintro i n H ⟨rfl, hi, ρi, hi', us, acc, vs, a, Si, eD, racc, runi, hus⟩
  obtain ⟨stop, go⟩ := wk _ ρi hi' H a.fro Si
  by_cases hlt : i < rows.length
  · have er : rows[i]? = some rows[i] := List.getElem?_eq_getElem hlt
    obtain ⟨g1, g2⟩ := go i _ er
    refine .inr ⟨g1, fun H' => ∃ ρi hi us acc vs, Ex0 C D ρ1 h1 H1 ρi hi H' ∧ Sim X.K (C.plus D) ρi hi H' ∧ H' D = some (.lst acc) ∧ RepVs X.K (C.plus D) ρi hi H' us acc ∧ compL (turnM F x t cs e) (rows.drop (i + 1)) hi = .ok vs hF ∧ us ++ vs = usF,
      fun H' p => ⟨rows.length - (i + 1), by omega, rfl, hlt, p⟩, fun v H' y => ?_⟩
    obtain ⟨x2, S2, rr⟩ := g2 v H' y
    rw [drop_cons' er, compL] at runi
    obtain ⟨o, h3, r1, runi⟩ := bind_eqOk runi
    obtain ⟨vs', h4, r2, runi⟩ := bind_eqOk runi
    cases runi
    unfold turnM at r1
    split at r1
    · rename_i e1 eb
      obtain ⟨b, h5, r3, r4⟩ := bind_eqOk r1
      have a2 := a.next x2
      have SEi : SimE X.K (C.plus D) ρi hi' H' e σ := SimE.monoH (C := C) (Z := fun p => C.hid p ∨ p = D) a2.fro a2.pre SE1
      refine gT_ok (C := C.plus D) (wipe_sim (vs := t.names) SEi) rr eb fun σ2 s2 w2 => ⟨?_, D, ?_⟩
      · rw [w2 t.names fun i hi => hi]
        refine List.ext_getElem? fun j => ?_
        by_cases hj : j ∈ t.names
        · by_cases hl : j < σ.length
          · rw [wipe_in hj (by rw [wipe_length]; exact hl), wipe_in hj hl]
          · rw [List.getElem?_eq_none (by rw [wipe_length, wipe_length]; omega), List.getElem?_eq_none (by rw [wipe_length]; omega)]
        · rw [wipe_out hj]
      · refine tests_ok hl S2 s2 r3 fun H5 ρ5 x5 S5 => ?_
        have a5 := a2.next x5
        have eD5 : H5 D = some (.lst acc) := by
          rw [x5.hid D plus_hid, x2.hid D plus_hid]
          exact eD
        have racc5 := RepVs.mono x5 (RepVs.mono x2 racc)
        cases b with
        | false =>
          rw [if_neg Bool.false_ne_true] at r4
          cases r4
          rw [if_neg Bool.false_ne_true]
          exact ⟨ρ5, h3, us, acc, vs', a5, S5, eD5, racc5, r2, hus⟩
        | true =>
          rw [if_pos rfl] at r4
          rw [if_pos rfl]
          obtain ⟨w, h6, r5, r6⟩ := bind_eqOk r4
          cases r6
          refine ⟨D, e1, h5, ρ5, S5, s2.mono x5, ?_⟩
          rw [r5]
          intro u H6 ρ6 x6 S6 r7
          have a6 := a5.next x6
          have eD6 : H6 D = some (.lst acc) := by
            rw [x6.hid D plus_hid]
            exact eD5
          have racc6 := RepVs.mono x6 racc5
          have hlen : acc.length < sizeLine := by
            rw [← racc6.len]
            refine lim_lt ?_
            have := congrArg List.length hus
            rw [List.length_append] at this
            have h7 : (match (some w : Option Vl) with
              | some v => v :: vs'
              | none => vs').length = vs'.length + 1 := rfl
            rw [h7] at this
            omega
          refine ⟨acc, eD6, hlen, ρ6, h3, us ++ [w], acc ++ [u], vs', a6.put S1, hset_sim S6, upd_same, ?_, r2, ?_⟩
          · exact Paired.app' (hset_vs racc6) (.cons (RepV.monoH (C := C.plus D) (Z := (C.plus D).hid) hset_fro (fun _ _ e => e) r7) .nil)
          · rw [List.append_assoc]
            exact hus
    · cases r1
  · have e0 : i = rows.length := by omega
    subst e0
    rw [List.drop_length, compL] at runi
    cases runi
    rw [List.append_nil] at hus
    subst hus
    refine .inl ⟨stop _ (Nat.le_refl _), ?_⟩
    have x9 := a.ext
    have S9 := unhide_sim Si
    have r9 := unhide_vs racc
    -- the list becomes what the maker says
    have ndC : ¬ C.hid D := fun z => by
      obtain ⟨o, e⟩ := S1.ht D z
      rw [nD] at e
      cases e
    unfold mkL at kF
    rw [if_pos lim] at kF
    split at kF
    · rw [← Si.len] at kF
      have x10 : L3.Ext C ρ1 h1 H1 (ρi ++ [D]) (hF ++ [.lst us]) H := ⟨fun n p e => get_pushed (a.pre n p e), fun b u e na => cell_fro Si b u (a.fro b u e na).1 (a.fro b u e na).2, a.hid⟩
      refine kF (.ref D) H (ρi ++ [D]) x10 (cell_sim Si ndC ⟨acc, eD, RepVs.monoH (C := C.plus D) (Z := C.hid) (cell_fro Si) pushed_pre racc⟩) ⟨D, ?_, rfl⟩
      rw [List.getElem?_append_right (Nat.le_refl _), Nat.sub_self]
      rfl
    · split at kF
      · rename_i ds ed
        rw [allD_eq ed] at r9
        refine kF (.ref D) H ρi x9 S9 (.lst ⟨fun z => ?_, eD⟩ (reps_of_ds r9))
        rcases z with ⟨i, d, e1, e2, e3⟩ | z
        · exact Si.hd i d D e1 e2 e3 (.inr rfl)
        · exact ndC z
      · exact kF.elim
/-- [x for t in .. if ..] -/
theorem s_comp {own : List (Str × Nat)} (hl : cs.length ≤ 1) (hc : X.calm = true) (hN : X.N.Nodup) (ok : BlkOk X.N X.env.scope scope own) (hv : own.map (·.2) = t.names) (hs : noSet iter = true)
    (hi : PI X tg iter (tI X.K C W (rowsM F k its)))
    (hg : ∀ (s : Shared) (H : Hp) (A : Addr) (cl : List (Str × Addr)) (fp : List Addr), PG (X.blk s H scope (compEnvC scope cl A X.env) fp) tg (gT X.K t))
    (hcs : ∀ (Dd : Addr) (s : Shared) (H : Hp) (A : Addr) (cl : List (Str × Addr)) (fp : List Addr), AllE F (X.blk s H scope (compEnvC scope cl A X.env) fp) (C.plus Dd) WNo cs ifs)
    (he : ∀ (Dd : Addr) (s : Shared) (H : Hp) (A : Addr) (cl : List (Str × Addr)) (fp : List Addr), SE (X.blk s H scope (compEnvC scope cl A X.env) fp) (C.plus Dd) WNo (ev F x) elt) : SE X C W (ev F (.comp m x t k its cs)) (.ListComp elt [⟨tg, iter, ifs, 0⟩] scope pos) := by
  refine .of_pe (PE.imp (pe_lc (wi := tI X.K C W (rowsM F k its)) (g := gT X.K t) (tt := fun σ H Q => ∃ D, tTs F X (C.plus D) cs σ H Q) (te := fun σ H Q => ∃ D, tM X.K (C.plus D) WNo (ev F x) σ H Q) hc hN hi ok hg (fun s H A cl fp => ⟨fun pins s' σ H' Q I q => ?_⟩) (fun s H A cl fp => ⟨fun pins s' σ H' Q I q => ?_⟩) (fun z => ?_)) fun σ H Q q => comp_read hl (own.map (·.2)) hv q) (fun _ => rfl) (fun _ _ => rfl) (fun _ _ => rfl)
  · obtain ⟨D, q⟩ := q
    have ha := hcs D s H A cl fp
    cases cs with
    | nil =>
      cases ifs with
      | nil => exact pts_nil.run pins s' σ H' Q I q
      | cons _ _ => exact ha.elim
    | cons c r =>
      cases ifs with
      | nil => exact ha.elim
      | cons i is =>
        cases r with
        | cons _ _ => simp at hl
        | nil =>
          cases is with
          | cons _ _ => exact ha.2.elim
          | nil => exact (pts_one ha.1.pt).run pins s' σ H' Q I q
  · obtain ⟨D, q⟩ := q
    exact (he D s H A cl fp).pe.run pins s' σ H' Q I q
  · cases iter <;> first | rfl | cases hs
end
end L3
/-! L3: dict comprehensions. -/
namespace L3
open PySem PySem.Spec PyProof.Rows L2
/-! ### a dict's entries -/
theorem keyS_of {k : D} (h : keyS k = true) : ∃ q, keyOf k = some q := by
  cases k <;> first | (cases h; done) | exact ⟨_, rfl⟩
section
variable {X : Cx} {C : Cn}
theorem repk_any {av : Addr → Prop} {H : Hp} {k : D} {q : Key} (hk : keyOf k = some q) : ∀ {kvs : List (D × D)} {ks : List (Key × V)}, Repk X.K C av H kvs ks → (kvs.any fun p => eqvD p.1 k) = ks.any fun p => decide (p.1 = q)
  | _, _, .nil => rfl
  | (k1, x1) :: kvs, (q1, v1) :: ks, .cons e r s => by
    rw [List.any_cons, List.any_cons, repk_any hk s, eqv_key e hk]
theorem repk_map {av : Addr → Prop} {H : Hp} {k v : D} {q : Key} {u : V} (hk : keyOf k = some q) (rv : Rep X.K C av H v u) : ∀ {kvs : List (D × D)} {ks : List (Key × V)}, Repk X.K C av H kvs ks →
    Repk X.K C av H (kvs.map fun p => if eqvD p.1 k = true then (p.1, v) else p) (ks.map fun p => if p.1 = q then (p.1, u) else p)
  | _, _, .nil => .nil
  | (k1, x1) :: kvs, (q1, v1) :: ks, .cons e r s => by
    have e2 := eqv_key e hk
    rw [List.map_cons, List.map_cons]
    by_cases hq : q1 = q
    · rw [decide_eq_true hq] at e2
      rw [if_pos e2, if_pos hq]
      exact .cons e rv (repk_map hk rv s)
    · rw [decide_eq_false hq] at e2
      rw [if_neg (by rw [e2]; exact Bool.noConfusion), if_neg hq]
      exact .cons e r (repk_map hk rv s)
theorem repk_app {av : Addr → Prop} {H : Hp} {k v : D} {q : Key} {u : V} (hk : keyOf k = some q) (rv : Rep X.K C av H v u) : ∀ {kvs : List (D × D)} {ks : List (Key × V)}, Repk X.K C av H kvs ks → Repk X.K C av H (kvs ++ [(k, v)]) (ks ++ [(q, u)])
  | _, _, .nil => .cons hk rv .nil
  | _, _, .cons e r s => .cons e r (repk_app hk rv s)
theorem repk_put {av : Addr → Prop} {H : Hp} {k v : D} {q : Key} {u : V} (hk : keyOf k = some q) (rv : Rep X.K C av H v u) {kvs : List (D × D)} {ks : List (Key × V)} (r : Repk X.K C av H kvs ks) : Repk X.K C av H (putK kvs k v) (L2.putK ks q u) := by
  unfold putK L2.putK
  rw [repk_any hk r]
  split
  · exact repk_map hk rv r
  · exact repk_app hk rv r
theorem put_len (kvs : List (D × D)) (k v : D) : kvs.length ≤ (putK kvs k v).length := by
  unfold putK
  split
  · rw [List.length_map]
    exact Nat.le_refl _
  · rw [List.length_append]
    exact Nat.le_add_right _ _
theorem pairs_len : ∀ {ds : List D} {a b : List (D × D)}, fromPairs ds (some a) = some b → a.length ≤ b.length
  | [], a, b, h => by
    rw [fromPairs] at h
    cases h
    exact Nat.le_refl _
  | d :: r, a, b, h => by
    unfold fromPairs at h
    split at h
    · rename_i heq
      cases heq
    · rename_i k v r' acc heq1 heq2
      cases heq1
      cases heq2
      split at h
      · exact Nat.le_trans (put_len _ _ _) (pairs_len h)
      · cases h
    · cases h
end
section
variable {F : Nat → List Vl → Hs → Out Vl} {X : Cx} {C : Cn} {W : WX} {tg iter ke ve : Expr} {ifs : List Expr} {its cs : List Ex} {kx vx : Ex} {t : Tn} {k : ItK} {m : Bool} {pos : Pos} {scope : Scope}
/-- the hidden dict becomes what the maker says -/
theorem dict_end {D : Addr} {ρ1 ρi : List Addr} {h1 hF : Hs} {H1 H : Hp} {acc : List (Key × V)} {kv : List (L3.D × L3.D)} {σ : L2.St} {Q : VK} {E : XK} (a : Ex0 C D ρ1 h1 H1 ρi hF H) (S1 : Sim X.K C ρ1 h1 H1) (Si : Sim X.K (C.plus D) ρi hF H) (eD : H D = some (.dK acc)) (racc : Repk X.K (C.plus D) (AV (C.plus D) ρi hF) H kv acc) (lim : kv.length ≤ LIM) (kF : OkV X.K C ρ1 h1 H1 (mkK m kv hF) Q E)
    (pins : List (Addr × Obj)) (s : Shared) (I : Inv X pins σ H s) : ∃ H', Inv X pins σ H' s ∧ Q (.ref D) H' := by
  have ndC : ¬ C.hid D := fun z => by
    obtain ⟨o, e⟩ := S1.ht D z
    rw [a.n] at e
    cases e
  unfold mkK at kF
  rw [if_pos lim] at kF
  split at kF
  · rw [← Si.len] at kF
    have x10 : L3.Ext C ρ1 h1 H1 (ρi ++ [D]) (hF ++ [.dic kv]) H := ⟨fun n p e => get_pushed (a.pre n p e), fun b u e na => cell_fro Si b u (a.fro b u e na).1 (a.fro b u e na).2, a.hid⟩
    refine ⟨H, I, kF (.ref D) H (ρi ++ [D]) x10 (cell_sim Si ndC ⟨acc, eD, Repk.monoH (C := C.plus D) (Z := C.hid) (cell_fro Si) racc⟩) ⟨D, ?_, rfl⟩⟩
    rw [List.getElem?_append_right (Nat.le_refl _), Nat.sub_self]
    rfl
  · obtain ⟨od, I'⟩ := I.lock eD trivial
    have a9 := a.put (o := .frz od (.dK acc)) S1
    have S9 : Sim X.K (C.plus D) ρi hF (upd H D (.frz od (.dK acc))) := hset_sim Si
    have r9 : Repk X.K (C.plus D) (AV (C.plus D) ρi hF) (upd H D (.frz od (.dK acc))) kv acc := Repk.monoH (C := C.plus D) (Z := (C.plus D).hid) hset_fro racc
    refine ⟨_, I', kF (.ref D) _ ρi a9.ext (unhide_sim S9) (.dic (fun z => ?_) upd_same (Repk.monoH (C := C.plus D) (Z := C.hid) unhide_fro r9))⟩
    rcases z with ⟨i, d, e1, e2, e3⟩ | z
    · exact Si.hd i d D e1 e2 e3 (.inr rfl)
    · exact ndC z
def turnD (F : Nat → List Vl → Hs → Out Vl) (kx vx : Ex) (t : Tn) (cs : List Ex) (e : Env) : List Vl → Hs → Out (Option Vl) := fun row h => match bindT t row (wipeE e t.names) with
  | some e1 => (tests F cs e1 h).bind fun b h1 => if b = true then (ev F kx e1 h1).bind fun q h2 => (ev F vx e1 h2).bind fun v h3 => pairV q v h3 else .ok none h1
  | none => .bad
theorem ev_dcomp : ev F (.dcomp m kx vx t k its cs) = fun e h => (rowsM F k its e h).bind fun rows h1 => (noEx (compL (turnD F kx vx t cs e) rows h1)).bind fun us h2 => mkPs m us h2 := by
  funext e h
  rw [ev]
  unfold rowsM
  rw [bind_assoc']
  congr 1
  funext vs h1
  cases rowsOf k vs with
  | none => rfl
  | some rows => rfl
theorem dcomp_read (hl : cs.length ≤ 1) {σ : L2.St} {H : Hp} {Q : VK} (vs : List Nat) (hv : vs = t.names) (q : tM X.K C W (ev F (.dcomp m kx vx t k its cs)) σ H Q) :
    tDc (tI X.K C W (rowsM F k its)) (gT X.K t) (fun σ H Q => ∃ D, tTs F X (C.plus D) cs σ H Q) (fun σ H Q => ∃ D, tM X.K (C.plus D) WNo (ev F kx) σ H Q) (fun σ H Q => ∃ D, tM X.K (C.plus D) WNo (ev F vx) σ H Q) vs σ H fun u H1 => ∀ pins s, Inv X pins σ H1 s → ∃ H', Inv X pins σ H' s ∧ Q u H' := by
  subst hv
  obtain ⟨e, h, ρ, S, SE, kk⟩ := q
  rw [ev_dcomp] at kk
  refine ⟨e, h, ρ, S, SE, OkO.first kk fun rows h1 J H1 ρ1 x1 S1 wk k1 => ?_⟩
  intro D nD
  -- the whole run is known
  have whole : ∃ us h2 ds kvs, compL (turnD F kx vx t cs e) rows h1 = .ok us h2 ∧ allD us = some ds ∧ fromPairs ds (some []) = some kvs ∧ kvs.length ≤ LIM ∧ OkV X.K C ρ1 h1 H1 (mkK m kvs h2) Q (WE' W σ) := by
    cases q : noEx (compL (turnD F kx vx t cs e) rows h1) with
    | bad =>
      rw [q] at k1
      exact k1.elim
    | ex z h2 => exact absurd q noEx_noex
    | ok us h2 =>
      rw [q, bind_ok] at k1
      unfold mkPs at k1
      split at k1
      · rename_i ds ed
        split at k1
        · rename_i kvs ek
          refine ⟨us, h2, ds, kvs, noEx_ok q, ed, ek, ?_, k1⟩
          unfold mkK at k1
          split at k1
          · assumption
          · exact k1.elim
        · exact k1.elim
      · exact k1.elim
  obtain ⟨usF, hF, dsF, kvF, run, hds, hkv, lim, kF⟩ := whole
  have SE1 := SE.mono x1
  refine ⟨fun i n H => n = rows.length - i ∧ i ≤ rows.length ∧ ∃ ρi hi acc kvI vs dv, Ex0 C D ρ1 h1 H1 ρi hi H ∧ Sim X.K (C.plus D) ρi hi H ∧ H D = some (.dK acc) ∧ Repk X.K (C.plus D) (AV (C.plus D) ρi hi) H kvI acc ∧ compL (turnD F kx vx t cs e) (rows.drop i) hi = .ok vs hF ∧ allD vs = some dv ∧ fromPairs dv (some kvI) = some kvF,
    ⟨rows.length, by simp, Nat.zero_le _, ρ1, h1, [], [], usF, dsF, Ex0.start S1 nD, hide_sim S1 nD, upd_same, .nil, run, hds, hkv⟩, ?_⟩
  rintro i n H ⟨rfl, hi, ρi, hi', acc, kvI, vs, dv, a, Si, eD, racc, runi, hdv, hfp⟩
  obtain ⟨stop, go⟩ := wk _ ρi hi' H a.fro Si
  by_cases hlt : i < rows.length
  · have er : rows[i]? = some rows[i] := List.getElem?_eq_getElem hlt
    obtain ⟨g1, g2⟩ := go i _ er
    refine .inr ⟨g1, fun H' => ∃ ρi hi acc kvI vs dv, Ex0 C D ρ1 h1 H1 ρi hi H' ∧ Sim X.K (C.plus D) ρi hi H' ∧ H' D = some (.dK acc) ∧ Repk X.K (C.plus D) (AV (C.plus D) ρi hi) H' kvI acc ∧ compL (turnD F kx vx t cs e) (rows.drop (i + 1)) hi = .ok vs hF ∧ allD vs = some dv ∧ fromPairs dv (some kvI) = some kvF,
      fun H' p => ⟨rows.length - (i + 1), by omega, rfl, hlt, p⟩, fun v H' y => ?_⟩
    obtain ⟨x2, S2, rr⟩ := g2 v H' y
    rw [drop_cons' er, compL] at runi
    obtain ⟨o, h3, r1, runi⟩ := bind_eqOk runi
    obtain ⟨vs', h4, r2, runi⟩ := bind_eqOk runi
    cases runi
    unfold turnD at r1
    split at r1
    · rename_i e1 eb
      obtain ⟨b, h5, r3, r4⟩ := bind_eqOk r1
      have a2 := a.next x2
      have SEi : SimE X.K (C.plus D) ρi hi' H' e σ := SimE.monoH (C := C) (Z := fun p => C.hid p ∨ p = D) a2.fro a2.pre SE1
      refine gT_ok (C := C.plus D) (wipe_sim (vs := t.names) SEi) rr eb fun σ2 s2 w2 => ⟨?_, D, ?_⟩
      · rw [w2 t.names fun i hi => hi]
        refine List.ext_getElem? fun j => ?_
        by_cases hj : j ∈ t.names
        · by_cases hl : j < σ.length
          · rw [wipe_in hj (by rw [wipe_length]; exact hl), wipe_in hj hl]
          · rw [List.getElem?_eq_none (by rw [wipe_length, wipe_length]; omega), List.getElem?_eq_none (by rw [wipe_length]; omega)]
        · rw [wipe_out hj]
      · refine tests_ok hl S2 s2 r3 fun H5 ρ5 x5 S5 => ?_
        have a5 := a2.next x5
        have eD5 : H5 D = some (.dK acc) := by
          rw [x5.hid D plus_hid, x2.hid D plus_hid]
          exact eD
        have racc5 := Repk.mono x5.fro (Repk.mono x2.fro racc)
        cases b with
        | false =>
          rw [if_neg Bool.false_ne_true] at r4
          cases r4
          rw [if_neg Bool.false_ne_true]
          exact ⟨ρ5, h3, acc, kvI, vs', dv, a5, S5, eD5, racc5, r2, hdv, hfp⟩
        | true =>
          rw [if_pos rfl] at r4
          rw [if_pos rfl]
          obtain ⟨qv, h6, r5, r6⟩ := bind_eqOk r4
          obtain ⟨w, h7, r7, r8⟩ := bind_eqOk r6
          unfold pairV at r8
          split at r8
          · rename_i qd wd
            cases r8
            -- the pair is good
            have hdv2 : ∃ dv', allD vs' = some dv' ∧ dv = .tup [qd, wd] :: dv' := by
              have z : (allD vs').map (L3.D.tup [qd, wd] :: ·) = some dv := hdv
              cases hz : allD vs' with
              | none => rw [hz] at z; cases z
              | some dv' =>
                rw [hz] at z
                exact ⟨dv', rfl, (Option.some.inj z).symm⟩
            obtain ⟨dv', hdv', rfl⟩ := hdv2
            rw [fromPairs] at hfp
            split at hfp
            · rename_i hks
              obtain ⟨qk, hqk⟩ := keyS_of hks
              refine ⟨D, e1, h5, ρ5, S5, s2.mono x5, ?_⟩
              rw [r5]
              intro u H6 ρ6 x6 S6 rk
              have a6 := a5.next x6
              have eD6 : H6 D = some (.dK acc) := by
                rw [x6.hid D plus_hid]
                exact eD5
              have racc6 := Repk.mono x6.fro racc5
              refine ⟨D, e1, h6, ρ6, S6, (s2.mono x5).mono x6, ?_⟩
              rw [r7]
              intro z H7 ρ7 x7 S7 rv
              have a7 := a6.next x7
              have eD7 : H7 D = some (.dK acc) := by
                rw [x7.hid D plus_hid]
                exact eD6
              have racc7 := Repk.mono x7.fro racc6
              have hlen : acc.length < sizeLine := by
                have z1 := pairs_len hfp
                have z2 := put_len kvI qd wd
                have z3 := racc.len
                have z4 : kvF.length ≤ 1000000 := lim
                rw [sizeLine_eq]
                omega
              have p1 := repk_put hqk rv racc7
              refine ⟨acc, qk, rep_key hqk rk, eD7, hlen, ρ7, _, L2.putK acc qk z, putK kvI qd wd, vs', dv', a7.put S1, hset_sim S7, upd_same, ?_, r2, hdv', hfp⟩
              exact Repk.monoH (C := C.plus D) (Z := (C.plus D).hid) hset_fro p1
            · cases hfp
          · cases r8
    · cases r1
  · have e0 : i = rows.length := by omega
    subst e0
    rw [List.drop_length, compL] at runi
    cases runi
    have hdv0 : dv = [] := by cases hdv; rfl
    subst hdv0
    rw [fromPairs] at hfp
    cases hfp
    refine .inl ⟨stop _ (Nat.le_refl _), fun pins s I => ?_⟩
    exact dict_end a S1 Si eD racc lim kF pins s I
/-- {k: v for t in .. if ..} -/
theorem s_dcomp {own : List (Str × Nat)} (hl : cs.length ≤ 1) (hc : X.calm = true) (hN : X.N.Nodup) (ok : BlkOk X.N X.env.scope scope own) (hv : own.map (·.2) = t.names) (hs : noSet iter = true)
    (hi : PI X tg iter (tI X.K C W (rowsM F k its)))
    (hg : ∀ (s : Shared) (H : Hp) (A : Addr) (cl : List (Str × Addr)) (fp : List Addr), PG (X.blk s H scope (compEnvC scope cl A X.env) fp) tg (gT X.K t))
    (hcs : ∀ (Dd : Addr) (s : Shared) (H : Hp) (A : Addr) (cl : List (Str × Addr)) (fp : List Addr), AllE F (X.blk s H scope (compEnvC scope cl A X.env) fp) (C.plus Dd) WNo cs ifs)
    (hk : ∀ (Dd : Addr) (s : Shared) (H : Hp) (A : Addr) (cl : List (Str × Addr)) (fp : List Addr), SE (X.blk s H scope (compEnvC scope cl A X.env) fp) (C.plus Dd) WNo (ev F kx) ke)
    (he : ∀ (Dd : Addr) (s : Shared) (H : Hp) (A : Addr) (cl : List (Str × Addr)) (fp : List Addr), SE (X.blk s H scope (compEnvC scope cl A X.env) fp) (C.plus Dd) WNo (ev F vx) ve) : SE X C W (ev F (.dcomp m kx vx t k its cs)) (.DictComp ke ve [⟨tg, iter, ifs, 0⟩] scope pos) := by
  refine .of_pe ⟨fun pins s σ H Q I q => ?_⟩ (fun _ => rfl) (fun _ _ => rfl) (fun _ _ => rfl)
  refine thn ((pe_dc (wi := tI X.K C W (rowsM F k its)) (g := gT X.K t) (tt := fun σ H Q => ∃ D, tTs F X (C.plus D) cs σ H Q) (tk := fun σ H Q => ∃ D, tM X.K (C.plus D) WNo (ev F kx) σ H Q) (tv := fun σ H Q => ∃ D, tM X.K (C.plus D) WNo (ev F vx) σ H Q) hc hN hi ok hg (fun s H A cl fp => ⟨fun pins s' σ H' Q I q => ?_⟩) (fun s H A cl fp => ⟨fun pins s' σ H' Q I q => ?_⟩) (fun s H A cl fp => ⟨fun pins s' σ H' Q I q => ?_⟩) (fun z => ?_)).run pins s σ H _ I (dcomp_read hl (own.map (·.2)) hv q)) fun u s1 ⟨v, H1, I1, rv, f⟩ => ?_
  · obtain ⟨D, q⟩ := q
    have ha := hcs D s H A cl fp
    cases cs with
    | nil =>
      cases ifs with
      | nil => exact pts_nil.run pins s' σ H' Q I q
      | cons _ _ => exact ha.elim
    | cons c r =>
      cases ifs with
      | nil => exact ha.elim
      | cons i is =>
        cases r with
        | cons _ _ => simp at hl
        | nil =>
          cases is with
          | cons _ _ => exact ha.2.elim
          | nil => exact (pts_one ha.1.pt).run pins s' σ H' Q I q
  · obtain ⟨D, q⟩ := q
    exact (hk D s H A cl fp).pe.run pins s' σ H' Q I q
  · obtain ⟨D, q⟩ := q
    exact (he D s H A cl fp).pe.run pins s' σ H' Q I q
  · cases iter <;> first | rfl | cases hs
  · obtain ⟨H2, I2, q2⟩ := f pins s1 I1
    exact ⟨v, H2, I2, rv, q2⟩
def dkV (m : Bool) (q v : Vl) (h : Hs) : Out Vl := match q, v with
  | .d k, .d w => if keyS k = true then mkK m [(k, w)] h else .bad
  | _, _ => .bad
/-- {k: v} -/
theorem ev_dict1 : ev F (.dict m [kx] [vx]) = fun e h => (noEx (ev F kx e h)).bind fun q h1 => (noEx (ev F vx e h1)).bind fun v h2 => dkV m q v h2 := by
  funext e h
  rw [ev, evs]
  cases ev F kx e h with
  | ex _ _ => rfl
  | bad => rfl
  | ok q h1 =>
    rw [bind_ok, evs, bind_ok]
    show (Out.ok [q] h1).bind _ = (Out.ok q h1).bind _
    rw [bind_ok, bind_ok, evs]
    cases ev F vx e h1 with
    | ex _ _ => rfl
    | bad => rfl
    | ok v h2 =>
      rw [bind_ok, evs, bind_ok]
      show (Out.ok [v] h2).bind _ = (Out.ok v h2).bind _
      rw [bind_ok, bind_ok]
      cases q with
      | r n => cases v <;> rfl
      | d k =>
        cases v with
        | r n => rfl
        | d w =>
          show (match zipK [k] [w] [] with
            | some kvs => mkK m kvs h2
            | none => .bad) = _
          by_cases hk : keyS k = true
          · simp [zipK, hk, putK, dkV]
          · simp [zipK, hk, dkV]
theorem s_dictE (hk : ∀ D, SE X (C.plus D) W (ev F kx) ke) (hv : ∀ D, SE X (C.plus D) W (ev F vx) ve) : SE X C W (ev F (.dict m [kx] [vx])) (.Dict [some ke] [ve] pos) := by
  rw [ev_dict1]
  have pk : PE X ke (fun σ H Q => ∃ D, tM X.K (C.plus D) W (ev F kx) σ H Q) := ⟨fun pins s σ H Q I ⟨D, q⟩ => (hk D).pe.run pins s σ H Q I q⟩
  have pv : PE X ve (fun σ H Q => ∃ D, tM X.K (C.plus D) W (ev F vx) σ H Q) := ⟨fun pins s σ H Q I ⟨D, q⟩ => (hv D).pe.run pins s σ H Q I q⟩
  have pd := pe_disp (X := X) (pos := pos) (pps_cons pk pv pps_nil) (by rfl) rfl (by simp) (by simp)
  refine .of_pe ⟨fun pins s σ H Q I q => thn (pd.run pins s σ H (fun u H1 => ∀ pins s, Inv X pins σ H1 s → ∃ H', Inv X pins σ H' s ∧ Q u H') I ?_) fun u s1 ⟨v, H1, I1, rv, f⟩ => ?_⟩ (fun _ => rfl) (fun _ _ => rfl) (fun _ _ => rfl)
  · obtain ⟨e, h, ρ, S, SE, k0⟩ := q
    have k0 : OkV X.K C ρ h H ((noEx (ev F kx e h)).bind fun q h1 => (noEx (ev F vx e h1)).bind fun v h2 => dkV m q v h2) Q (WE' W σ) := k0
    intro p np
    have SEp : SimE X.K (C.plus p) ρ h (upd H p (.dK [])) e σ := SimE.monoH (C := C) (Z := fun a => C.hid a ∨ a = p) (hide_fro np) (fun _ _ e => e) SE
    have whole : ∃ k w h1 h2, ev F kx e h = .ok (.d k) h1 ∧ ev F vx e h1 = .ok (.d w) h2 ∧ keyS k = true ∧ OkV X.K C ρ h H (mkK m [(k, w)] h2) Q (WE' W σ) := by
      cases q1 : ev F kx e h with
      | bad => rw [q1] at k0; exact k0.elim
      | ex _ _ => rw [q1] at k0; exact k0.elim
      | ok q h1 =>
        rw [q1] at k0
        have k1 : OkV X.K C ρ h H ((noEx (ev F vx e h1)).bind fun v h2 => dkV m q v h2) Q (WE' W σ) := k0
        cases q2 : ev F vx e h1 with
        | bad => rw [q2] at k1; exact k1.elim
        | ex _ _ => rw [q2] at k1; exact k1.elim
        | ok v h2 =>
          rw [q2] at k1
          cases q with
          | r n => cases v <;> exact k1.elim
          | d k =>
            cases v with
            | r n => exact k1.elim
            | d w =>
              have k2 : OkV X.K C ρ h H (if keyS k = true then mkK m [(k, w)] h2 else .bad) Q (WE' W σ) := k1
              split at k2
              · rename_i hk
                exact ⟨k, w, h1, h2, rfl, q2, hk, k2⟩
              · exact k2.elim
    obtain ⟨k, w, h1, h2, r1, r2, hks, kF⟩ := whole
    obtain ⟨qk, hqk⟩ := keyS_of hks
    have a0 := Ex0.start (o := .dK []) S np
    refine ⟨p, e, h, ρ, hide_sim S np, SEp, ?_⟩
    rw [r1]
    intro u H1 ρ1 x1 S1 rk
    refine ⟨p, e, h1, ρ1, S1, SEp.mono x1, ?_⟩
    rw [r2]
    intro z H2 ρ2 x2 S2 rv
    have eD : H2 p = some (.dK []) := by
      rw [x2.hid p plus_hid, x1.hid p plus_hid]
      exact upd_same
    have ru := rep_key hqk rk
    subst ru
    refine ⟨eD, [(qk, z)], rfl, by simp, fun pins s I => ?_⟩
    have a2 := ((a0.next x1).next x2).put (o := .dK (mergeK [] [(qk, z)])) S
    refine dict_end (kv := [(k, w)]) (acc := [(qk, z)]) a2 S (hset_sim S2) upd_same (.cons hqk ?_ .nil) (by simp [LIM]) kF pins s I
    exact RepV.monoH (C := C.plus p) (Z := (C.plus p).hid) hset_fro (fun _ _ e => e) (v := .d w) rv
  · obtain ⟨H2, I2, q2⟩ := f pins s1 I1
    exact ⟨v, H2, I2, rv, q2⟩
end
end L3
/-! L3: statements. -/
namespace L3
open PySem PySem.Spec PyProof.Rows L2

section
variable (K : PySem.W.Frag) (C : Cn)
/-- where a statement ends -/
def FlOk (Dn : Ends) (ρ : List Addr) (h : Hs) (H : Hp) (fl : Fl) : Prop := match fl with
  | .nx e => ∀ σ, SimE K C ρ h H e σ → Dn.nx σ H
  | .bk e => ∀ σ, SimE K C ρ h H e σ → Dn.bk σ H
  | .ct e => ∀ σ, SimE K C ρ h H e σ → Dn.ct σ H
  | .rt v => ∀ u, RepV K C ρ h H v u → Dn.rt u H
def OkF (W : WX) (Dn : Ends) (ρ : List Addr) (h : Hs) (H : Hp) (o : Out Fl) : Prop := match o with
  | .ok fl h1 => ∀ H1 ρ1, L3.Ext C ρ h H ρ1 h1 H1 → Sim K C ρ1 h1 H1 → FlOk K C Dn ρ1 h1 H1 fl
  | .ex x h1 => ∀ (cls : Value) (d : Option Addr) (σ : L2.St) (H1 : Hp) (ρ1 : List Addr), L3.Ext C ρ h H ρ1 h1 H1 → Sim K C ρ1 h1 H1 → RepX K C ρ1 h1 H1 x cls d → W cls d σ H1
  | .bad => False
def tS (W : WX) (m : Env → Hs → Out Fl) : TS := fun Dn σ H => ∃ (e : Env) (h : Hs) (ρ : List Addr), Sim K C ρ h H ∧ SimE K C ρ h H e σ ∧ OkF K C W Dn ρ h H (m e h)
end
section
variable {K : PySem.W.Frag} {C : Cn} {W : WX} {Dn Dn' : Ends} {ρ ρ' : List Addr} {h h' : Hs} {H H' : Hp} {o : Out Fl}
theorem OkF.mono (x : L3.Ext C ρ h H ρ' h' H') (k : OkF K C W Dn ρ h H o) : OkF K C W Dn ρ' h' H' o := by
  cases o with
  | ok v h1 => exact fun H1 ρ1 y => k H1 ρ1 (x.trans y)
  | ex v h1 => exact fun c d σ H1 ρ1 y => k c d σ H1 ρ1 (x.trans y)
  | bad => exact k
/-- an expression first: the wish of exceptions holds at any slots -/
theorem OkF.first {α β : Type} {R : List Addr → Hs → Hp → α → β → Prop} {o : Out α} {f : α → Hs → Out Fl} {Q : β → Hp → Prop} {σ : L2.St} (k : OkF K C W Dn ρ h H (o.bind f))
    (n : ∀ v h1 u H1 ρ1, L3.Ext C ρ h H ρ1 h1 H1 → Sim K C ρ1 h1 H1 → R ρ1 h1 H1 v u → OkF K C W Dn ρ1 h1 H1 (f v h1) → Q u H1) : OkO K C R ρ h H o Q (WE' W σ) := by
  cases o with
  | ok v h1 => exact fun u H1 ρ1 y s r => n v h1 u H1 ρ1 y s r (OkF.mono y k)
  | ex v h1 => exact fun c d H1 ρ1 => k c d σ H1 ρ1
  | bad => exact k
/-- a statement first -/
theorem OkF.seq {f : Fl → Hs → Out Fl} (k : OkF K C W Dn ρ h H (o.bind f)) (n : ∀ fl h1 H1 ρ1, L3.Ext C ρ h H ρ1 h1 H1 → Sim K C ρ1 h1 H1 → OkF K C W Dn ρ1 h1 H1 (f fl h1) → FlOk K C Dn' ρ1 h1 H1 fl) : OkF K C W Dn' ρ h H o := by
  cases o with
  | ok v h1 => exact fun H1 ρ1 y s => n v h1 H1 ρ1 y s (OkF.mono y k)
  | ex v h1 => exact k
  | bad => exact k
theorem tM_firstF {σ : L2.St} {e : Env} {m : Env → Hs → Out Vl} {f : Vl → Hs → Out Fl} {Q : VK} (S : Sim K C ρ h H) (SE : SimE K C ρ h H e σ) (k : OkF K C W Dn ρ h H ((m e h).bind f))
    (n : ∀ v h1 u H1 ρ1, L3.Ext C ρ h H ρ1 h1 H1 → Sim K C ρ1 h1 H1 → SimE K C ρ1 h1 H1 e σ → RepV K C ρ1 h1 H1 v u → OkF K C W Dn ρ1 h1 H1 (f v h1) → Q u H1) : tM K C W m σ H Q :=
  ⟨e, h, ρ, S, SE, OkF.first k fun v h1 u H1 ρ1 y s r k1 => n v h1 u H1 ρ1 y s (SE.mono y) r k1⟩
theorem tMt_firstF {σ : L2.St} {e : Env} {m : Env → Hs → Out Vl} {f : Vl → Hs → Out Fl} {Q : Bool → Hp → Prop} (S : Sim K C ρ h H) (SE : SimE K C ρ h H e σ) (k : OkF K C W Dn ρ h H ((m e h).bind f))
    (n : ∀ v h1 u H1 ρ1, L3.Ext C ρ h H ρ1 h1 H1 → Sim K C ρ1 h1 H1 → SimE K C ρ1 h1 H1 e σ → RepV K C ρ1 h1 H1 v u → OkF K C W Dn ρ1 h1 H1 (f v h1) → ∃ b, u = .bl b ∧ Q b H1) : tMt K C W m σ H Q :=
  ⟨e, h, ρ, S, SE, OkF.first k fun v h1 u H1 ρ1 y s r k1 => n v h1 u H1 ρ1 y s (SE.mono y) r k1⟩
theorem tMs_firstF {σ : L2.St} {e : Env} {m : Env → Hs → Out (List Vl)} {f : List Vl → Hs → Out Fl} {Q : List V → Hp → Prop} (S : Sim K C ρ h H) (SE : SimE K C ρ h H e σ) (k : OkF K C W Dn ρ h H ((m e h).bind f))
    (n : ∀ v h1 u H1 ρ1, L3.Ext C ρ h H ρ1 h1 H1 → Sim K C ρ1 h1 H1 → SimE K C ρ1 h1 H1 e σ → RepVs K C ρ1 h1 H1 v u → OkF K C W Dn ρ1 h1 H1 (f v h1) → Q u H1) : tMs K C W m σ H Q :=
  ⟨e, h, ρ, S, SE, OkF.first k fun v h1 u H1 ρ1 y s r k1 => n v h1 u H1 ρ1 y s (SE.mono y) r k1⟩
end
section
variable {F : Nat → List Vl → Hs → Out Vl} {X : Cx} {C : Cn} {W : WX} {a b c tg : Expr} {x y z : Ex} {t : Tn} {pos : Pos} {st : Stmt} {sts : List Stmt}
/-- sound for a statement -/
abbrev SS (F : Nat → List Vl → Hs → Out Vl) (X : Cx) (C : Cn) (W : WX) (s : Sm) (st : Stmt) : Prop := PS X st (tS X.K C W (exec F s))
abbrev SSs (F : Nat → List Vl → Hs → Out Vl) (X : Cx) (C : Cn) (W : WX) (s : List Sm) (st : List Stmt) : Prop := PSs X st (tS X.K C W (execs F s))
theorem s_wall : SS F X C W .wall st := by
  refine PS.imp ps_never fun Dn σ H ⟨e, h, ρ, S, SE, k⟩ => ?_
  rw [exec] at k
  exact k
theorem s_pass : SS F X C W .pass (.Pass pos) := by
  refine PS.imp ps_pass fun Dn σ H ⟨e, h, ρ, S, SE, k⟩ => ?_
  rw [exec] at k
  exact k H ρ L3.Ext.refl S σ SE
theorem s_brk : SS F X C W .brk (.Break pos) := by
  refine PS.imp ps_break fun Dn σ H ⟨e, h, ρ, S, SE, k⟩ => ?_
  rw [exec] at k
  exact k H ρ L3.Ext.refl S σ SE
theorem s_cont : SS F X C W .cont (.Continue pos) := by
  refine PS.imp ps_continue fun Dn σ H ⟨e, h, ρ, S, SE, k⟩ => ?_
  rw [exec] at k
  exact k H ρ L3.Ext.refl S σ SE
theorem s_retN : SS F X C W .retN (.Return none pos) := by
  refine PS.imp ps_retN fun Dn σ H ⟨e, h, ρ, S, SE, k⟩ => ?_
  rw [exec] at k
  exact k H ρ L3.Ext.refl S .non .non
theorem s_ret (ha : SE X C W (ev F x) a) : SS F X C W (.ret x) (.Return (some a) pos) := by
  refine PS.imp (ps_ret ha.pe) fun Dn σ H ⟨e, h, ρ, S, SE, k⟩ => ?_
  rw [exec] at k
  exact tM_firstF S SE k fun v h1 u H1 ρ1 x1 S1 SE1 r k1 => k1 H1 ρ1 L3.Ext.refl S1 u r
/-- no comprehension that a name of the same line is given to -/
def noLc (e : Expr) : Bool := match e with
  | .ListComp _ _ _ _ => false
  | .SetComp _ _ _ _ => false
  | .DictComp _ _ _ _ _ => false
  | _ => true
theorem noLc_ok {e : Expr} {t : Option Expr} {l : Nat} {env : PySem.Env} (h : noLc e = true) : swapsWith e t l env = pure false := by
  cases e <;> first | rfl | cases h
theorem s_expr (ha : SE X C W (ev F x) a) (hn : noLc a = true) : SS F X C W (.expr x) (.Expr a pos) := by
  refine PS.imp (ps_expr ha.pe (noLc_ok hn)) fun Dn σ H ⟨e, h, ρ, S, SE, k⟩ => ?_
  rw [exec] at k
  exact tM_firstF S SE k fun v h1 u H1 ρ1 x1 S1 SE1 r k1 => k1 H1 ρ1 L3.Ext.refl S1 σ SE1
theorem s_ite {A B : List Sm} {as bs : List Stmt} (hc : SE X C W (ev F x) c) (ha : SSs F X C W A as) (hb : SSs F X C W B bs) : SS F X C W (.ite x A B) (.If c as bs pos) := by
  refine PS.imp (ps_if hc.pt ha hb) fun Dn σ H ⟨e, h, ρ, S, SE, k⟩ => ?_
  rw [exec] at k
  refine tMt_firstF S SE k fun v h1 u H1 ρ1 x1 S1 SE1 r k1 => ?_
  split at k1
  · rename_i b
    refine ⟨b, repV_bl r, ?_⟩
    cases b with
    | true => exact ⟨e, h1, ρ1, S1, SE1, k1⟩
    | false => exact ⟨e, h1, ρ1, S1, SE1, k1⟩
  · exact k1.elim
/-- the rows of statements -/
theorem ss_nil : SSs F X C W [] [] := by
  refine PSs.imp pss_nil fun Dn σ H ⟨e, h, ρ, S, SE, k⟩ => ?_
  rw [execs] at k
  exact k H ρ L3.Ext.refl S σ SE
theorem ss_cons {s : Sm} {r : List Sm} (h1 : SS F X C W s st) (h2 : SSs F X C W r sts) : SSs F X C W (s :: r) (st :: sts) := by
  refine PSs.imp (pss_cons h1 h2) fun Dn σ H ⟨e, h, ρ, S, SE, k⟩ => ?_
  rw [execs] at k
  refine ⟨e, h, ρ, S, SE, OkF.seq k fun fl h1 H1 ρ1 x1 S1 k1 => ?_⟩
  cases fl with
  | nx e1 => exact fun σ1 SE1 => ⟨e1, h1, ρ1, S1, SE1, k1⟩
  | rt v => exact k1 H1 ρ1 L3.Ext.refl S1
  | bk e1 => exact k1 H1 ρ1 L3.Ext.refl S1
  | ct e1 => exact k1 H1 ρ1 L3.Ext.refl S1
/-- a name's cell becomes data: no text -/
theorem ss_frzv {i : Nat} {r : List Sm} (h2 : SSs F X C W r sts) : SSs F X C W (.frzv i :: r) sts := by
  refine ⟨fun pins s σ H Dn I ⟨e, h, ρ, S, SE, k⟩ => ?_⟩
  rw [execs, exec] at k
  cases q : e[i]? with
  | none =>
    rw [q] at k
    exact k.elim
  | some o =>
    rw [q] at k
    cases o with
    | none => exact k.elim
    | some v =>
      obtain ⟨u, eu, ru⟩ := SE.2 i v q
      rw [bind_assoc'] at k
      have key : OkV X.K C ρ h H (freeze v h) (fun w H1 => w = u → tS X.K C W (execs F r) Dn σ H1) (WE' W σ) := by
        refine OkF.first k fun w h1 z H1 ρ1 x1 S1 r1 k1 => ?_
        intro ez
        subst ez
        refine ⟨setE e i w, h1, ρ1, S1, ?_, k1⟩
        have SE1 := SE.mono x1
        have := SE1.put (X := X) (i := i) r1
        refine ⟨by rw [← SE1.1]; unfold setE; rw [List.length_set], fun j w' e1 => ?_⟩
        obtain ⟨u', a', b'⟩ := this.2 j w' e1
        refine ⟨u', ?_, b'⟩
        by_cases hj : i = j
        · subst hj
          have hl : i < σ.length := (List.getElem?_eq_some_iff.mp eu).1
          rw [List.getElem?_set_self hl] at a'
          rw [← a']
          exact eu
        · rw [List.getElem?_set_ne hj] at a'
          exact a'
      obtain ⟨H', I', q'⟩ := freeze_ok I S ru key
      exact h2.run pins s σ H' Dn I' (q' rfl)
/-- target = value -/
def noPar (tg e : Expr) : Bool := match e with
  | .Tuple _ _ _ => (match tg with
    | .Tuple _ _ _ => false
    | .List _ _ => false
    | _ => true)
  | _ => true
theorem noPar_ok {tg e : Expr} {env : PySem.Env} (h : noPar tg e = true) : swappedStores [tg] e env = pure none := by
  cases e <;> first | rfl | skip
  all_goals cases tg <;> first | rfl | cases h
def noStarT (tg : Expr) : Bool := match tg with
  | .Starred _ _ => false
  | _ => true
theorem noStarT_ok {tg : Expr} {env : PySem.Env} (h : noStarT tg = true) : (assignEach [tg] env).map (·.2) = [assign tg env] := by
  cases tg <;> first | rfl | cases h
theorem fm_lt {α β : Type} {f : α → Option β} : ∀ {l : List α}, (l.filterMap f).length ≤ l.length ∧ ((l.any fun x => (f x).isNone) = true → (l.filterMap f).length < l.length)
  | [] => by simp
  | x :: r => by
    have ih := fm_lt (f := f) (l := r)
    rw [List.filterMap_cons, List.any_cons]
    cases q : f x with
    | none =>
      simp only [List.length_cons]
      exact ⟨by omega, fun _ => by omega⟩
    | some y =>
      simp only [List.length_cons, Option.isNone_some, Bool.false_or]
      exact ⟨by omega, fun z => by have := ih.2 z; omega⟩
def parCell (sc : Scope) (tg : Expr) : Bool := match tg with
  | .Tuple es _ _ => es.any fun e => match e with
    | .Name n _ => !(sc.names.lookup n == some .local)
    | _ => true
  | _ => false
theorem parCell_ok {sc : Scope} {tg e : Expr} {env : PySem.Env} (hs : env.scope = sc) (h : parCell sc tg = true) : swappedStores [tg] e env = pure none := by
  unfold parCell at h
  split at h
  · rename_i es kk p
    cases e <;> first | rfl | skip
    rename_i vs k2 p2
    unfold swappedStores
    dsimp only
    split
    · rfl
    · split
      · rfl
      · split
        · rfl
        · rename_i hn
          exfalso
          refine hn ?_
          rw [Bool.or_eq_true]
          refine .inl (bne_iff_ne.mpr (Nat.ne_of_lt (fm_lt.2 ?_)))
          obtain ⟨x, hx, hq⟩ := List.any_eq_true.mp h
          refine List.any_eq_true.mpr ⟨x, hx, ?_⟩
          cases x <;> first | rfl | skip
          rename_i n q
          have hkn : (env.kindOf n == some .local) = false := by
            unfold Env.kindOf
            rw [hs]
            simpa using hq
          simp only [hkn, Bool.false_and, Bool.false_eq_true, if_false, Option.isNone_none]
  · cases h
theorem s_asg (ha : SE X C W (ev F x) a) (hg : PG X tg (gT X.K t)) (hs : swapsWith a (some tg) pos.line X.env = pure false) (hp : swappedStores [tg] a X.env = pure none) (hst : noStarT tg = true) : SS F X C W (.asg t x) (.Assign [tg] a pos) := by
  refine PS.imp (ps_asg ha.pe hg hs hp (noStarT_ok hst)) fun Dn σ H ⟨e, h, ρ, S, SE, k⟩ => ?_
  rw [exec] at k
  refine tM_firstF S SE k fun v h1 u H1 ρ1 x1 S1 SE1 r k1 => ?_
  cases q : bindT t [v] e with
  | none =>
    rw [q] at k1
    exact k1.elim
  | some e1 =>
    rw [q] at k1
    exact gT_ok SE1 (.inl ⟨v, rfl, r⟩) q fun σ2 s2 _ => k1 H1 ρ1 L3.Ext.refl S1 σ2 s2
end
end L3
/-! L3: stores, methods that change, loops. -/
namespace L3
open PySem PySem.Spec PyProof.Rows L2

section
variable {T : Tb} {Z : Addr → Prop} {F : Nat → List Vl → Hs → Out Vl} {X : Cx} {C : Cn} {W : WX} {a b c tg o : Expr} {x y z : Ex} {t : Tn} {pos : Pos} {st : Stmt} {sts : List Stmt} {sc : Scope}
theorem blk_fun {env : PySem.Env} (h : env.scope.kind = .function) : env.blockKind = .function := by
  unfold Env.blockKind
  rw [h]
  rfl
/-- a comprehension, given to a name of its line -/
def swB (sc : Scope) (value target : Expr) : Bool := match value with
  | .ListComp _ _ s p => (match target with
    | .Name t q => (sc.names.lookup t == some .local) && (q.line == p.line) && !(s.names.any fun (n, k) => n == t && (k == .local || k == .cell))
    | _ => false)
  | _ => !noLc value
theorem sw_false {l : Nat} {env : PySem.Env} (hk : env.scope.kind = .function) (hs : env.scope = sc) (h : swB sc a tg = false) : swapsWith a (some tg) l env = pure false := by
  unfold swB at h
  split at h
  · rename_i elt gs s p
    split at h
    · rename_i n q
      have ky : env.kindOf n = sc.names.lookup n := by unfold Env.kindOf; rw [hs]
      unfold swapsWith
      simp only [blk_fun hk, ky, Expr.pos]
      show (pure _ : Sem Bool) = pure _
      congr 1
    · rename_i hn
      cases tg <;> first | rfl | exact absurd rfl (hn _ _)
  · refine noLc_ok ?_
    rw [Bool.not_eq_false'] at h
    exact h
/-- a, b = x, y as the machine has it: not a tuple's way -/
def parB (sc : Scope) (ts : List Expr) (vs : List Expr) : Bool := match ts with
  | .Name n p :: r => (sc.names.lookup n == some .local) && (r.all fun e => match e with
      | .Name m q => (sc.names.lookup m == some .local) && (q.line == p.line) && !(m == n)
      | _ => false) && !(vs.all (foldedForSure 8)) && !(vs.all (constantsAlone 8)) && !(vs.any fun e => match e with
      | .Starred _ _ => true
      | _ => false)
  | _ => false
theorem par2_ok {n m : Str} {p q pt pt2 : Pos} {k k2 : Nat} {env : PySem.Env} (hk : env.scope.kind = .function) (hs : env.scope = sc) (h : parB sc [.Name n p, .Name m q] [a, b] = true) :
    swappedStores [.Tuple [.Name n p, .Name m q] k pt] (.Tuple [a, b] k2 pt2) env = pure (some [n, m]) := by
  unfold parB at h
  simp only [Bool.and_eq_true, List.all_cons, List.all_nil, Bool.and_true, Bool.not_eq_true'] at h
  obtain ⟨⟨⟨⟨h1, ⟨h2, h3⟩, h4⟩, h5⟩, h6⟩, h7⟩ := h
  have kn : env.kindOf n = some .local := by unfold Env.kindOf; rw [hs]; exact eq_of_beq h1
  have km : env.kindOf m = some .local := by unfold Env.kindOf; rw [hs]; exact eq_of_beq h2
  have hnm : m ≠ n := by simpa using h4
  unfold swappedStores
  simp only [blk_fun hk, List.length_cons, List.length_nil, h7, h5, h6, List.head?_cons, Option.map_some, Option.getD_some, Expr.pos, List.filterMap_cons, List.filterMap_nil, kn, km, h3]
  have hb : (p.line == p.line) = true := beq_self_eq_true _
  simp only [List.any_cons, List.any_nil, Bool.or_false, Bool.or_eq_false_iff] at h7
  obtain ⟨h8, h9⟩ := h7
  simp only [Bool.and_eq_false_iff] at h5 h6
  simp [hb, h3, List.eraseDups_cons, hnm]
  rw [if_neg (by
    intro z
    rcases z with z | z
    · cases a <;> simp at h8 z
    · cases b <;> simp at h9 z), if_neg (by rcases h5 with z | z <;> rw [z] <;> simp), if_neg (by rcases h6 with z | z <;> rw [z] <;> simp)]
theorem s_par2 {i j : Nat} {n m : Str} {p q pt pt2 : Pos} {k k2 : Nat} (hc : X.calm = true) (hN : X.N.Nodup) (hi : X.N[i]? = some n) (hj : X.N[j]? = some m) (hij : i ≠ j) (hk : X.env.scope.kind = .function) (hs : X.env.scope = sc) (hp : parB sc [.Name n p, .Name m q] [a, b] = true)
    (ha : SE X C W (ev F x) a) (hb : SE X C W (ev F y) b) : SS F X C W (.par [i, j] [x, y]) (.Assign [.Tuple [.Name n p, .Name m q] k pt] (.Tuple [a, b] k2 pt2) pos) := by
  have hw := par2_ok (pt := pt) (pt2 := pt2) (k := k) (k2 := k2) hk hs hp
  unfold parB at hp
  simp only [Bool.and_eq_true, List.all_cons, List.all_nil, Bool.and_true, Bool.not_eq_true'] at hp
  obtain ⟨⟨⟨⟨h1, ⟨h2, h3⟩, h4⟩, h5⟩, h6⟩, h7⟩ := hp
  refine PS.imp (ps_par hc hN hi hj hij (by rw [hs]; exact eq_of_beq h1) (by rw [hs]; exact eq_of_beq h2) (AllE.pa (xs := [x, y]) (es := [a, b]) ⟨ha, hb, trivial⟩) hw) fun Dn σ H ⟨e, h, ρ, S, SE, k⟩ => ?_
  rw [exec] at k
  refine tMs_firstF S SE k fun vs h1 us H1 ρ1 x1 S1 SE1 r k1 => ?_
  split at k1
  · rename_i hl
    cases r with
    | nil => simp at hl
    | cons r1 r2 =>
      cases r2 with
      | nil => simp at hl
      | cons r3 r4 =>
        cases r4 with
        | cons _ _ => simp at hl
        | nil => exact ⟨_, _, rfl, k1 H1 ρ1 L3.Ext.refl S1 _ ((SE1.put (X := X) r1).put (X := X) r3)⟩
  · exact k1.elim
/-- o[i] = v -/
def rSet (K : PySem.W.Frag) (C : Cn) : TSet := fun o i v H Q => ∃ (h : Hs) (ρ : List Addr) (a k w : Vl), Sim K C ρ h H ∧ RepV K C ρ h H a o ∧ RepV K C ρ h H k i ∧ RepV K C ρ h H w v ∧ OkO K C (fun _ _ _ (_ : Unit) (_ : Unit) => True) ρ h H (setV a k w h) (fun _ H1 => Q H1) (fun _ _ _ => False)
theorem set_ok (hu : X.A.units + 1 < cLine) : PSet X (rSet X.K C) := by
  intro pins s σ H o i v ov iv u Q I ro ri rv ⟨h, ρ, a, k, w, S, ra, rk, rw', q⟩
  unfold setV at q
  split at q
  · rename_i n
    obtain ⟨p, hp, rfl⟩ := ra
    split at q
    · rename_i vs hc
      obtain ⟨ws, e2, e3⟩ := S.ok _ _ p hc hp
      split at q
      · rename_i j
        split at q
        · rename_i qq hq
          have ei := repV_int rk
          subst ei
          have x1 := ext_set (H' := upd H p (.lst (ws.set qq v))) (c' := .lst (vs.set qq w)) S hp hc (by intro z; cases z) fun a ne => upd_ne ne
          have S1 := S.set (H' := upd H p (.lst (ws.set qq v))) (c' := .lst (vs.set qq w)) hp hc (by intro z; cases z) (fun a ne => upd_ne ne) ⟨ws.set qq v, upd_same, Paired.set' (rw'.mono x1) qq (RepVs.mono x1 e3)⟩
          exact set_list pins s σ H _ _ v ov iv u Q I ro ri rv ⟨p, ws, j, qq, rfl, rfl, e2, by rw [← e3.len, ← ixOf_eq]; exact hq, q () _ ρ x1 S1 trivial⟩
        · exact q.elim
      · exact q.elim
    · rename_i kvs hc
      obtain ⟨ks, e2, e3⟩ := S.ok _ _ p hc hp
      split at q
      · rename_i qd
        split at q
        · rename_i wd
          split at q
          · rename_i hq
            obtain ⟨hks, hlim⟩ := Bool.and_eq_true_iff.mp hq
            have hlim := of_decide_eq_true hlim
            obtain ⟨qk, hqk⟩ := keyS_of hks
            have ei := rep_key hqk rk
            subst ei
            have x1 := ext_set (H' := upd H p (.dK (L2.putK ks qk v))) (c' := .dic (putK kvs qd wd)) S hp hc (by intro z; cases z) fun a ne => upd_ne ne
            have S1 := S.set (H' := upd H p (.dK (L2.putK ks qk v))) (c' := .dic (putK kvs qd wd)) hp hc (by intro z; cases z) (fun a ne => upd_ne ne) ⟨L2.putK ks qk v, upd_same, Repk.mono x1.fro (repk_put hqk rw' e3)⟩
            cases ro
            exact d_setItem hu I (DPut.k e2 (by rw [← e3.len]; exact lim_lt hlim)) ri rv fun s' I' => ⟨_, I', q () _ ρ x1 S1 trivial⟩
          · exact q.elim
        · exact q.elim
      · exact q.elim
    · exact q.elim
  · exact q.elim
theorem setV_calm {a k w : Vl} {h : Hs} {x : D} {h' : Hs} : setV a k w h ≠ .ex x h' := by
  unfold setV
  repeat' split
  all_goals (intro z; cases z)
def noSl (i : Expr) : Bool := match i with
  | .Slice _ _ _ _ => false
  | _ => true
theorem s_sub {i : Expr} {p : Pos} (hu : X.A.units + 1 < cLine) (hns : noSl i = true) (hv : SE X C W (ev F x) a) (ho : SE X C W (ev F y) o) (hi : SE X C W (ev F z) i) (hl : noLc a = true) : SS F X C W (.sub y z x) (.Assign [.Subscript o i p] a pos) := by
  have pg : PG X (.Subscript o i p) (gSub (tM X.K C W (ev F y)) (tM X.K C W (ev F z)) (rSet X.K C)) := pg_sub ho.pe hi.pe (set_ok hu) (by intro v; cases i <;> first | rfl | cases hns)
  refine PS.imp (ps_asg hv.pe pg (show swapsWith a (some (.Subscript o i p)) pos.line X.env = pure false from noLc_ok hl) (noPar_ok (by cases a <;> rfl)) (by rfl)) fun Dn σ H ⟨e, h, ρ, S, SE, k⟩ => ?_
  rw [exec] at k
  refine tM_firstF S SE k fun v h1 u H1 ρ1 x1 S1 SE1 r k1 => ?_
  refine tM_firstF S1 SE1 k1 fun a' h2 u2 H2 ρ2 x2 S2 SE2 r2 k2 => ?_
  refine tM_firstF S2 SE2 k2 fun k' h3 u3 H3 ρ3 x3 S3 SE3 r3 k3 => ?_
  refine ⟨h3, ρ3, a', k', v, S3, r2.mono x3, r3, (r.mono x2).mono x3, ?_⟩
  cases q : setV a' k' v h3 with
  | bad =>
    rw [q] at k3
    exact k3
  | ex z h4 => exact absurd q setV_calm
  | ok w h4 =>
    rw [q] at k3
    exact fun _ H4 ρ4 x4 S4 _ => k3 H4 ρ4 x4 S4 σ (SE3.mono x4)
/-! ### o.f = v -/
theorem put_set : ∀ {l : List (Str × V)} {f : Str} {v : V} {i : Nat}, (l.map (·.1)).Nodup → (l.map (·.1))[i]? = some f → putF f v l = l.set i (f, v)
  | [], _, _, _, _, e => by simp at e
  | (m, u) :: r, f, v, 0, _, e => by
    simp at e
    subst e
    show (if m = m then (m, v) :: r else _) = _
    rw [if_pos rfl]
    rfl
  | (m, u) :: r, f, v, i + 1, nd, e => by
    simp only [List.map_cons, List.nodup_cons] at nd
    have e' : (r.map (·.1))[i]? = some f := by simpa using e
    have hne : m ≠ f := fun z => nd.1 (by rw [z]; exact List.mem_of_getElem? e')
    show (if m = f then (m, v) :: r else (m, u) :: putF f v r) = _
    rw [if_neg hne, put_set nd.2 e']
    rfl
theorem put_new : ∀ {l : List (Str × V)} {f : Str} {v : V}, f ∉ l.map (·.1) → putF f v l = l ++ [(f, v)]
  | [], _, _, _ => rfl
  | (m, u) :: r, f, v, h => by
    simp only [List.map_cons, List.mem_cons, not_or] at h
    show (if m = f then (m, v) :: r else (m, u) :: putF f v r) = _
    rw [if_neg (Ne.symm h.1), put_new h.2]
    rfl
theorem s_fld {c i : Nat} {n : Str} {d : Cl} {p : Pos} (fa : ∀ (c : Nat) (d : Cl), T.cls[c]? = some d → ClF T X.K X.mg d) (hd : T.cls[c]? = some d) (hi : d.fl[i]? = some n) (ho : SE X (T.cn Z) W (ev F y) o) (hv : SE X (T.cn Z) W (ev F x) a) :
    SS F X (T.cn Z) W (.fld c i n y x) (.Assign [.Attribute o n p] a pos) := by
  refine PS.imp (ps_fld ho.pe hv.pe (by cases a <;> rfl)) fun Dn σ H ⟨e, h, ρ, S, SE, k⟩ => ?_
  rw [exec] at k
  refine tM_firstF S SE k fun v h1 u H1 ρ1 x1 S1 SE1 r k1 => ?_
  refine tM_firstF S1 SE1 k1 fun a' h2 u2 H2 ρ2 x2 S2 SE2 r2 k2 => ?_
  unfold fldV at k2
  split at k2
  · rename_i m
    obtain ⟨q, hq, rfl⟩ := r2
    split at k2
    · rename_i k' fs hc
      obtain ⟨dx, l, ek, e2, e3, e4⟩ := S2.ok _ _ q hc hq
      split at k2
      · rename_i hkc
        subst hkc
        have f := fa _ _ hd
        rw [ca_of hd] at e2
        rw [fl_of hd] at e3
        have nd : (l.map (·.1)).Nodup := by
          rw [e3]
          exact f.nd.sublist (List.take_sublist _ _)
        have hlen : l.length = fs.length := by
          have := e4.len
          rw [List.length_map] at this
          exact this.symm
        have hll : l.length < 1000 := by
          have := congrArg List.length e3
          rw [List.length_map, List.length_take] at this
          have := f.len
          omega
        have hil : i < d.fl.length := (List.getElem?_eq_some_iff.mp hi).1
        split at k2
        · rename_i hlt
          have en : (l.map (·.1))[i]? = some n := by
            rw [e3, List.getElem?_take_of_lt hlt]
            exact hi
          have ep := put_set (v := u) nd en
          refine ⟨q, d.ad, dx, l, rfl, e2, f.cl, f.no n (List.mem_of_getElem? hi), hll, ?_⟩
          rw [ep]
          have x3 := ext_set (H' := upd H2 q (.ins d.ad dx (l.set i (n, u)))) (c' := .ins k' (fs.set i v)) S2 hq hc (by intro z; cases z) fun a ne => upd_ne ne
          have ok : CellOk X.K (T.cn Z) ρ2 (h2.set m (.ins k' (fs.set i v))) (upd H2 q (.ins d.ad dx (l.set i (n, u)))) (.ins k' (fs.set i v)) q := by
            refine ⟨dx, l.set i (n, u), ek, by rw [ca_of hd]; exact upd_same, ?_, ?_⟩
            · rw [fl_of hd, List.length_set, List.map_set, ← e3]
              refine List.ext_getElem? fun j => ?_
              by_cases hj : i = j
              · subst hj
                rw [List.getElem?_set_self (by rw [List.length_map, hlen]; exact hlt), en]
              · rw [List.getElem?_set_ne hj]
            · rw [List.map_set]
              exact Paired.set' ((r.mono x2).mono x3) i (RepVs.mono x3 e4)
          exact k2 _ ρ2 x3 (S2.set hq hc (by intro z; cases z) (fun a ne => upd_ne ne) ok) σ (SE2.mono x3)
        · split at k2
          · rename_i heq
            have en : n ∉ l.map (·.1) := by
              intro hm
              rw [e3] at hm
              obtain ⟨j, hj, ej⟩ := List.mem_iff_getElem.mp hm
              rw [List.length_take] at hj
              have e5 : d.fl[j]? = some n := by
                rw [← List.getElem?_take_of_lt (j := fs.length) (by omega)]
                rw [List.getElem?_eq_getElem (by rw [List.length_take]; exact hj), ej]
              exact absurd (nodup_ix f.nd hi e5) (by omega)
            have ep := put_new (v := u) en
            refine ⟨q, d.ad, dx, l, rfl, e2, f.cl, f.no n (List.mem_of_getElem? hi), hll, ?_⟩
            rw [ep]
            have x3 := ext_set (H' := upd H2 q (.ins d.ad dx (l ++ [(n, u)]))) (c' := .ins k' (fs ++ [v])) S2 hq hc (by intro z; cases z) fun a ne => upd_ne ne
            have ok : CellOk X.K (T.cn Z) ρ2 (h2.set m (.ins k' (fs ++ [v]))) (upd H2 q (.ins d.ad dx (l ++ [(n, u)]))) (.ins k' (fs ++ [v])) q := by
              refine ⟨dx, l ++ [(n, u)], ek, by rw [ca_of hd]; exact upd_same, ?_, ?_⟩
              · rw [fl_of hd, List.map_append, e3, List.length_append, List.length_singleton, List.take_add_one, ← heq, hi]
                rfl
              · rw [List.map_append]
                exact Paired.app' (RepVs.mono x3 e4) (.cons ((r.mono x2).mono x3) .nil)
            exact k2 _ ρ2 x3 (S2.set hq hc (by intro z; cases z) (fun a ne => upd_ne ne) ok) σ (SE2.mono x3)
          · exact k2.elim
      · exact k2.elim
    · exact k2.elim
  · exact k2.elim
end
end L3
/-! L3: methods that change a list; loops; a comprehension given to a name. -/
namespace L3
open PySem PySem.Spec PyProof.Rows L2

section
variable {F : Nat → List Vl → Hs → Out Vl} {X : Cx} {C : Cn} {W : WX} {a b c tg o : Expr} {x y z : Ex} {t : Tn} {pos : Pos} {st : Stmt} {sts : List Stmt} {sc : Scope}
theorem isLst_ok {ρ : List Addr} {h : Hs} {H : Hp} {v : Vl} {u : V} (S : Sim X.K C ρ h H) (r : RepV X.K C ρ h H v u) (e : isLst v h = true) : tyV X.K "list" u H := by
  unfold isLst at e
  split at e
  · rename_i n
    obtain ⟨p, hp, rfl⟩ := r
    split at e
    · rename_i vs hc
      obtain ⟨ws, e2, _⟩ := S.ok _ _ p hc hp
      exact .inl ⟨rfl, ws, .of e2⟩
    · cases e
  · cases e
theorem few1 {p : Pos} (ha : NoStar a) : ((backTo p (starEach [a] X.env)).all (fun x => !x.1) && (backToKw p (keywordEach [] X.env)).all (fun x => x.1.isSome) && decide (([a] : List Expr).length + ([] : List Keyword).length + (if ([] : List Keyword).isEmpty then 0 else 1) < 30)) = true := by
  rw [ha]
  rfl
theorem s_app {p q : Pos} (ho : SE X C W (ev F y) o) (ha : SE X C W (ev F x) a) (hb : attributeBase o "append" X.env (eval o X.env) = eval o X.env) (hl : (p.endLine == q.line) = true) : SS F X C W (.app y x) (.Expr (.Call (.Attribute o "append" p) [a] [] q) pos) := by
  have pa : PA X [a] (tMs X.K C W (evs F [x])) := AllE.pa (xs := [x]) (es := [a]) ⟨ha, trivial⟩
  refine PS.imp (ps_expr (pe_bm PySem.F.plainAttrs_list PySem.F.slot_list_append PySem.F.type_list_append mt_append ho.pe pa hb (few1 ha.st) hl (ha.st _ _) (by rfl)) (by rfl)) fun Dn σ H ⟨e, h, ρ, S, SE, k⟩ => ?_
  rw [exec] at k
  refine tM_firstF S SE k fun v h1 u H1 ρ1 x1 S1 SE1 r k1 => ?_
  split at k1
  · rename_i hi
    refine ⟨isLst_ok S1 r hi, ?_⟩
    have k1' : OkF X.K C W Dn ρ1 h1 H1 ((evs F [x] e h1).bind fun vs h2 => match vs with
      | [w] => appV v w e h2
      | _ => .bad) := by
      rw [evs1]
      exact k1
    refine tMs_firstF S1 SE1 k1' fun vs h2 us H2 ρ2 x2 S2 SE2 r2 k2 => ?_
    split at k2
    · rename_i w
      obtain ⟨z, rfl, rz⟩ := vs1 r2
      unfold appV at k2
      split at k2
      · rename_i n
        obtain ⟨p, hp, rfl⟩ := r.mono x2
        split at k2
        · rename_i vs hc
          obtain ⟨ws, e2, e3⟩ := S2.ok _ _ p hc hp
          split at k2
          · rename_i hlim
            have x3 := ext_set (H' := upd H2 p (.lst (ws ++ [z]))) (c' := .lst (vs ++ [w])) S2 hp hc (by intro z; cases z) fun a ne => upd_ne ne
            have S3 := S2.set (H' := upd H2 p (.lst (ws ++ [z]))) (c' := .lst (vs ++ [w])) hp hc (by intro z; cases z) (fun a ne => upd_ne ne) ⟨ws ++ [z], upd_same, Paired.app' (RepVs.mono x3 e3) (.cons (rz.mono x3) .nil)⟩
            exact ⟨p, ws, z, rfl, rfl, e2, by rw [← e3.len]; exact lim_lt hlim, k2 _ ρ2 x3 S3 σ (SE2.mono x3)⟩
          · exact k2.elim
        · exact k2.elim
      · exact k2.elim
    · exact k2.elim
  · exact k1.elim
theorem s_ext {p q : Pos} (ho : SE X C W (ev F y) o) (ha : SE X C W (ev F x) a) (hb : attributeBase o "extend" X.env (eval o X.env) = eval o X.env) (hl : (p.endLine == q.line) = true) : SS F X C W (.ext y x) (.Expr (.Call (.Attribute o "extend" p) [a] [] q) pos) := by
  have pa : PA X [a] (tMs X.K C W (evs F [x])) := AllE.pa (xs := [x]) (es := [a]) ⟨ha, trivial⟩
  refine PS.imp (ps_expr (pe_bm PySem.F.plainAttrs_list PySem.F.slot_list_extend PySem.F.type_list_extend mt_extend ho.pe pa hb (few1 ha.st) hl (ha.st _ _) (by rfl)) (by rfl)) fun Dn σ H ⟨e, h, ρ, S, SE, k⟩ => ?_
  rw [exec] at k
  refine tM_firstF S SE k fun v h1 u H1 ρ1 x1 S1 SE1 r k1 => ?_
  split at k1
  · rename_i hi
    refine ⟨isLst_ok S1 r hi, ?_⟩
    have k1' : OkF X.K C W Dn ρ1 h1 H1 ((evs F [x] e h1).bind fun vs h2 => match vs with
      | [w] => extV v w e h2
      | _ => .bad) := by
      rw [evs1]
      exact k1
    refine tMs_firstF S1 SE1 k1' fun vs h2 us H2 ρ2 x2 S2 SE2 r2 k2 => ?_
    split at k2
    · rename_i w
      obtain ⟨z, rfl, rz⟩ := vs1 r2
      unfold extV at k2
      split at k2
      · rename_i n
        obtain ⟨p, hp, rfl⟩ := r.mono x2
        split at k2
        · rename_i vs hc
          obtain ⟨ws, e2, e3⟩ := S2.ok _ _ p hc hp
          split at k2
          · rename_i us hv
            obtain ⟨p', ws', rfl, e2', e3'⟩ := lview_ok S2 hv rz
            split at k2
            · rename_i hlim
              have x3 := ext_set (H' := upd H2 p (.lst (ws ++ ws'))) (c' := .lst (vs ++ us)) S2 hp hc (by intro z; cases z) fun a ne => upd_ne ne
              have S3 := S2.set (H' := upd H2 p (.lst (ws ++ ws'))) (c' := .lst (vs ++ us)) hp hc (by intro z; cases z) (fun a ne => upd_ne ne) ⟨ws ++ ws', upd_same, Paired.app' (RepVs.mono x3 e3) (RepVs.mono x3 e3')⟩
              exact ⟨p, p', ws, ws', rfl, rfl, e2, e2', by rw [← e3.len, ← e3'.len]; exact lim_line hlim, k2 _ ρ2 x3 S3 σ (SE2.mono x3)⟩
            · exact k2.elim
          · exact k2.elim
        · exact k2.elim
      · exact k2.elim
    · exact k2.elim
  · exact k1.elim
theorem s_clr {p q : Pos} (ho : SE X C W (ev F y) o) (hb : attributeBase o "clear" X.env (eval o X.env) = eval o X.env) (hl : (p.endLine == q.line) = true) : SS F X C W (.clr y) (.Expr (.Call (.Attribute o "clear" p) [] [] q) pos) := by
  refine PS.imp (ps_expr (pe_bm0 PySem.F.plainAttrs_list PySem.F.slot_list_clear PySem.F.type_list_clear mt_clear ho.pe hb hl) (by rfl)) fun Dn σ H ⟨e, h, ρ, S, SE, k⟩ => ?_
  rw [exec] at k
  refine tM_firstF S SE k fun v h1 u H1 ρ1 x1 S1 SE1 r k1 => ?_
  unfold clrV at k1
  split at k1
  · rename_i n
    obtain ⟨p, hp, rfl⟩ := r
    split at k1
    · rename_i vs hc
      obtain ⟨ws, e2, e3⟩ := S1.ok _ _ p hc hp
      have x3 := ext_set (H' := upd H1 p (.lst [])) (c' := .lst []) S1 hp hc (by intro z; cases z) fun a ne => upd_ne ne
      have S3 := S1.set (H' := upd H1 p (.lst [])) (c' := .lst []) hp hc (by intro z; cases z) (fun a ne => upd_ne ne) ⟨[], upd_same, .nil⟩
      exact ⟨.inl ⟨rfl, ws, .of e2⟩, p, ws, rfl, rfl, e2, k1 _ ρ1 x3 S3 σ (SE1.mono x3)⟩
    · exact k1.elim
  · exact k1.elim
/-- list.pop -/
theorem s_pop1 {p q : Pos} (ho : SE X C W (ev F y) o) (ha : SE X C W (ev F x) a) (hb : attributeBase o "pop" X.env (eval o X.env) = eval o X.env) (hl : (p.endLine == q.line) = true) : SE X C W (ev F (.popc y [x])) (.Call (.Attribute o "pop" p) [a] [] q) := by
  have pa : PA X [a] (tMs X.K C W (evs F [x])) := AllE.pa (xs := [x]) (es := [a]) ⟨ha, trivial⟩
  have e2 : ev F (.popc y [x]) = fun e h => (ev F y e h).bind fun v h1 => if isLst v h1 = true then (evs F [x] e h1).bind fun vs h2 => popL (v :: vs) h2 else .bad := by
    funext e h
    rw [ev]
  rw [e2]
  refine .of_pe (PE.imp (pe_bm PySem.F.plainAttrs_list PySem.F.slot_list_pop PySem.F.type_list_pop mt_popAt ho.pe pa hb (few1 ha.st) hl (ha.st _ _) (by rfl)) fun σ H Q ⟨e, h, ρ, S, SE, k⟩ => ?_) (fun _ => rfl) (fun _ _ => rfl) (fun _ _ => rfl)
  refine tM_first S SE k fun v h1 u H1 ρ1 x1 S1 SE1 r k1 => ?_
  split at k1
  · rename_i hi
    refine ⟨isLst_ok S1 r hi, ?_⟩
    refine tMs_firstE S1 SE1 k1 fun vs h2 us H2 ρ2 ee x2 S2 SE2 r2 k2 => ?_
    unfold popL at k2
    split at k2
    · rename_i n i heq
      obtain ⟨rfl, rfl⟩ := List.cons.inj heq
      obtain ⟨z, rfl, rz⟩ := vs1 r2
      obtain rfl := repV_int rz
      obtain ⟨p, hp, rfl⟩ := r.mono x2
      split at k2
      · rename_i xs hc
        obtain ⟨ws, e2, e3⟩ := S2.ok _ _ p hc hp
        split at k2
        · rename_i k hk
          split at k2
          · rename_i v hv
            split at k2
            · rename_i hlim
              obtain ⟨w, ew, rw'⟩ := Paired.get' e3 hv
              have x3 := ext_set (H' := upd H2 p (.lst (ws.eraseIdx k))) (c' := .lst (xs.eraseIdx k)) S2 hp hc (by intro z; cases z) fun a ne => upd_ne ne
              have S3 := S2.set (H' := upd H2 p (.lst (ws.eraseIdx k))) (c' := .lst (xs.eraseIdx k)) hp hc (by intro z; cases z) (fun a ne => upd_ne ne) ⟨ws.eraseIdx k, upd_same, RepVs.mono x3 (Paired.erase' k e3)⟩
              have hk' : ixN ws.length i = some k := by rw [← e3.len, ← ixOf_eq]; exact hk
              obtain ⟨q1, q2, q3, q4⟩ := ixN_seq hk'
              have hw : ws.length ≤ LIM := by rw [← e3.len]; exact hlim
              have hLIM : LIM ≤ 1000000 := Nat.le_refl _
              exact ⟨p, ws, i, k, w, rfl, rfl, e2, by omega, by omega, q1, ew, k2 w _ ρ2 x3 S3 (rw'.mono x3)⟩
            · exact k2.elim
          · exact k2.elim
        · exact k2.elim
      · exact k2.elim
    · rename_i n heq
      obtain ⟨rfl, rfl⟩ := List.cons.inj heq
      have := evs_len ee
      cases this
    · exact k2.elim
  · exact k1.elim
theorem s_pop0 {p q : Pos} (ho : SE X C W (ev F y) o) (hb : attributeBase o "pop" X.env (eval o X.env) = eval o X.env) (hl : (p.endLine == q.line) = true) : SE X C W (ev F (.popc y [])) (.Call (.Attribute o "pop" p) [] [] q) := by
  have e2 : ev F (.popc y []) = fun e h => (ev F y e h).bind fun v h1 => if isLst v h1 = true then popL [v] h1 else .bad := by
    funext e h
    rw [ev]
    congr 1
  rw [e2]
  refine .of_pe (PE.imp (pe_bm0 PySem.F.plainAttrs_list PySem.F.slot_list_pop PySem.F.type_list_pop mt_pop ho.pe hb hl) fun σ H Q ⟨e, h, ρ, S, SE, k⟩ => ?_) (fun _ => rfl) (fun _ _ => rfl) (fun _ _ => rfl)
  refine tM_first S SE k fun v h1 u H1 ρ1 x1 S1 SE1 r k1 => ?_
  split at k1
  · rename_i hi
    refine ⟨isLst_ok S1 r hi, ?_⟩
    unfold popL at k1
    split at k1
    · rename_i heq
      cases heq
    · rename_i n heq
      cases heq
      obtain ⟨p, hp, rfl⟩ := r
      split at k1
      · rename_i xs hc
        obtain ⟨ws, e2, e3⟩ := S1.ok _ _ p hc hp
        split at k1
        · rename_i v hv
          obtain ⟨w, ew, rw'⟩ := Paired.get' e3 hv
          have x3 := ext_set (H' := upd H1 p (.lst ws.dropLast)) (c' := .lst xs.dropLast) S1 hp hc (by intro z; cases z) fun a ne => upd_ne ne
          have S3 := S1.set (H' := upd H1 p (.lst ws.dropLast)) (c' := .lst xs.dropLast) hp hc (by intro z; cases z) (fun a ne => upd_ne ne) ⟨ws.dropLast, upd_same, RepVs.mono x3 (Paired.dropLast' e3)⟩
          rw [e3.len] at ew
          exact ⟨p, ws, w, rfl, rfl, e2, ew, k1 w _ ρ1 x3 S3 (rw'.mono x3)⟩
        · exact k1.elim
      · exact k1.elim
    · exact k1.elim
  · exact k1.elim
/-! ### loops -/
def turnF (F : Nat → List Vl → Hs → Out Vl) (t : Tn) (b : List Sm) : List Vl → Env → Hs → Out Fl := fun row e h => match bindT t row e with
  | some e1 => execs F b e1 h
  | none => .bad
theorem exec_for {k : ItK} {its : List Ex} {b : List Sm} : exec F (.for_ t k its b) = fun e h => (rowsM F k its e h).bind fun rows h1 => forL (turnF F t b) rows e h1 := by
  funext e h
  rw [exec]
  unfold rowsM
  rw [bind_assoc']
  congr 1
  funext vs h1
  cases rowsOf k vs with
  | none => rfl
  | some rows => rfl
theorem s_for {k : ItK} {its : List Ex} {iter : Expr} {b : List Sm} {body : List Stmt} (hp : PassesOwn (model X.prog X.w) X.A X.env X.xe) (hc : X.calm = true) (hi : PI X tg iter (tI X.K C W (rowsM F k its))) (hg : PG X tg (gT X.K t)) (hb : SSs F X C W b body) (hs : noSet iter = true) :
    SS F X C W (.for_ t k its b) (.For tg iter body [] pos) := by
  refine PS.imp (ps_for hp hc hi hg hb (fun z => by cases iter <;> first | rfl | cases hs)) fun Dn σ H ⟨e, h, ρ, S, SE, kk⟩ => ?_
  rw [exec_for] at kk
  refine ⟨e, h, ρ, S, SE, OkF.first kk fun rows h1 J H1 ρ1 x1 S1 wk k1 => ?_⟩
  have SE1 := SE.mono x1
  refine ⟨fun i n σ H => n = rows.length - i ∧ i ≤ rows.length ∧ ∃ e ρi hi, L3.Ext C ρ1 h1 H1 ρi hi H ∧ Sim X.K C ρi hi H ∧ SimE X.K C ρi hi H e σ ∧ OkF X.K C W Dn ρi hi H (forL (turnF F t b) (rows.drop i) e hi),
    ⟨rows.length, by simp, Nat.zero_le _, e, ρ1, h1, L3.Ext.refl, S1, SE1, k1⟩, ?_⟩
  rintro i n σ H ⟨rfl, hi, e, ρi, hi', xi, Si, SEi, ki⟩
  obtain ⟨stop, go⟩ := wk C.hid ρi hi' H xi.fro Si
  by_cases hlt : i < rows.length
  · have er : rows[i]? = some rows[i] := List.getElem?_eq_getElem hlt
    obtain ⟨g1, g2⟩ := go i _ er
    refine .inr ⟨g1, fun σ H => ∃ e ρi hi, L3.Ext C ρ1 h1 H1 ρi hi H ∧ Sim X.K C ρi hi H ∧ SimE X.K C ρi hi H e σ ∧ OkF X.K C W Dn ρi hi H (forL (turnF F t b) (rows.drop (i + 1)) e hi),
      fun σ H p => ⟨rows.length - (i + 1), by omega, rfl, hlt, p⟩, fun v H' y => ?_⟩
    obtain ⟨x2, S2, rr⟩ := g2 v H' y
    rw [drop_cons' er, forL] at ki
    have x2' : L3.Ext C ρi hi' H ρi hi' H' := x2
    have k2 := OkF.mono x2' ki
    unfold turnF at k2
    cases eb : bindT t rows[i] e with
    | none =>
      rw [eb] at k2
      exact k2.elim
    | some e1 =>
      rw [eb] at k2
      refine gT_ok (C := C) (SEi.mono x2') rr eb fun σ2 s2 _ => ?_
      refine ⟨e1, hi', ρi, S2, s2, OkF.seq k2 fun fl h3 H3 ρ3 x3 S3 k3 => ?_⟩
      cases fl with
      | nx e2 => exact fun σ3 SE3 => ⟨e2, ρ3, h3, (xi.trans x2').trans x3, S3, SE3, k3⟩
      | ct e2 => exact fun σ3 SE3 => ⟨e2, ρ3, h3, (xi.trans x2').trans x3, S3, SE3, k3⟩
      | bk e2 => exact k3 H3 ρ3 L3.Ext.refl S3
      | rt v => exact k3 H3 ρ3 L3.Ext.refl S3
  · have e0 : i = rows.length := by omega
    subst e0
    rw [List.drop_length, forL] at ki
    exact .inl ⟨stop _ (Nat.le_refl _), ki H ρi L3.Ext.refl Si σ SEi⟩
theorem s_while {b : List Sm} {body : List Stmt} (hp : PassesOwn (model X.prog X.w) X.A X.env X.xe) (hc : SE X C W (ev F x) c) (hb : SSs F X C W b body) : SS F X C W (.while_ x b) (.While c body [] pos) := by
  refine PS.imp (ps_while hp hc.pt hb) fun Dn σ H ⟨e, h, ρ, S, SE, kk⟩ => ?_
  rw [exec] at kk
  refine ⟨fun m σ H => ∃ e h ρ, Sim X.K C ρ h H ∧ SimE X.K C ρ h H e σ ∧ OkF X.K C W Dn ρ h H (whileL (fun e h => (ev F x e h).bind fun v h1 => match v with
    | .d (.bl k) => if k = true then (execs F b e h1).bind fun fl h2 => .ok (some fl) h2 else .ok none h1
    | _ => .bad) m e h), ⟨WMAX, e, h, ρ, S, SE, kk⟩, ?_⟩
  rintro m σ H ⟨e, h, ρ, S, SE, k⟩
  cases m with
  | zero => exact k.elim
  | succ m =>
    rw [whileL, bind_assoc'] at k
    refine tMt_firstF S SE k fun v h1 u H1 ρ1 x1 S1 SE1 r k1 => ?_
    split at k1
    · rename_i t
      refine ⟨t, repV_bl r, ?_⟩
      cases t with
      | false =>
        rw [if_neg Bool.false_ne_true]
        exact k1 H1 ρ1 L3.Ext.refl S1 σ SE1
      | true =>
        rw [if_pos rfl]
        rw [if_pos rfl, bind_assoc'] at k1
        refine ⟨fun σ' H' => ∃ e h ρ, Sim X.K C ρ h H' ∧ SimE X.K C ρ h H' e σ' ∧ OkF X.K C W Dn ρ h H' (whileL (fun e h => (ev F x e h).bind fun v h1 => match v with
          | .d (.bl k) => if k = true then (execs F b e h1).bind fun fl h2 => .ok (some fl) h2 else .ok none h1
          | _ => .bad) m e h), fun σ' H' p => ⟨m, Nat.lt_succ_self m, p⟩, e, h1, ρ1, S1, SE1, ?_⟩
        refine OkF.seq k1 fun fl h3 H3 ρ3 x3 S3 k3 => ?_
        cases fl with
        | nx e2 => exact fun σ3 SE3 => ⟨e2, h3, ρ3, S3, SE3, k3⟩
        | ct e2 => exact fun σ3 SE3 => ⟨e2, h3, ρ3, S3, SE3, k3⟩
        | bk e2 => exact k3 H3 ρ3 L3.Ext.refl S3
        | rt v => exact k3 H3 ρ3 L3.Ext.refl S3
    · exact k1.elim
end
end L3
/-! L3: does the text say what ours says? -/
namespace L3
open PySem PySem.Spec PyProof.Rows L2

def sameD : D → D → Bool
  | .int i, .int j => i == j
  | .str x, .str y => x == y
  | _, _ => false
def gloB (T : Tb) (x : Str) (v : D) : Bool := T.glo.any fun p => p.1 == x && sameD p.2 v
def baseB (e : Expr) : Bool := match e with
  | .Call _ [] _ _ => false
  | _ => true
theorem baseB_ok {e : Expr} {n : Str} {env : PySem.Env} {w : Sem Value} (h : baseB e = true) : attributeBase e n env w = w := by
  unfold baseB at h
  split at h
  · cases h
  · rename_i hn
    cases e with
    | Call f args kws p =>
      cases args with
      | nil => exact absurd rfl (hn _ _ _)
      | cons a r => cases f <;> rfl
    | _ => rfl
def freeB (T : Tb) (sc : Scope) (g : Str) : Bool := glB sc g && (T.free.contains g && nameB g)
def fnB (T : Tb) (k f : Nat) (g : Str) (n : Nat) : Bool := match T.fns[f]? with
  | some d => d.nm == g && (decide (d.lev ≤ k) && (decide (n = d.ps.length) && !(d.nm == Str.empty)))
  | none => false
def attrB (T : Tb) (c i : Nat) (n : Str) : Bool := match T.cls[c]? with
  | some d => decide (d.fl[i]? = some n)
  | none => false
def newB (T : Tb) (k c f : Nat) (g : Str) (n : Nat) : Bool := match T.cls[c]?, T.fns[f]? with
  | some d, some df => d.nm == g && (decide (d.ini = f) && (decide (df.lev + 1 ≤ k) && decide (n + 1 = df.ps.length)))
  | _, _ => false
def proB (T : Tb) (k c f : Nat) (n : Str) : Bool := match T.cls[c]?, T.fns[f]? with
  | some d, some df => decide ((n, f) ∈ d.pr) && (decide (df.lev + 1 ≤ k) && decide (df.ps.length = 1))
  | _, _ => false
def eqB (T : Tb) (k c f : Nat) : Bool := match T.cls[c]?, T.fns[f]? with
  | some d, some df => decide (d.eq = some f) && (decide (df.lev + 1 ≤ k) && decide (df.ps.length = 2))
  | _, _ => false
def nmB (T : Tb) (c : Nat) (g : Str) : Bool := match T.cls[c]? with
  | some d => d.nm == g
  | none => false
def isTupP : Pr → Bool
  | .tup => true
  | _ => false
def isItemP : Pr → Bool
  | .item => true
  | _ => false
def isSl (p : Pr) (n : Nat) : Bool := match p with
  | .slL => n == 0
  | .slU => n == 1
  | .slLU => n == 2
  | _ => false
def isSlM (p : Mk) (n : Nat) : Bool := match p with
  | .slL => n == 0
  | .slU => n == 1
  | .slLU => n == 2
  | _ => false
def isLstP : Mk → Bool
  | .lst => true
  | _ => false
def isRevP : Mk → Bool
  | .rev => true
  | _ => false
def isRevT : Pr → Bool
  | .revT => true
  | _ => false
/-- [::-1] -/
def revB (e : Expr) : Bool := match e with
  | .Slice none none (some (.UnaryOp .USub (.Constant (.int 1) _ _) _)) _ => true
  | _ => false
def unB : UnaryOp → Pr → Bool
  | .USub, .neg => true
  | _, _ => false
def isLenset (p : Pr) : Bool := match p with
  | .lenset => true
  | _ => false
def isLR (p : Mk) : Bool := match p with
  | .listRange => true
  | _ => false
def isSS (p : Mk) : Bool := match p with
  | .sortedSet => true
  | _ => false
def lrA (args : List Expr) : Option (Str × Expr) := match args with
  | [.Call (.Name g2 _) [a] [] _] => some (g2, a)
  | _ => none
def isiP (p : Pr) : Option Ty := match p with
  | .isi t => some t
  | _ => none
def iscP (p : Pr) : Option Nat := match p with
  | .isc [c] => some c
  | _ => none
def third (as : List Ex) : Bool := match as with
  | [_, _, z] => quietE z
  | _ => false
def okE (e : Expr) : Bool := match e with
  | .Starred _ _ => false
  | .Slice _ _ _ _ => false
  | _ => true
/-- a call of a built-in by name, its arguments -/
def callP (T : Tb) (sc : Scope) (p : Pr) (g : Str) (args : List Expr) : Option (List Expr) := match isiP p with
  | some t => match args with
    | [a, .Name g2 _] => if g == ("isinstance" : Str) && (freeB T sc g && (g2 == (tyN t : Str) && freeB T sc g2)) then some [a] else none
    | _ => none
  | none => match iscP p with
    | some c => match args with
      | [a, .Name g2 _] => if g == ("isinstance" : Str) && (freeB T sc g && (nmB T c g2 && (glB sc g2 && nameB g2))) then some [a] else none
      | _ => none
    | none => if isLenset p then (match args with
        | [.Call (.Name g2 _) [a] [] _] => if g == ("len" : Str) && (freeB T sc g && (g2 == ("set" : Str) && freeB T sc g2)) then some [a] else none
        | _ => none)
      else if (biB p g || biT p g) && (freeB T sc g && !args.isEmpty) then some args else none
/-- a method that reads, its argument still -/
def stillE : Ex → Bool
  | .var _ => true
  | .cst _ => true
  | .glb _ _ => true
  | _ => false
def tgIsTup (e : Expr) : Bool := match e with
  | .Tuple _ _ _ => true
  | _ => false
/-- what is walked: its parts in the text -/
def itP (T : Tb) (sc : Scope) (k : ItK) (tg iter : Expr) : Option (List Expr) := match k with
  | .seq => some [iter]
  | .rng => match iter with
    | .Call (.Name g _) args [] _ => if g == ("range" : Str) && (freeB T sc g && (args.length == 1 || args.length == 2)) then some args else none
    | _ => none
  | .enum => match iter with
    | .Call (.Name g _) [a] [] _ => if g == ("enumerate" : Str) && (freeB T sc g && tgIsTup tg) then some [a] else none
    | _ => none
  | .zip => match iter with
    | .Call (.Name g _) [a, b] [] _ => if g == ("zip" : Str) && (freeB T sc g && tgIsTup tg) then some [a, b] else none
    | _ => none
  | .items => match iter with
    | .Call (.Attribute a m p) [] [] q => if m == ("items" : Str) && (p.endLine == q.line && (tgIsTup tg && baseB a)) then some [a] else none
    | _ => none
  | .enum1 => none
def ownOf (N : List Str) (t : Tn) : List (Str × Nat) := t.names.filterMap fun i => (N[i]?).map fun n => (n, i)
section
variable (T : Tb) (N : List Str) (k : Nat)
mutual
def mE : Ex → Scope → Expr → Bool
  | .var i, sc, e => match e with
    | .Name n _ => decide (N[i]? = some n) && (visB sc n && nameB n)
    | _ => false
  | .cst v, _, e => match e with
    | .Constant c _ _ => constB c v
    | _ => false
  | .glb n v, sc, e => match e with
    | .Name m _ => m == n && (glB sc n && (nameB n && gloB T n v))
    | _ => false
  | .prim p as, sc, e => match e with
    | .BinOp a op b _ => opB op p && mEs as sc [a, b]
    | .UnaryOp op a _ => unB op p && mEs as sc [a]
    | .Compare a ops bs _ => match ops with
      | [op] => match bs with
        | [b] => cmpB op p && (noSet b && mEs as sc [a, b])
        | _ => false
      | _ => false
    | .Tuple es _ _ => isTupP p && mEs as sc es
    | .Subscript a s _ => match s with
      | .Slice lo hi st _ => match st with
        | none => match lo with
          | some l => match hi with
            | some u => isSl p 2 && (third as && mEs as sc [a, l, u])
            | none => isSl p 0 && mEs as sc [a, l]
          | none => match hi with
            | some u => isSl p 1 && mEs as sc [a, u]
            | none => false
        | some _ => isRevT p && (revB s && mEs as sc [a])
      | s => isItemP p && mEs as sc [a, s]
    | .Call f args kws q => match kws with
      | [] => match f with
        | .Name g _ => match callP T sc p g args with
          | some es => mEs as sc es
          | none => false
        | .Attribute o m r => match as with
          | [_, y] => mtB p m && (stillE y && (r.endLine == q.line && (baseB o && (args.length == 1 && mEs as sc (o :: args)))))
          | _ => false
        | _ => false
      | _ => false
    | _ => false
  | .mk m p as, sc, e => match e with
    | .BinOp a op b _ => opM op p && mEs as sc [a, b]
    | .List es _ => isLstP p && mEs as sc es
    | .Subscript a s _ => match s with
      | .Slice lo hi st _ => match st with
        | none => match lo with
          | some l => match hi with
            | some u => isSlM p 2 && (third as && mEs as sc [a, l, u])
            | none => isSlM p 0 && mEs as sc [a, l]
          | none => match hi with
            | some u => isSlM p 1 && mEs as sc [a, u]
            | none => false
        | some _ => isRevP p && (revB s && mEs as sc [a])
      | _ => false
    | .Call f args kws q => match kws with
      | [] => match f with
        | .Name g _ => if isLR p then (match lrA args with
            | some (g2, a) => g == ("list" : Str) && (freeB T sc g && (g2 == ("range" : Str) && (freeB T sc g2 && mEs as sc [a])))
            | none => false)
          else if isSS p then (match lrA args with
            | some (g2, a) => g == ("sorted" : Str) && (freeB T sc g && (g2 == ("set" : Str) && (freeB T sc g2 && mEs as sc [a])))
            | none => false)
          else (biM p g || biMT p g) && (freeB T sc g && (!args.isEmpty && mEs as sc args))
        | _ => false
      | _ => false
    | _ => false
  | .and a b, sc, e => match e with
    | .BoolOp op es p => match op with
      | .And => match es with
        | x :: y :: r => mE a sc x && (match r with
          | [] => mE b sc y
          | z :: r => mE b sc (.BoolOp .And (y :: z :: r) p))
        | _ => false
      | _ => false
    | _ => false
  | .or a b, sc, e => match e with
    | .BoolOp op es p => match op with
      | .Or => match es with
        | x :: y :: r => mE a sc x && (match r with
          | [] => mE b sc y
          | z :: r => mE b sc (.BoolOp .Or (y :: z :: r) p))
        | _ => false
      | _ => false
    | _ => false
  | .not a, sc, e => match e with
    | .UnaryOp op x _ => match op with
      | .Not => mE a sc x
      | _ => false
    | _ => false
  | .ite c a b, sc, e => match e with
    | .IfExp t x y _ => mE c sc t && (mE a sc x && mE b sc y)
    | _ => false
  | .chain p q a b c, sc, e => match e with
    | .Compare x ops es _ => match ops with
      | [op, op'] => match es with
        | [y, z] => cmpB op p && (cmpB op' q && (noSet z && (mE a sc x && (mE b sc y && mE c sc z))))
        | _ => false
      | _ => false
    | _ => false
  | .call f as, sc, e => match e with
    | .Call g args kws _ => match kws with
      | [] => match g with
        | .Name g _ => fnB T k f g args.length && (glB sc g && (nameB g && mEs as sc args))
        | _ => false
      | _ => false
    | _ => false
  | .meth _ _ _ _ _, _, _ => false
  | .attr c i n o, sc, e => match e with
    | .Attribute a m _ => m == n && (attrB T c i n && (baseB a && mE o sc a))
    | _ => false
  | .pro c n f o, sc, e => match e with
    | .Attribute a m _ => m == n && (proB T k c f n && (baseB a && mE o sc a))
    | _ => false
  | .new _ c f as, sc, e => match e with
    | .Call g args kws _ => match kws with
      | [] => match g with
        | .Name g _ => newB T k c f g args.length && (glB sc g && (nameB g && mEs as sc args))
        | _ => false
      | _ => false
    | _ => false
  | .eqO c f n a b, sc, e => match e with
    | .Compare x ops es _ => match ops with
      | [op] => match es with
        | [y] => decide (op = eqOp n) && (eqB T k c f && (noSet y && (mE a sc x && mE b sc y)))
        | _ => false
      | _ => false
    | _ => false
  | .comp _ x t kk its cs, sc, e => match e with
    | .ListComp elt gs scope _ => match gs with
      | [⟨tg, iter, ifs, as⟩] => decide (as = 0) && (decide (cs.length ≤ 1) && (blkC N sc scope (ownOf N t) && (decide ((ownOf N t).map (·.2) = t.names) && (noSet iter && (tgB N scope t tg && (mE x (relS scope sc) elt && (mEs cs (relS scope sc) ifs && (match itP T sc kk tg iter with
        | some es => mEs its sc es
        | none => false))))))))
      | _ => false
    | _ => false
  | .dict _ ks vs, sc, e => match e with
    | .Dict ks' vs' _ => match ks' with
      | [] => ks.isEmpty && (vs.isEmpty && vs'.isEmpty)
      | [some ke] => decide (ks.length = 1) && (decide (vs.length = 1) && (mEs ks sc [ke] && mEs vs sc vs'))
      | _ => false
    | _ => false
  | .dictP _ _, _, _ => false
  | .star k bs as, sc, e => match e with
    | .List es _ => !(k == 2) && (match unst bs es with
      | some us => mEs as sc us
      | none => false)
    | .Tuple es _ _ => k == 2 && (match unst bs es with
      | some us => mEs as sc us
      | none => false)
    | _ => false
  | .popc o as, sc, e => match e with
    | .Call f args kws q => match kws with
      | [] => match f with
        | .Attribute ob m r => m == ("pop" : Str) && (r.endLine == q.line && (baseB ob && (decide (args.length = as.length) && (decide (as.length ≤ 1) && (mE o sc ob && mEs as sc args)))))
        | _ => false
      | _ => false
    | _ => false
  | .dcomp _ kx vx t kk its cs, sc, e => match e with
    | .DictComp ke ve gs scope _ => match gs with
      | [⟨tg, iter, ifs, as⟩] => decide (as = 0) && (decide (cs.length ≤ 1) && (blkC N sc scope (ownOf N t) && (decide ((ownOf N t).map (·.2) = t.names) && (noSet iter && (tgB N scope t tg && (mE kx (relS scope sc) ke && (mE vx (relS scope sc) ve && (mEs cs (relS scope sc) ifs && (match itP T sc kk tg iter with
        | some es => mEs its sc es
        | none => false)))))))))
      | _ => false
    | _ => false
  | .frz x, sc, e => mE x sc e
  | .wall, _, e => okE e
def mEs : List Ex → Scope → List Expr → Bool
  | [], _, es => es.isEmpty
  | x :: xs, sc, es => match es with
    | e :: es => mE x sc e && mEs xs sc es
    | [] => false
end
end
end L3
/-! L3: if the text says what ours says, then it does what ours does. -/
namespace L3
open PySem PySem.Spec PyProof.Rows L2

theorem and2 {a b : Bool} (h : (a && b) = true) : a = true ∧ b = true := Bool.and_eq_true_iff.mp h
section
variable {T : Tb} {Z : Addr → Prop} {F : Nat → List Vl → Hs → Out Vl} {N : List Str} {sc : Scope} {k : Nat} {X : Cx} {C : Cn} {W : WX} {e a b c : Expr} {x y z : Ex} {pos : Pos}
theorem s_dict0 {m : Bool} : SE X C W (ev F (.dict m [] [])) (.Dict [] [] pos) := by
  have q : ev F (.dict m [] []) = fun _ h => mkK m [] h := by
    funext e h
    rw [ev, evs]
    show (noEx (evs F [] e h)).bind _ = _
    rw [evs]
    rfl
  rw [q]
  have go : ∀ σ H Q, tM X.K C W (fun _ h => mkK m [] h) σ H Q → tDNewK σ H fun u H1 => ∀ pins s, Inv X pins σ H1 s → ∃ H', Inv X pins σ H' s ∧ Q u H' := by
    intro σ H Q ⟨e, h, ρ, S, SE, k⟩
    intro p np pins s I
    have k' : OkV X.K C ρ h H (if m = true then Out.ok (.r h.length) (h ++ [.dic []]) else .ok (.d (.dic [])) h) Q (WE' W σ) := by
      have k2 : OkV X.K C ρ h H (mkK m [] h) Q (WE' W σ) := k
      unfold mkK at k2
      rw [if_pos (show ([] : List (D × D)).length ≤ LIM from Nat.zero_le _)] at k2
      exact k2
    split at k'
    · refine ⟨_, I, k' (.ref p) _ (ρ ++ [p]) (ext_cell S np) (S.cell np ⟨[], upd_same, .nil⟩) ⟨p, ?_, rfl⟩⟩
      rw [← S.len, List.getElem?_append_right (Nat.le_refl _), Nat.sub_self]
      rfl
    · obtain ⟨od, I'⟩ := I.lock (upd_same : upd H p (.dK []) p = some _) trivial
      rw [upd_upd] at I'
      have x := ext_same S (upd_keeps (o := .frz od (.dK [])) np)
      refine ⟨_, I', k' (.ref p) _ ρ x (S.same (upd_keeps np)) (.dic (fun z => ?_) upd_same .nil)⟩
      obtain ⟨o, eo⟩ := S.av z
      rw [np] at eo
      cases eo
  refine .of_pe ⟨fun pins s σ H Q I q => thn (pe_dnewK.run pins s σ H _ I (go σ H Q q)) fun u s1 ⟨v, H1, I1, rv, f⟩ => ?_⟩ (fun _ => rfl) (fun _ _ => rfl) (fun _ _ => rfl)
  obtain ⟨H2, I2, q2⟩ := f pins s1 I1
  exact ⟨v, H2, I2, rv, q2⟩
/-- a constant's value -/
def scV : D → Option V
  | .non => some .non
  | .bl b => some (.bl b)
  | .int i => some (.int i)
  | .str x => some (.str x)
  | _ => none
theorem scV_rep {av : Addr → Prop} {H : Hp} {v : D} {u : V} (h : scV v = some u) : Rep X.K C av H v u := by
  cases v <;> first | (cases h; done) | skip
  · cases h; exact .non
  · cases h; exact .bl _
  · cases h; exact .int _
  · cases h; exact .str _
theorem pe_const {c : Const} {v : D} {j : Nat} {p : Pos} (h : constB c v = true) : ∃ u, scV v = some u ∧ PE X (.Constant c j p) (tC u) := by
  unfold constB at h
  split at h
  · exact ⟨_, rfl, pe_non⟩
  · obtain rfl := eq_of_beq h
    exact ⟨_, rfl, pe_bl⟩
  · obtain rfl := eq_of_beq h
    exact ⟨_, rfl, pe_int⟩
  · obtain rfl := eq_of_beq h
    exact ⟨_, rfl, pe_str⟩
  · cases h
theorem s_one {op : BoolOp} (h : PE X a (tM X.K C W (ev F x))) : PE X (.BoolOp op [a] pos) (tM X.K C W (ev F x)) := pe_one h
theorem s_and2 (ha : SE X C W (ev F x) a) (hb : SE X C W (ev F y) b) : SE X C W (ev F (.and x y)) (.BoolOp .And [a, b] pos) := by
  have q : ev F (.and x y) = fun e h => (ev F x e h).bind fun v h1 => asB v h1 fun c h1 => if c = true then ev F y e h1 else .ok (.d (.bl false)) h1 := by funext e h; rw [ev]
  rw [q]
  exact ⟨c_and ha.pe (s_one hb.pe), (ct_and ha.pt (ct_and1 hb.pt)).pt, fun _ _ => rfl, fun _ _ => rfl⟩
theorem s_andN {r : List Expr} (ha : SE X C W (ev F x) a) (hb : SE X C W (ev F y) (.BoolOp .And (b :: r) pos)) : SE X C W (ev F (.and x y)) (.BoolOp .And (a :: b :: r) pos) := by
  have q : ev F (.and x y) = fun e h => (ev F x e h).bind fun v h1 => asB v h1 fun c h1 => if c = true then ev F y e h1 else .ok (.d (.bl false)) h1 := by funext e h; rw [ev]
  rw [q]
  have pw : PW X (.BoolOp .And (b :: r) pos) (tMt X.K C W (ev F y)) := ⟨fun _ pins s σ H Q I h => hb.pt.run pins s σ H Q I h⟩
  exact ⟨c_and ha.pe hb.pe, (ct_and ha.pt pw).pt, fun _ _ => rfl, fun _ _ => rfl⟩
theorem s_or2 (ha : SE X C W (ev F x) a) (hb : SE X C W (ev F y) b) : SE X C W (ev F (.or x y)) (.BoolOp .Or [a, b] pos) := by
  have q : ev F (.or x y) = fun e h => (ev F x e h).bind fun v h1 => asB v h1 fun c h1 => if c = true then .ok (.d (.bl true)) h1 else ev F y e h1 := by funext e h; rw [ev]
  rw [q]
  exact ⟨c_or ha.pe (s_one hb.pe), (ct_or ha.pt (ct_or1 hb.pt)).pt, fun _ _ => rfl, fun _ _ => rfl⟩
theorem s_orN {r : List Expr} (ha : SE X C W (ev F x) a) (hb : SE X C W (ev F y) (.BoolOp .Or (b :: r) pos)) : SE X C W (ev F (.or x y)) (.BoolOp .Or (a :: b :: r) pos) := by
  have q : ev F (.or x y) = fun e h => (ev F x e h).bind fun v h1 => asB v h1 fun c h1 => if c = true then .ok (.d (.bl true)) h1 else ev F y e h1 := by funext e h; rw [ev]
  rw [q]
  have pw : PW X (.BoolOp .Or (b :: r) pos) (tMt X.K C W (ev F y)) := ⟨fun _ pins s σ H Q I h => hb.pt.run pins s σ H Q I h⟩
  exact ⟨c_or ha.pe hb.pe, (ct_or ha.pt pw).pt, fun _ _ => rfl, fun _ _ => rfl⟩
theorem s_not (ha : SE X C W (ev F x) a) : SE X C W (ev F (.not x)) (.UnaryOp .Not a pos) := by
  have q : ev F (.not x) = fun e h => (ev F x e h).bind fun v h1 => asB v h1 fun c h1 => .ok (.d (.bl (!c))) h1 := by funext e h; rw [ev]
  rw [q]
  exact ⟨c_not ha.pe, ct_not ha.pt, fun _ _ => rfl, fun _ _ => rfl⟩
theorem s_iteE (hc : SE X C W (ev F x) c) (ha : SE X C W (ev F y) a) (hb : SE X C W (ev F z) b) : SE X C W (ev F (.ite x y z)) (.IfExp c a b pos) := by
  have q : ev F (.ite x y z) = fun e h => (ev F x e h).bind fun v h1 => asB v h1 fun c h1 => if c = true then ev F y e h1 else ev F z e h1 := by funext e h; rw [ev]
  rw [q]
  refine ⟨c_ite hc.pt ha.pe hb.pe, ⟨fun pins s σ H Q I q => ?_⟩, fun _ _ => rfl, fun _ _ => rfl⟩
  obtain ⟨e, h, ρ, S, SE, k⟩ := q
  show wpAny _ _ (do if ← isTrue c X.env (eval c X.env) then isTrue a X.env (eval a X.env) else isTrue b X.env (eval b X.env)) _ _ _
  have q2 : tMt X.K C W (ev F x) σ H fun t H1 => if t = true then tMt X.K C W (ev F y) σ H1 Q else tMt X.K C W (ev F z) σ H1 Q := by
    refine tMt_first S SE k fun v h1 u H1 ρ1 x S1 SE1 r k1 => ?_
    obtain ⟨t, rfl, k2⟩ := asB_ok k1
    refine ⟨t, repV_bl r, ?_⟩
    cases t with
    | false => exact ⟨e, h1, ρ1, S1, SE1, k2⟩
    | true => exact ⟨e, h1, ρ1, S1, SE1, k2⟩
  refine wpAny_bind (thn (hc.pt.run pins s σ H _ I q2) fun t s1 ⟨H1, I1, q3⟩ => ?_)
  cases t with
  | true => exact ha.pt.run pins s1 σ H1 Q I1 q3
  | false => exact hb.pt.run pins s1 σ H1 Q I1 q3
theorem s_wallE (h : okE e = true) : SE X C W (ev F .wall) e := by
  have q : ev F .wall = fun _ _ => .bad := by funext e h; rw [ev]
  rw [q]
  refine ⟨⟨fun _ _ σ H Q _ ⟨_, _, _, _, _, k⟩ => k.elim⟩, ⟨fun _ _ σ H Q _ ⟨_, _, _, _, _, k⟩ => k.elim⟩, noStar_of fun v p z => ?_, plainIx_of fun l u s p z => ?_⟩
  · subst z; cases h
  · subst z; cases h
/-- a method of a list that only reads -/
theorem s_count {p q : Pos} (hu : X.A.units + 50 < cLine) (ho : SE X C W (ev F x) a) (hy : SE X C W (ev F y) b) (st : stillE y = true) (hb : attributeBase a "count" X.env (eval a X.env) = eval a X.env) (hl : (p.endLine == q.line) = true) :
    SE X C W (ev F (.prim .count [x, y])) (.Call (.Attribute a "count" p) [b] [] q) := by
  have pa : PA X [b] (tMs X.K C W (evs F [y])) := AllE.pa (xs := [y]) (es := [b]) ⟨hy, trivial⟩
  rw [m2_ev ev_prim]
  refine .of_pe (PE.imp (pe_bm PySem.F.plainAttrs_list PySem.F.slot_list_count PySem.F.type_list_count (m_count (C := C) hu) ho.pe pa hb (few1 hy.st) hl (hy.st _ _) (by rfl)) fun σ H Q ⟨e, h, ρ, S, SE, k⟩ => ?_) (fun _ => rfl) (fun _ _ => rfl) (fun _ _ => rfl)
  refine tM_first S SE k fun v h1 u H1 ρ1 x1 S1 SE1 r k1 => ?_
  have same : ∀ w h2, ev F y e h1 = .ok w h2 → h2 = h1 := by
    intro w h2 e2
    cases y <;> first | (rw [ev] at e2; first | (cases e2; rfl) | (split at e2 <;> cases e2; rfl)) | cases st
  have hv : tyV X.K "list" u H1 := by
    cases ey : ev F y e h1 with
    | bad =>
      rw [ey] at k1
      exact k1.elim
    | ex z h2 =>
      exfalso
      cases y <;> first | (rw [ev] at ey; first | cases ey | (split at ey <;> cases ey)) | cases st
    | ok w h2 =>
      have := same w h2 ey
      subst this
      rw [ey, bind_ok] at k1
      simp only [pr] at k1
      split at k1
      · rename_i ds d e1 e2
        obtain ⟨ws, ev', ed⟩ := lbind e1
        obtain ⟨p, ys, rfl, ea, _⟩ := lview_ok S1 ev' r
        exact .inl ⟨rfl, ys, .of ea⟩
      · exact k1.elim
  refine ⟨hv, ?_⟩
  have k1' : OkV X.K C ρ1 h1 H1 ((evs F [y] e h1).bind fun vs h2 => pr .count (v :: vs) h2) Q (WE' W σ) := by
    rw [evs1]
    exact k1
  refine tMs_first S1 SE1 k1' fun vs h2 us H2 ρ2 x2 S2 SE2 r2 k2 => ?_
  exact ⟨h2, ρ2, v, vs, S2, r.mono x2, r2, calm_e (pr_calm .count) k2⟩
/-! ### slices, by their parts -/
theorem in3b {α : Type} {a b c d e f : α} (h : [a, b, c] = [d, e, f]) : a = d ∧ b = e ∧ c = f := by
  injection h with h1 h2
  injection h2 with h3 h4
  injection h4 with h5 _
  exact ⟨h1, h3, h5⟩
theorem slMk_L {m : Bool} : ∀ v w h, mk m .slL [v, w] h = .bad ∨ ∃ i, w = .d (.int i) ∧ mk m .slL [v, w] h = slMk m v (some i) none h := by
  intro v w h
  simp only [mk]
  split
  · rename_i x i heq
    obtain ⟨rfl, rfl⟩ := in2 heq
    exact .inr ⟨i, rfl, rfl⟩
  · exact .inl rfl
theorem slMk_U {m : Bool} : ∀ v w h, mk m .slU [v, w] h = .bad ∨ ∃ i, w = .d (.int i) ∧ mk m .slU [v, w] h = slMk m v none (some i) h := by
  intro v w h
  simp only [mk]
  split
  · rename_i x i heq
    obtain ⟨rfl, rfl⟩ := in2 heq
    exact .inr ⟨i, rfl, rfl⟩
  · exact .inl rfl
theorem slMk_LU {m : Bool} : ∀ v w t h, mk m .slLU [v, w, t] h = .bad ∨ ∃ i j, w = .d (.int i) ∧ t = .d (.int j) ∧ mk m .slLU [v, w, t] h = slMk m v (some i) (some j) h := by
  intro v w t h
  simp only [mk]
  split
  · rename_i x i j heq
    obtain ⟨rfl, rfl, rfl⟩ := in3b heq
    exact .inr ⟨i, j, rfl, rfl, rfl⟩
  · exact .inl rfl
theorem slPr_L : ∀ v w h, pr .slL [v, w] h = .bad ∨ ∃ i, w = .d (.int i) ∧ pr .slL [v, w] h = slPr v (some i) none h := by
  intro v w h
  simp only [pr]
  split
  · rename_i x i heq
    obtain ⟨rfl, rfl⟩ := in2 heq
    exact .inr ⟨i, rfl, rfl⟩
  · exact .inl rfl
theorem slPr_U : ∀ v w h, pr .slU [v, w] h = .bad ∨ ∃ i, w = .d (.int i) ∧ pr .slU [v, w] h = slPr v none (some i) h := by
  intro v w h
  simp only [pr]
  split
  · rename_i x i heq
    obtain ⟨rfl, rfl⟩ := in2 heq
    exact .inr ⟨i, rfl, rfl⟩
  · exact .inl rfl
theorem slPr_LU : ∀ v w t h, pr .slLU [v, w, t] h = .bad ∨ ∃ i j, w = .d (.int i) ∧ t = .d (.int j) ∧ pr .slLU [v, w, t] h = slPr v (some i) (some j) h := by
  intro v w t h
  simp only [pr]
  split
  · rename_i x i j heq
    obtain ⟨rfl, rfl, rfl⟩ := in3b heq
    exact .inr ⟨i, j, rfl, rfl, rfl⟩
  · exact .inl rfl
/-- xs[::-1] -/
theorem s_rev {m : Bool} {j : Nat} {p1 p2 p3 : Pos} (ha : SE X C W (ev F x) a) : SE X C W (ev F (.mk m .rev [x])) (.Subscript a (.Slice none none (some (.UnaryOp .USub (.Constant (.int 1) j p1) p2)) p3) pos) := by
  have e2 : ev F (.mk m .rev [x]) = fun e h => (ev F x e h).bind fun v h1 => mk m .rev [v] h1 := by
    rw [ev_mk]
    funext e h
    exact evs1
  rw [e2]
  refine .of_pe (PE.imp (pe_revL ha.pe) fun σ H Q ⟨e, h, ρ, S, SE, k⟩ => ?_) (fun _ => rfl) (fun _ _ => rfl) (fun _ _ => rfl)
  refine tM_first S SE k fun v h1 u H1 ρ1 x1 S1 SE1 r k1 => ?_
  simp only [mk] at k1
  split at k1
  · rename_i vs ev'
    obtain ⟨p, ys, rfl, ea, b⟩ := lview_ok S1 ev' r
    obtain ⟨_, q⟩ := mkL_ok S1 k1 (Paired.rev' b)
    exact ⟨p, ys, rfl, .of ea, q⟩
  · exact k1.elim
/-- t[::-1] -/
theorem s_revT {j : Nat} {p1 p2 p3 : Pos} (ha : SE X C W (ev F x) a) : SE X C W (ev F (.prim .revT [x])) (.Subscript a (.Slice none none (some (.UnaryOp .USub (.Constant (.int 1) j p1) p2)) p3) pos) := by
  have e2 : ev F (.prim .revT [x]) = fun e h => (ev F x e h).bind fun v h1 => pr .revT [v] h1 := by
    rw [ev_prim]
    funext e h
    exact evs1
  rw [e2]
  refine .of_pe (PE.imp (pe_revT ha.pe) fun σ H Q ⟨e, h, ρ, S, SE, k⟩ => ?_) (fun _ => rfl) (fun _ _ => rfl) (fun _ _ => rfl)
  refine tM_first S SE k fun v h1 u H1 ρ1 x1 S1 SE1 r k1 => ?_
  simp only [pr] at k1
  split at k1
  · rename_i xs heq
    obtain rfl := in1 heq
    obtain ⟨p, vs, rfl, st, rs⟩ := rep_tup r
    exact ⟨p, vs, rfl, st.sq, fun q n => okV_new S1 k1 n fun H' kp e na => .tup (.inl ⟨na, .inl e⟩) (rs.rev.mono fun a o e n => ⟨kp a o e, n⟩)⟩
  · exact k1.elim
/-! ### the contexts of blocks -/
theorem takes_no {X : Cx} : Takes X WNo := fun _ _ ⟨_, _, _, _, _, _, _, _, _, _, _, _, _, _, _, _, w⟩ => w.elim
theorem XOk.blk (o : XOk T F N sc k X W) (s : Shared) (H : Hp) (scope : Scope) (A : Addr) (cl : List (Str × Addr)) (fp : List Addr) : XOk T F N (relS scope sc) k (X.blk s H scope (compEnvC scope cl A X.env) fp) WNo :=
  ⟨o.fa, o.hN, o.nd, by rw [← o.hs]; rfl, o.calm, o.room, o.ng, takes_no⟩
theorem st_blk {s : Shared} {H : Hp} {scope : Scope} {A : Addr} {cl : List (Str × Addr)} {fp : List Addr} : StOk (X.blk s H scope (compEnvC scope cl A X.env) fp) scope := by
  intro n h
  unfold locB at h
  have key : ∀ kk, kk ≠ .free → scope.names.lookup n = some kk → (relS scope X.env.scope).names.lookup n = some kk := fun kk hk e => lookup_relS_keep hk e
  split at h
  · rename_i e
    have := key _ (by decide) e
    exact ⟨.inl this, .inr this⟩
  · rename_i e
    have := key _ (by decide) e
    refine ⟨.inr this, .inl ?_⟩
    show (scope.names.lookup n == some .cell) = true
    rw [e]
    rfl
  · cases h
theorem Paired2 {es : List Expr} {as : List Ex} {u v : Expr} (h : AllE F X C W as [u, v]) : ∃ p q, as = [p, q] ∧ SE X C W (ev F p) u ∧ SE X C W (ev F q) v := by
  cases as with
  | nil => exact h.elim
  | cons p r =>
    cases r with
    | nil => exact h.2.elim
    | cons q r =>
      cases r with
      | cons _ _ => exact h.2.2.elim
      | nil => exact ⟨p, q, rfl, h.1, h.2.1⟩
theorem Paired1 {as : List Ex} {u : Expr} (h : AllE F X C W as [u]) : ∃ p, as = [p] ∧ SE X C W (ev F p) u := by
  cases as with
  | nil => exact h.elim
  | cons p r =>
    cases r with
    | cons _ _ => exact h.2.elim
    | nil => exact ⟨p, rfl, h.1⟩
theorem Paired3 {as : List Ex} {u v w : Expr} (h : AllE F X C W as [u, v, w]) : ∃ p q r, as = [p, q, r] ∧ SE X C W (ev F p) u ∧ SE X C W (ev F q) v ∧ SE X C W (ev F r) w := by
  cases as with
  | nil => exact h.elim
  | cons p r =>
    cases r with
    | nil => exact h.2.elim
    | cons q r =>
      cases r with
      | nil => exact h.2.2.elim
      | cons w r =>
        cases r with
        | cons _ _ => exact h.2.2.2.elim
        | nil => exact ⟨p, q, w, rfl, h.1, h.2.1, h.2.2.1⟩
theorem free_of (o : XOk T F N sc k X W) {g : Str} (h : freeB T sc g = true) : Gl X g ∧ X.mg g = none ∧ nameB g = true := by
  obtain ⟨h1, h2⟩ := and2 h
  obtain ⟨h3, h4⟩ := and2 h2
  exact ⟨gl_of o.hs h1, o.fa.free g (by simpa using h3), h4⟩
theorem s_prim_call {p : Pr} {as : List Ex} {g : Str} {args es : List Expr} {q r : Pos} (o : XOk T F N sc k X W) (h : callP T sc p g args = some es) (ha : AllE F X (T.cn Z) W as es) : SE X (T.cn Z) W (ev F (.prim p as)) (.Call (.Name g q) args [] r) := by
  unfold callP at h
  split at h
  · rename_i t ht
    split at h
    · rename_i a g2 p2
      split at h
      · rename_i hh
        cases h
        obtain ⟨h1, h2⟩ := and2 hh
        obtain ⟨h3, h4⟩ := and2 h2
        obtain ⟨h5, h6⟩ := and2 h4
        obtain rfl := eq_of_beq h1
        obtain rfl := eq_of_beq h5
        obtain ⟨g1, m1, n1⟩ := free_of o h3
        obtain ⟨g2, m2, n2⟩ := free_of o h6
        obtain ⟨x, rfl, hx⟩ := Paired1 ha
        have : p = .isi t := by
          unfold isiP at ht
          split at ht <;> cases ht
          rfl
        subst this
        exact s_isi (p1 := p2) o.fa.cls g1 m1 g2 m2 hx
      · cases h
    · cases h
  · split at h
    · rename_i c hc
      split at h
      · rename_i a g2 p2
        split at h
        · rename_i hh
          cases h
          obtain ⟨h1, h2⟩ := and2 hh
          obtain ⟨h3, h4⟩ := and2 h2
          obtain ⟨h5, h6⟩ := and2 h4
          obtain ⟨h7, h8⟩ := and2 h6
          obtain rfl := eq_of_beq h1
          obtain ⟨g1, m1, n1⟩ := free_of o h3
          obtain ⟨x, rfl, hx⟩ := Paired1 ha
          have : p = .isc [c] := by
            unfold iscP at hc
            split at hc <;> cases hc
            rfl
          subst this
          unfold nmB at h5
          split at h5
          · rename_i d hd
            obtain rfl := eq_of_beq h5
            exact s_isc (p1 := p2) o.fa.cls o.fa.kC o.fa.nfC g1 m1 (gl_of o.hs h7) h8 hd hx
          · cases h5
        · cases h
      · cases h
    · split at h
      · rename_i hp
        split at h
        · rename_i g2 p2 a p3
          split at h
          · rename_i hh
            cases h
            obtain ⟨h1, h2⟩ := and2 hh
            obtain ⟨h3, h4⟩ := and2 h2
            obtain ⟨h5, h6⟩ := and2 h4
            obtain rfl := eq_of_beq h1
            obtain rfl := eq_of_beq h5
            obtain ⟨g1, m1, n1⟩ := free_of o h3
            obtain ⟨g2, m2, n2⟩ := free_of o h6
            obtain ⟨x, rfl, hx⟩ := Paired1 ha
            have : p = .lenset := by
              unfold isLenset at hp
              split at hp <;> first | rfl | cases hp
            subst this
            exact s_lenset o.calm g1 m1 g2 m2 hx
          · cases h
        · cases h
      · split at h
        · rename_i hh
          cases h
          obtain ⟨h1, h2⟩ := and2 hh
          obtain ⟨h3, h4⟩ := and2 h2
          obtain ⟨g1, m1, n1⟩ := free_of o h3
          have hne : args ≠ [] := by
            intro z
            subst z
            cases h4
          rcases Bool.or_eq_true_iff.mp h1 with z | z
          · obtain ⟨id, hv, hc⟩ := biB_ok (C := T.cn Z) o.calm o.room.units o.ng o.fa.sm z
            exact s_callB (p2 := q) ev_prim (pr_calm p) hc g1 m1 hv n1 ha hne
          · obtain ⟨id, hv, hc⟩ := biT_ok (X := X) (C := T.cn Z) z
            exact s_callT (p2 := q) ev_prim (pr_calm p) hc g1 m1 hv n1 ha hne
        · cases h
theorem s_it {kk : ItK} {tg iter : Expr} {es : List Expr} {its : List Ex} (o : XOk T F N sc k X W) (h : itP T sc kk tg iter = some es) (ha : AllE F X (T.cn Z) W its es) : PI X tg iter (tI X.K (T.cn Z) W (rowsM F kk its)) := by
  unfold itP at h
  split at h
  · cases h
    obtain ⟨x, rfl, hx⟩ := Paired1 ha
    exact i_seq hx
  · split at h
    · rename_i g p args q
      split at h
      · rename_i hh
        cases h
        obtain ⟨h1, h2⟩ := and2 hh
        obtain ⟨h3, h4⟩ := and2 h2
        obtain rfl := eq_of_beq h1
        obtain ⟨g1, m1, n1⟩ := free_of o h3
        rcases Bool.or_eq_true_iff.mp h4 with z | z
        · have hl := eq_of_beq z
          match es, hl, ha with
          | [a], _, ha =>
            obtain ⟨x, rfl, hx⟩ := Paired1 ha
            exact i_rng1 g1 m1 hx
        · have hl := eq_of_beq z
          match es, hl, ha with
          | [a, b], _, ha =>
            obtain ⟨x, y, rfl, hx, hy⟩ := Paired2 (es := []) ha
            exact i_rng2 g1 m1 hx hy
      · cases h
    · cases h
  · split at h
    · rename_i g p a q
      split at h
      · rename_i hh
        cases h
        obtain ⟨h1, h2⟩ := and2 hh
        obtain ⟨h3, h4⟩ := and2 h2
        obtain rfl := eq_of_beq h1
        obtain ⟨g1, m1, n1⟩ := free_of o h3
        obtain ⟨x, rfl, hx⟩ := Paired1 ha
        unfold tgIsTup at h4
        split at h4
        · exact i_enum g1 m1 hx
        · cases h4
      · cases h
    · cases h
  · split at h
    · rename_i g p a b q
      split at h
      · rename_i hh
        cases h
        obtain ⟨h1, h2⟩ := and2 hh
        obtain ⟨h3, h4⟩ := and2 h2
        obtain rfl := eq_of_beq h1
        obtain ⟨g1, m1, n1⟩ := free_of o h3
        obtain ⟨x, y, rfl, hx, hy⟩ := Paired2 (es := []) ha
        unfold tgIsTup at h4
        split at h4
        · exact i_zip g1 m1 hx hy
        · cases h4
      · cases h
    · cases h
  · split at h
    · rename_i a m p q
      split at h
      · rename_i hh
        cases h
        obtain ⟨h1, h2⟩ := and2 hh
        obtain ⟨h3, h4⟩ := and2 h2
        obtain ⟨h5, h6⟩ := and2 h4
        obtain rfl := eq_of_beq h1
        obtain ⟨x, rfl, hx⟩ := Paired1 ha
        unfold tgIsTup at h5
        split at h5
        · exact i_items hx (baseB_ok h6) h3
        · cases h5
      · cases h
    · cases h
  · cases h
end
end L3
/-! L3: the checker's word on expressions is kept. -/
namespace L3
open PySem PySem.Spec PyProof.Rows L2

section
variable {T : Tb} {F : Nat → List Vl → Hs → Out Vl} {N : List Str} {k : Nat}
theorem three_q {as : List Ex} {a b c : Expr} {X : Cx} {C : Cn} {W : WX} (h : AllE F X C W as [a, b, c]) (t : third as = true) : ∃ p q r, as = [p, q, r] ∧ SE X C W (ev F p) a ∧ SE X C W (ev F q) b ∧ SE X C W (ev F r) c ∧ quietE r = true := by
  obtain ⟨p, q, r, rfl, h1, h2, h3⟩ := Paired3 h
  exact ⟨p, q, r, rfl, h1, h2, h3, t⟩
theorem fnB_ok {f n : Nat} {g : Str} (h : fnB T k f g n = true) : ∃ d, T.fns[f]? = some d ∧ d.nm = g ∧ d.lev ≤ k ∧ n = d.ps.length ∧ d.nm ≠ Str.empty := by
  unfold fnB at h
  split at h
  · rename_i d hd
    obtain ⟨h1, h2⟩ := and2 h
    obtain ⟨h3, h4⟩ := and2 h2
    obtain ⟨h5, h6⟩ := and2 h4
    refine ⟨d, hd, eq_of_beq h1, of_decide_eq_true h3, of_decide_eq_true h5, fun z => ?_⟩
    rw [z] at h6
    exact absurd h6 (by simp)
  · cases h
theorem newB_ok {c f n : Nat} {g : Str} (h : newB T k c f g n = true) : ∃ d df, T.cls[c]? = some d ∧ T.fns[f]? = some df ∧ d.nm = g ∧ d.ini = f ∧ df.lev + 1 ≤ k ∧ n + 1 = df.ps.length := by
  unfold newB at h
  split at h
  · rename_i d df hd hf
    obtain ⟨h1, h2⟩ := and2 h
    obtain ⟨h3, h4⟩ := and2 h2
    obtain ⟨h5, h6⟩ := and2 h4
    exact ⟨d, df, hd, hf, eq_of_beq h1, of_decide_eq_true h3, of_decide_eq_true h5, of_decide_eq_true h6⟩
  · cases h
theorem eqB_ok {c f : Nat} (h : eqB T k c f = true) : ∃ d df, T.cls[c]? = some d ∧ T.fns[f]? = some df ∧ d.eq = some f ∧ df.lev + 1 ≤ k ∧ df.ps.length = 2 := by
  unfold eqB at h
  split at h
  · rename_i d df hd hf
    obtain ⟨h1, h2⟩ := and2 h
    obtain ⟨h3, h4⟩ := and2 h2
    exact ⟨d, df, hd, hf, of_decide_eq_true h1, of_decide_eq_true h3, of_decide_eq_true h4⟩
  · cases h
theorem proB_ok {c f : Nat} {n : Str} (h : proB T k c f n = true) : ∃ d df, T.cls[c]? = some d ∧ T.fns[f]? = some df ∧ (n, f) ∈ d.pr ∧ df.lev + 1 ≤ k ∧ df.ps.length = 1 := by
  unfold proB at h
  split at h
  · rename_i d df hd hf
    obtain ⟨h1, h2⟩ := and2 h
    obtain ⟨h3, h4⟩ := and2 h2
    exact ⟨d, df, hd, hf, of_decide_eq_true h1, of_decide_eq_true h3, of_decide_eq_true h4⟩
  · cases h
theorem attrB_ok {c i : Nat} {n : Str} (h : attrB T c i n = true) : ∃ d, T.cls[c]? = some d ∧ d.fl[i]? = some n := by
  unfold attrB at h
  split at h
  · rename_i d hd
    exact ⟨d, hd, of_decide_eq_true h⟩
  · cases h
theorem glo_of {n : Str} {v : D} {P : Program} {w : World} {K : PySem.W.Frag} {mg : Str → Option Value} {base : Heap} (fa : Facts T F P w K mg base k) (h : gloB T n v = true) : ∃ u, mg n = some u ∧ GV v u := by
  unfold gloB at h
  obtain ⟨p, hp, h⟩ := List.any_eq_true.mp h
  obtain ⟨h1, h2⟩ := and2 h
  obtain rfl := eq_of_beq h1
  obtain ⟨u, e, g⟩ := fa.glo p hp
  refine ⟨u, e, ?_⟩
  generalize p.2 = d at h2 g
  unfold sameD at h2
  split at h2
  · rw [← eq_of_beq h2]
    exact g
  · rw [← eq_of_beq h2]
    exact g
  · cases h2
theorem s_cntB {sc : Scope} {X : Cx} {W : WX} {Z : Addr → Prop} {x y : Ex} {ob : Expr} {args : List Expr} {p q : Pos} (o : XOk T F N sc k X W) (hl : args.length = 1) (al : AllE F X (T.cn Z) W [x, y] (ob :: args)) (st : stillE y = true) (hb : baseB ob = true) (hp : (p.endLine == q.line) = true) :
    SE X (T.cn Z) W (ev F (.prim .count [x, y])) (.Call (.Attribute ob "count" p) args [] q) := by
  match args, hl, al with
  | [a], _, al => exact s_count (by have := o.room.units; omega) al.1 al.2.1 st (baseB_ok hb) hp
theorem s_mk_call {sc : Scope} {X : Cx} {W : WX} {Z : Addr → Prop} {m : Bool} {p : Mk} {g : Str} {args : List Expr} {as : List Ex} {q r : Pos} (o : XOk T F N sc k X W) (h1 : (biM p g || biMT p g) = true) (h3 : freeB T sc g = true) (h5 : (!args.isEmpty) = true) (al : AllE F X (T.cn Z) W as args) :
    SE X (T.cn Z) W (ev F (.mk m p as)) (.Call (.Name g q) args [] r) := by
  obtain ⟨g1, m1, n1⟩ := free_of o h3
  have hne : args ≠ [] := by
    intro z
    subst z
    cases h5
  rcases Bool.or_eq_true_iff.mp h1 with z | z
  · obtain ⟨id, hv, hc⟩ := biM_ok (X := X) (C := T.cn Z) (m := m) o.calm z
    exact s_callB (p2 := q) ev_mk (mk_calm m p) hc g1 m1 hv n1 al hne
  · obtain ⟨id, hv, hc⟩ := biMT_ok (X := X) (C := T.cn Z) (m := m) z
    exact s_callT (p2 := q) ev_mk (mk_calm m p) hc g1 m1 hv n1 al hne
theorem s_lr {sc : Scope} {X : Cx} {W : WX} {Z : Addr → Prop} {m : Bool} {p : Mk} {args : List Expr} {x : Ex} {a : Expr} {q r : Pos} (o : XOk T F N sc k X W) (hp : isLR p = true) (ea : lrA args = some (("range" : Str), a)) (h1 : freeB T sc "list" = true) (h2 : freeB T sc "range" = true) (hx : SE X (T.cn Z) W (ev F x) a) :
    SE X (T.cn Z) W (ev F (.mk m p [x])) (.Call (.Name "list" q) args [] r) := by
  obtain ⟨g1, m1, n1⟩ := free_of o h1
  obtain ⟨g2, m2, n2⟩ := free_of o h2
  have e : p = .listRange := by
    unfold isLR at hp
    split at hp <;> first | rfl | cases hp
  subst e
  unfold lrA at ea
  split at ea
  · cases ea
    exact s_listRange o.calm g1 m1 g2 m2 hx
  · cases ea
theorem s_ss {sc : Scope} {X : Cx} {W : WX} {Z : Addr → Prop} {m : Bool} {p : Mk} {args : List Expr} {x : Ex} {a : Expr} {q r : Pos} (o : XOk T F N sc k X W) (hp : isSS p = true) (ea : lrA args = some (("set" : Str), a)) (h1 : freeB T sc "sorted" = true) (h2 : freeB T sc "set" = true) (hx : SE X (T.cn Z) W (ev F x) a) :
    SE X (T.cn Z) W (ev F (.mk m p [x])) (.Call (.Name "sorted" q) args [] r) := by
  obtain ⟨g1, m1, n1⟩ := free_of o h1
  obtain ⟨g2, m2, n2⟩ := free_of o h2
  have e : p = .sortedSet := by
    unfold isSS at hp
    split at hp <;> first | rfl | cases hp
  subst e
  unfold lrA at ea
  split at ea
  · cases ea
    exact s_sortedSet o.calm g1 m1 g2 m2 hx
  · cases ea
mutual
theorem sE : ∀ (x : Ex) {sc : Scope} {e : Expr} {X : Cx} {W : WX} {Z : Addr → Prop}, XOk T F N sc k X W → mE T N k x sc e = true → SE X (T.cn Z) W (ev F x) e
  | .var i, sc, e, X, W, Z, o, h => by
    unfold mE at h
    split at h
    · obtain ⟨h1, h2⟩ := and2 h
      obtain ⟨h3, h4⟩ := and2 h2
      refine s_var (by rw [o.hN]; exact of_decide_eq_true h1) (by rw [o.hs]; exact vis_of h3) h4
    · cases h
  | .cst v, sc, e, X, W, Z, o, h => by
    unfold mE at h
    split at h
    · exact s_const h
    · cases h
  | .glb n v, sc, e, X, W, Z, o, h => by
    unfold mE at h
    split at h
    · obtain ⟨h1, h2⟩ := and2 h
      obtain ⟨h3, h4⟩ := and2 h2
      obtain ⟨h5, h6⟩ := and2 h4
      obtain rfl := eq_of_beq h1
      obtain ⟨u, e1, g⟩ := glo_of o.fa h6
      exact s_glb (gl_of o.hs h3) e1 g h5
    · cases h
  | .prim p as, sc, e, X, W, Z, o, h => by
    unfold mE at h
    have hu := o.room.units
    split at h
    · obtain ⟨h1, h2⟩ := and2 h
      obtain ⟨x, y, rfl, hx, hy⟩ := Paired2 (es := []) (sEs as o h2)
      exact s_bin ev_prim (pr_calm p) (opB_ok h1) hx hy
    · obtain ⟨h1, h2⟩ := and2 h
      obtain ⟨x, rfl, hx⟩ := Paired1 (sEs as o h2)
      unfold unB at h1
      split at h1
      · exact s_un ev_prim (pr_calm _) o_neg (by decide) hx
      · cases h1
    · split at h
      · split at h
        · obtain ⟨h1, h2⟩ := and2 h
          obtain ⟨h3, h4⟩ := and2 h2
          obtain ⟨x, y, rfl, hx, hy⟩ := Paired2 (es := []) (sEs (Z := Z) as o h4)
          exact s_cmp ev_prim (pr_calm p) (cmpB_ok (by omega) h1) hx hy h3
        · cases h
      · cases h
    · obtain ⟨h1, h2⟩ := and2 h
      unfold isTupP at h1
      split at h1
      · exact s_tup (sEs as o h2)
      · cases h1
    · split at h
      · split at h
        · split at h
          · split at h
            · obtain ⟨h1, h2⟩ := and2 h
              obtain ⟨h3, h4⟩ := and2 h2
              obtain ⟨x, y, z, rfl, hx, hy, hz, qz⟩ := three_q (sEs (Z := Z) as o h4) h3
              unfold isSl at h1
              split at h1 <;> first | cases h1 | skip
              exact s_slLU ev_prim (pr_calm _) s_pr slPr_LU hx hy hz qz
            · obtain ⟨h1, h2⟩ := and2 h
              obtain ⟨x, y, rfl, hx, hy⟩ := Paired2 (es := []) (sEs (Z := Z) as o h2)
              unfold isSl at h1
              split at h1 <;> first | cases h1 | skip
              exact s_slL ev_prim (pr_calm _) s_pr slPr_L hx hy
          · split at h
            · obtain ⟨h1, h2⟩ := and2 h
              obtain ⟨x, y, rfl, hx, hy⟩ := Paired2 (es := []) (sEs (Z := Z) as o h2)
              unfold isSl at h1
              split at h1 <;> first | cases h1 | skip
              exact s_slU ev_prim (pr_calm _) s_pr slPr_U hx hy
            · cases h
        · obtain ⟨h1, h2⟩ := and2 h
          obtain ⟨h3, h4⟩ := and2 h2
          obtain ⟨x, rfl, hx⟩ := Paired1 (sEs (Z := Z) as o h4)
          unfold isRevT at h1
          split at h1
          · unfold revB at h3
            split at h3
            · rename_i heq
              cases heq
              exact s_revT hx
            · cases h3
          · cases h1
      · obtain ⟨h1, h2⟩ := and2 h
        obtain ⟨x, y, rfl, hx, hy⟩ := Paired2 (es := []) (sEs (Z := Z) as o h2)
        unfold isItemP at h1
        split at h1
        · exact s_item (by omega) hx hy
        · cases h1
    · split at h
      · split at h
        · split at h
          · rename_i es he
            exact s_prim_call o he (sEs as o h)
          · cases h
        · split at h
          · rename_i x0 y0
            obtain ⟨h1, h2⟩ := and2 h
            obtain ⟨h3, h4⟩ := and2 h2
            obtain ⟨h5, h6⟩ := and2 h4
            obtain ⟨h7, h8⟩ := and2 h6
            obtain ⟨h9, h10⟩ := and2 h8
            have hl := eq_of_beq h9
            have al := sEs (Z := Z) _ o h10
            unfold mtB at h1
            split at h1
            · obtain rfl := eq_of_beq h1
              exact s_cntB o hl al h3 h7 h5
            · cases h1
          · cases h
        · cases h
      · cases h
    · cases h
  | .mk m p as, sc, e, X, W, Z, o, h => by
    unfold mE at h
    split at h
    · obtain ⟨h1, h2⟩ := and2 h
      obtain ⟨x, y, rfl, hx, hy⟩ := Paired2 (es := []) (sEs (Z := Z) as o h2)
      exact s_bin ev_mk (mk_calm m p) (opM_ok h1) hx hy
    · obtain ⟨h1, h2⟩ := and2 h
      unfold isLstP at h1
      split at h1
      · exact s_list (sEs as o h2)
      · cases h1
    · split at h
      · split at h
        · split at h
          · split at h
            · obtain ⟨h1, h2⟩ := and2 h
              obtain ⟨h3, h4⟩ := and2 h2
              obtain ⟨x, y, z, rfl, hx, hy, hz, qz⟩ := three_q (sEs (Z := Z) as o h4) h3
              unfold isSlM at h1
              split at h1 <;> first | cases h1 | skip
              exact s_slLU ev_mk (mk_calm _ _) (s_mk m) slMk_LU hx hy hz qz
            · obtain ⟨h1, h2⟩ := and2 h
              obtain ⟨x, y, rfl, hx, hy⟩ := Paired2 (es := []) (sEs (Z := Z) as o h2)
              unfold isSlM at h1
              split at h1 <;> first | cases h1 | skip
              exact s_slL ev_mk (mk_calm _ _) (s_mk m) slMk_L hx hy
          · split at h
            · obtain ⟨h1, h2⟩ := and2 h
              obtain ⟨x, y, rfl, hx, hy⟩ := Paired2 (es := []) (sEs (Z := Z) as o h2)
              unfold isSlM at h1
              split at h1 <;> first | cases h1 | skip
              exact s_slU ev_mk (mk_calm _ _) (s_mk m) slMk_U hx hy
            · cases h
        · obtain ⟨h1, h2⟩ := and2 h
          obtain ⟨h3, h4⟩ := and2 h2
          obtain ⟨x, rfl, hx⟩ := Paired1 (sEs (Z := Z) as o h4)
          unfold isRevP at h1
          split at h1
          · unfold revB at h3
            split at h3
            · rename_i heq
              cases heq
              exact s_rev hx
            · cases h3
          · cases h1
      · cases h
    · split at h
      · split at h
        · split at h
          · rename_i hp
            split at h
            · rename_i g2 a ea
              obtain ⟨h1, h2⟩ := and2 h
              obtain ⟨h3, h4⟩ := and2 h2
              obtain ⟨h5, h6⟩ := and2 h4
              obtain ⟨h7, h8⟩ := and2 h6
              obtain rfl := eq_of_beq h1
              obtain rfl := eq_of_beq h5
              obtain ⟨x, rfl, hx⟩ := Paired1 (sEs (Z := Z) as o h8)
              exact s_lr o hp ea h3 h7 hx
            · cases h
          · split at h
            · rename_i hp
              split at h
              · rename_i g2 a ea
                obtain ⟨h1, h2⟩ := and2 h
                obtain ⟨h3, h4⟩ := and2 h2
                obtain ⟨h5, h6⟩ := and2 h4
                obtain ⟨h7, h8⟩ := and2 h6
                obtain rfl := eq_of_beq h1
                obtain rfl := eq_of_beq h5
                obtain ⟨x, rfl, hx⟩ := Paired1 (sEs (Z := Z) as o h8)
                exact s_ss o hp ea h3 h7 hx
              · cases h
            · obtain ⟨h1, h2⟩ := and2 h
              obtain ⟨h3, h4⟩ := and2 h2
              obtain ⟨h5, h6⟩ := and2 h4
              exact s_mk_call o h1 h3 h5 (sEs as o h6)
        · cases h
      · cases h
    · cases h
  | .and a b, sc, e, X, W, Z, o, h => by
    unfold mE at h
    split at h
    · split at h
      · split at h
        · obtain ⟨h1, h2⟩ := and2 h
          split at h2
          · exact s_and2 (sE a o h1) (sE b o h2)
          · exact s_andN (sE a o h1) (sE b o h2)
        · cases h
      · cases h
    · cases h
  | .or a b, sc, e, X, W, Z, o, h => by
    unfold mE at h
    split at h
    · split at h
      · split at h
        · obtain ⟨h1, h2⟩ := and2 h
          split at h2
          · exact s_or2 (sE a o h1) (sE b o h2)
          · exact s_orN (sE a o h1) (sE b o h2)
        · cases h
      · cases h
    · cases h
  | .not a, sc, e, X, W, Z, o, h => by
    unfold mE at h
    split at h
    · split at h
      · exact s_not (sE a o h)
      · cases h
    · cases h
  | .ite c a b, sc, e, X, W, Z, o, h => by
    unfold mE at h
    split at h
    · obtain ⟨h1, h2⟩ := and2 h
      obtain ⟨h3, h4⟩ := and2 h2
      exact s_iteE (sE c o h1) (sE a o h3) (sE b o h4)
    · cases h
  | .chain p q a b c, sc, e, X, W, Z, o, h => by
    have hu := o.room.units
    unfold mE at h
    split at h
    · split at h
      · split at h
        · obtain ⟨h1, h2⟩ := and2 h
          obtain ⟨h3, h4⟩ := and2 h2
          obtain ⟨h5, h6⟩ := and2 h4
          obtain ⟨h7, h8⟩ := and2 h6
          obtain ⟨h9, h10⟩ := and2 h8
          exact s_chain (cmpB_ok (by omega) h1) (cmpB_ok (by omega) h3) (sE a o h7) (sE b o h9) (sE c o h10) h5
        · cases h
      · cases h
    · cases h
  | .call f as, sc, e, X, W, Z, o, h => by
    unfold mE at h
    split at h
    · split at h
      · split at h
        · obtain ⟨h1, h2⟩ := and2 h
          obtain ⟨h3, h4⟩ := and2 h2
          obtain ⟨h5, h6⟩ := and2 h4
          obtain ⟨d, e1, rfl, e3, e4, e5⟩ := fnB_ok h1
          exact s_call o.fa o.room o.ng o.tk e1 e3 e5 h5 (gl_of o.hs h3) (sEs as o h6) e4
        · cases h
      · cases h
    · cases h
  | .meth _ _ _ _ _, sc, e, X, W, Z, o, h => by
    unfold mE at h
    cases h
  | .attr c i n a, sc, e, X, W, Z, o, h => by
    unfold mE at h
    split at h
    · obtain ⟨h1, h2⟩ := and2 h
      obtain ⟨h3, h4⟩ := and2 h2
      obtain ⟨h5, h6⟩ := and2 h4
      obtain rfl := eq_of_beq h1
      obtain ⟨d, e1, e2⟩ := attrB_ok h3
      exact s_attr o.fa.cls e1 e2 (sE a o h6) (baseB_ok h5)
    · cases h
  | .pro c n f a, sc, e, X, W, Z, o, h => by
    unfold mE at h
    split at h
    · obtain ⟨h1, h2⟩ := and2 h
      obtain ⟨h3, h4⟩ := and2 h2
      obtain ⟨h5, h6⟩ := and2 h4
      obtain rfl := eq_of_beq h1
      obtain ⟨d, df, e1, e2, e3, e4, e5⟩ := proB_ok h3
      exact s_pro o.fa o.room o.ng e1 e3 e2 e4 e5 (sE a o h6) (baseB_ok h5)
    · cases h
  | .new m c f as, sc, e, X, W, Z, o, h => by
    unfold mE at h
    split at h
    · split at h
      · split at h
        · obtain ⟨h1, h2⟩ := and2 h
          obtain ⟨h3, h4⟩ := and2 h2
          obtain ⟨h5, h6⟩ := and2 h4
          obtain ⟨d, df, e1, e2, rfl, e4, e5, e6⟩ := newB_ok h1
          exact s_new o.fa o.room o.ng o.tk e1 e4 e2 e5 h5 (gl_of o.hs h3) (sEs as o h6) e6
        · cases h
      · cases h
    · cases h
  | .eqO c f n a b, sc, e, X, W, Z, o, h => by
    unfold mE at h
    split at h
    · split at h
      · split at h
        · obtain ⟨h1, h2⟩ := and2 h
          obtain ⟨h3, h4⟩ := and2 h2
          obtain ⟨h5, h6⟩ := and2 h4
          obtain ⟨h7, h8⟩ := and2 h6
          obtain rfl := of_decide_eq_true h1
          obtain ⟨d, df, e1, e2, e3, e4, e5⟩ := eqB_ok h3
          exact s_eqO o.fa o.room o.ng e1 e3 e2 e4 e5 o.tk (sE a o h7) (sE b o h8) h5
        · cases h
      · cases h
    · cases h
  | .comp m x t kk its cs, sc, e, X, W, Z, o, h => by
    unfold mE at h
    split at h
    · split at h
      · rename_i elt gs scope pos gs' tg iter ifs as
        obtain ⟨h1, h2⟩ := and2 h
        obtain ⟨h3, h4⟩ := and2 h2
        obtain ⟨h5, h6⟩ := and2 h4
        obtain ⟨h7, h8⟩ := and2 h6
        obtain ⟨h9, h10⟩ := and2 h8
        obtain ⟨h11, h12⟩ := and2 h10
        obtain ⟨h13, h14⟩ := and2 h12
        obtain ⟨h15, h16⟩ := and2 h14
        obtain rfl := of_decide_eq_true h1
        split at h16
        · rename_i es he
          refine s_comp (own := ownOf N t) (of_decide_eq_true h3) o.calm o.nd (by rw [o.hN, o.hs]; exact blkOk_by h5) (of_decide_eq_true h7) h9 (s_it o he (sEs its o h16)) (fun s H A cl fp => ?_) (fun D s H A cl fp => sEs cs (o.blk s H scope A cl fp) h15) (fun D s H A cl fp => sE x (o.blk s H scope A cl fp) h13)
          exact pg_tg (X := X.blk s H scope (compEnvC scope cl A X.env) fp) o.hN o.nd st_blk o.calm h11
        · cases h16
      · cases h
    · cases h
  | .dict m ks vs, sc, e, X, W, Z, o, h => by
    unfold mE at h
    split at h
    · split at h
      · rename_i vs' p
        obtain ⟨h1, h2⟩ := and2 h
        obtain ⟨h3, h4⟩ := and2 h2
        rw [List.isEmpty_iff] at h1 h3 h4
        subst h1 h3 h4
        exact s_dict0
      · rename_i vs' p _ ke
        obtain ⟨h1, h2⟩ := and2 h
        obtain ⟨h5, h6⟩ := and2 h2
        obtain ⟨h3, h4⟩ := and2 h6
        have ak := fun Z => sEs (Z := Z) ks o h3
        have av := fun Z => sEs (Z := Z) vs o h4
        cases ks with
        | nil => cases of_decide_eq_true h1
        | cons kx kr =>
          cases kr with
          | cons _ _ => exact absurd (of_decide_eq_true h1) (by simp)
          | nil =>
            cases vs with
            | nil => cases of_decide_eq_true h5
            | cons vx vr =>
              cases vr with
              | cons _ _ => exact absurd (of_decide_eq_true h5) (by simp)
              | nil =>
                cases vs' with
                | nil => exact (av Z).elim
                | cons ve r =>
                  cases r with
                  | cons _ _ => exact (av Z).2.elim
                  | nil => exact s_dictE (fun D => (ak fun a => Z a ∨ a = D).1) (fun D => (av fun a => Z a ∨ a = D).1)
      · cases h
    · cases h
  | .star k bs as, sc, e, X, W, Z, o, h => by
    unfold mE at h
    split at h
    · obtain ⟨h1, h2⟩ := and2 h
      split at h2
      · rename_i us hu
        exact s_starL (by simpa using h1) hu (sEs as o h2)
      · cases h2
    · obtain ⟨h1, h2⟩ := and2 h
      obtain rfl := eq_of_beq h1
      split at h2
      · rename_i us hu
        exact s_starT hu (sEs as o h2)
      · cases h2
    · cases h
  | .popc ob as, sc, e, X, W, Z, o, h => by
    unfold mE at h
    split at h
    · split at h
      · split at h
        · rename_i args q _ _ a m r
          obtain ⟨h1, h⟩ := and2 h
          obtain ⟨h2, h⟩ := and2 h
          obtain ⟨h3, h⟩ := and2 h
          obtain ⟨h4, h⟩ := and2 h
          obtain ⟨h5, h⟩ := and2 h
          obtain ⟨h6, h7⟩ := and2 h
          obtain rfl := eq_of_beq h1
          have ho := sE (Z := Z) ob o h6
          have al := sEs (Z := Z) as o h7
          cases as with
          | nil =>
            cases args with
            | cons _ _ => exact al.elim
            | nil => exact s_pop0 ho (baseB_ok h3) h2
          | cons y ys =>
            cases args with
            | nil => exact al.elim
            | cons b bs =>
              cases ys with
              | cons _ _ => exact absurd (of_decide_eq_true h5) (by simp)
              | nil =>
                cases bs with
                | cons _ _ => exact al.2.elim
                | nil => exact s_pop1 ho al.1 (baseB_ok h3) h2
        · cases h
      · cases h
    · cases h
  | .dcomp m kx vx t kk its cs, sc, e, X, W, Z, o, h => by
    unfold mE at h
    split at h
    · split at h
      · rename_i ke ve gs scope pos gs' tg iter ifs as
        obtain ⟨h1, h2⟩ := and2 h
        obtain ⟨h3, h4⟩ := and2 h2
        obtain ⟨h5, h6⟩ := and2 h4
        obtain ⟨h7, h8⟩ := and2 h6
        obtain ⟨h9, h10⟩ := and2 h8
        obtain ⟨h11, h12⟩ := and2 h10
        obtain ⟨h13, h14⟩ := and2 h12
        obtain ⟨h17, h18⟩ := and2 h14
        obtain ⟨h15, h16⟩ := and2 h18
        obtain rfl := of_decide_eq_true h1
        split at h16
        · rename_i es he
          refine s_dcomp (own := ownOf N t) (of_decide_eq_true h3) o.calm o.nd (by rw [o.hN, o.hs]; exact blkOk_by h5) (of_decide_eq_true h7) h9 (s_it o he (sEs its o h16)) (fun s H A cl fp => ?_) (fun D s H A cl fp => sEs cs (o.blk s H scope A cl fp) h15) (fun D s H A cl fp => sE kx (o.blk s H scope A cl fp) h13) (fun D s H A cl fp => sE vx (o.blk s H scope A cl fp) h17)
          exact pg_tg (X := X.blk s H scope (compEnvC scope cl A X.env) fp) o.hN o.nd st_blk o.calm h11
        · cases h16
      · cases h
    · cases h
  | .dictP _ _, sc, e, X, W, Z, o, h => by
    unfold mE at h
    cases h
  | .frz x, sc, e, X, W, Z, o, h => by
    unfold mE at h
    exact s_frz (sE x o h)
  | .wall, sc, e, X, W, Z, o, h => by
    unfold mE at h
    exact s_wallE h
theorem sEs : ∀ (xs : List Ex) {sc : Scope} {es : List Expr} {X : Cx} {W : WX} {Z : Addr → Prop}, XOk T F N sc k X W → mEs T N k xs sc es = true → AllE F X (T.cn Z) W xs es
  | [], sc, es, X, W, Z, o, h => by
    unfold mEs at h
    cases es with
    | nil => exact trivial
    | cons _ _ => cases h
  | x :: xs, sc, es, X, W, Z, o, h => by
    unfold mEs at h
    split at h
    · obtain ⟨h1, h2⟩ := and2 h
      exact ⟨sE x o h1, sEs xs o h2⟩
    · cases h
end
end
end L3
/-! L3: the checker's word on statements and defs is kept. -/
namespace L3
open PySem PySem.Spec PyProof.Rows L2

section
variable (T : Tb) (N : List Str) (k : Nat)
def isLc (e : Expr) : Bool := match e with
  | .ListComp _ _ _ _ => true
  | _ => false
mutual
def mS : Sm → Scope → Stmt → Bool
  | .asg t x, sc, st => match st with
    | .Assign tgs v _ => match tgs with
      | [tg] => tgB N sc t tg && (!(swB sc v tg) && ((noPar tg v || parCell sc tg) && (noStarT tg && mE T N k x sc v)))
      | _ => false
    | _ => false
  | .sub o i x, sc, st => match st with
    | .Assign tgs v _ => match tgs with
      | [tg] => match tg with
        | .Subscript ob ix _ => noSl ix && (noLc v && (mE T N k x sc v && (mE T N k o sc ob && mE T N k i sc ix)))
        | _ => false
      | _ => false
    | _ => false
  | .fld c i n o x, sc, st => match st with
    | .Assign tgs v _ => match tgs with
      | [tg] => match tg with
        | .Attribute ob m _ => m == n && (attrB T c i n && (mE T N k x sc v && mE T N k o sc ob))
        | _ => false
      | _ => false
    | _ => false
  | .app o x, sc, st => match st with
    | .Expr e _ => match e with
      | .Call f args kws q => match kws with
        | [] => match f with
          | .Attribute ob m p => match args with
            | [a] => m == ("append" : Str) && (p.endLine == q.line && (baseB ob && (mE T N k o sc ob && mE T N k x sc a)))
            | _ => false
          | _ => false
        | _ => false
      | _ => false
    | _ => false
  | .ext o x, sc, st => match st with
    | .Expr e _ => match e with
      | .Call f args kws q => match kws with
        | [] => match f with
          | .Attribute ob m p => match args with
            | [a] => m == ("extend" : Str) && (p.endLine == q.line && (baseB ob && (mE T N k o sc ob && mE T N k x sc a)))
            | _ => false
          | _ => false
        | _ => false
      | _ => false
    | _ => false
  | .clr o, sc, st => match st with
    | .Expr e _ => match e with
      | .Call f args kws q => match kws with
        | [] => match f with
          | .Attribute ob m p => match args with
            | [] => m == ("clear" : Str) && (p.endLine == q.line && (baseB ob && mE T N k o sc ob))
            | _ => false
          | _ => false
        | _ => false
      | _ => false
    | _ => false
  | .expr x, sc, st => match st with
    | .Expr e _ => noLc e && mE T N k x sc e
    | _ => false
  | .ret x, sc, st => match st with
    | .Return o _ => match o with
      | some e => mE T N k x sc e
      | none => false
    | _ => false
  | .retN, _, st => match st with
    | .Return o _ => match o with
      | some _ => false
      | none => true
    | _ => false
  | .ite c a b, sc, st => match st with
    | .If c' as bs _ => mE T N k c sc c' && (mSs a sc as && mSs b sc bs)
    | _ => false
  | .for_ t kk its b, sc, st => match st with
    | .For tg iter body els _ => match els with
      | [] => tgB N sc t tg && (noSet iter && (mSs b sc body && (match itP T sc kk tg iter with
        | some es => mEs T N k its sc es
        | none => false)))
      | _ => false
    | _ => false
  | .while_ c b, sc, st => match st with
    | .While c' body els _ => match els with
      | [] => mE T N k c sc c' && mSs b sc body
      | _ => false
    | _ => false
  | .raise _ _, _, _ => false
  | .tryAs _ _ _ _, _, _ => false
  | .pass, _, st => match st with
    | .Pass _ => true
    | _ => false
  | .brk, _, st => match st with
    | .Break _ => true
    | _ => false
  | .cont, _, st => match st with
    | .Continue _ => true
    | _ => false
  | .frzv _, _, _ => false
  | .par is xs, sc, st => match st with
    | .Assign tgs v _ => match tgs with
      | [tg] => match tg with
        | .Tuple ts _ _ => match v with
          | .Tuple vs _ _ => match is with
            | [i, j] => match ts with
              | [t1, t2] => match t1 with
                | .Name n _ => match t2 with
                  | .Name m _ => match vs with
                    | [_, _] => decide (N[i]? = some n) && (decide (N[j]? = some m) && (decide (i ≠ j) && (parB sc ts vs && mEs T N k xs sc vs)))
                    | _ => false
                  | _ => false
                | _ => false
              | _ => false
            | _ => false
          | _ => false
        | _ => false
      | _ => false
    | _ => false
  | .wall, _, _ => true
def mSs : List Sm → Scope → List Stmt → Bool
  | [], _, sts => sts.isEmpty
  | s :: r, sc, sts => match s with
    | .frzv _ => mSs r sc sts
    | .wall => true
    | s => match sts with
      | st :: sts => mS s sc st && mSs r sc sts
      | [] => false
end
end
structure SOk (T : Tb) (F : Nat → List Vl → Hs → Out Vl) (N : List Str) (sc : Scope) (k : Nat) (X : Cx) (W : WX) : Prop where
  x : XOk T F N sc k X W
  kind : X.env.scope.kind = .function
  st : StOk X sc
  po : PassesOwn (model X.prog X.w) X.A X.env X.xe
section
variable {T : Tb} {F : Nat → List Vl → Hs → Out Vl} {N : List Str} {k : Nat}
mutual
theorem sS : ∀ (s : Sm) {sc : Scope} {st : Stmt} {X : Cx} {W : WX} {Z : Addr → Prop}, SOk T F N sc k X W → mS T N k s sc st = true → SS F X (T.cn Z) W s st
  | .asg t x, sc, st, X, W, Z, o, h => by
    unfold mS at h
    split at h
    · split at h
      · obtain ⟨h1, h2⟩ := and2 h
        obtain ⟨h3, h4⟩ := and2 h2
        obtain ⟨h5, h6⟩ := and2 h4
        obtain ⟨h7, h8⟩ := and2 h6
        rw [Bool.not_eq_true'] at h3
        have hw : swappedStores [_] _ X.env = pure none := (Bool.or_eq_true_iff.mp h5).elim (fun z => noPar_ok z) (fun z => parCell_ok o.x.hs z)
        exact s_asg (sE x o.x h8) (pg_tg o.x.hN o.x.nd o.st o.x.calm h1) (sw_false o.kind o.x.hs h3) hw h7
      · cases h
    · cases h
  | .sub ob i x, sc, st, X, W, Z, o, h => by
    unfold mS at h
    split at h
    · split at h
      · split at h
        · obtain ⟨h1, h2⟩ := and2 h
          obtain ⟨h3, h4⟩ := and2 h2
          obtain ⟨h5, h6⟩ := and2 h4
          obtain ⟨h7, h8⟩ := and2 h6
          exact s_sub (by have := o.x.room.units; omega) h1 (sE x o.x h5) (sE ob o.x h7) (sE i o.x h8) h3
        · cases h
      · cases h
    · cases h
  | .fld c i n ob x, sc, st, X, W, Z, o, h => by
    unfold mS at h
    split at h
    · split at h
      · split at h
        · obtain ⟨h1, h2⟩ := and2 h
          obtain ⟨h3, h4⟩ := and2 h2
          obtain ⟨h5, h6⟩ := and2 h4
          obtain rfl := eq_of_beq h1
          obtain ⟨d, e1, e2⟩ := attrB_ok h3
          exact s_fld o.x.fa.cls e1 e2 (sE ob o.x h6) (sE x o.x h5)
        · cases h
      · cases h
    · cases h
  | .app ob x, sc, st, X, W, Z, o, h => by
    unfold mS at h
    split at h
    · split at h
      · split at h
        · split at h
          · split at h
            · obtain ⟨h1, h2⟩ := and2 h
              obtain ⟨h3, h4⟩ := and2 h2
              obtain ⟨h5, h6⟩ := and2 h4
              obtain ⟨h7, h8⟩ := and2 h6
              obtain rfl := eq_of_beq h1
              exact s_app (sE ob o.x h7) (sE x o.x h8) (baseB_ok h5) h3
            · cases h
          · cases h
        · cases h
      · cases h
    · cases h
  | .ext ob x, sc, st, X, W, Z, o, h => by
    unfold mS at h
    split at h
    · split at h
      · split at h
        · split at h
          · split at h
            · obtain ⟨h1, h2⟩ := and2 h
              obtain ⟨h3, h4⟩ := and2 h2
              obtain ⟨h5, h6⟩ := and2 h4
              obtain ⟨h7, h8⟩ := and2 h6
              obtain rfl := eq_of_beq h1
              exact s_ext (sE ob o.x h7) (sE x o.x h8) (baseB_ok h5) h3
            · cases h
          · cases h
        · cases h
      · cases h
    · cases h
  | .clr ob, sc, st, X, W, Z, o, h => by
    unfold mS at h
    split at h
    · split at h
      · split at h
        · split at h
          · split at h
            · obtain ⟨h1, h2⟩ := and2 h
              obtain ⟨h3, h4⟩ := and2 h2
              obtain ⟨h5, h6⟩ := and2 h4
              obtain rfl := eq_of_beq h1
              exact s_clr (sE ob o.x h6) (baseB_ok h5) h3
            · cases h
          · cases h
        · cases h
      · cases h
    · cases h
  | .expr x, sc, st, X, W, Z, o, h => by
    unfold mS at h
    split at h
    · obtain ⟨h1, h2⟩ := and2 h
      exact s_expr (sE x o.x h2) h1
    · cases h
  | .ret x, sc, st, X, W, Z, o, h => by
    unfold mS at h
    split at h
    · split at h
      · exact s_ret (sE x o.x h)
      · cases h
    · cases h
  | .retN, sc, st, X, W, Z, o, h => by
    unfold mS at h
    split at h
    · split at h
      · cases h
      · exact s_retN
    · cases h
  | .ite c a b, sc, st, X, W, Z, o, h => by
    unfold mS at h
    split at h
    · obtain ⟨h1, h2⟩ := and2 h
      obtain ⟨h3, h4⟩ := and2 h2
      exact s_ite (sE c o.x h1) (sSs a o h3) (sSs b o h4)
    · cases h
  | .for_ t kk its b, sc, st, X, W, Z, o, h => by
    unfold mS at h
    split at h
    · split at h
      · obtain ⟨h1, h2⟩ := and2 h
        obtain ⟨h3, h4⟩ := and2 h2
        obtain ⟨h5, h6⟩ := and2 h4
        split at h6
        · rename_i es he
          exact s_for o.po o.x.calm (s_it o.x he (sEs its o.x h6)) (pg_tg o.x.hN o.x.nd o.st o.x.calm h1) (sSs b o h5) h3
        · cases h6
      · cases h
    · cases h
  | .while_ c b, sc, st, X, W, Z, o, h => by
    unfold mS at h
    split at h
    · split at h
      · obtain ⟨h1, h2⟩ := and2 h
        exact s_while o.po (sE c o.x h1) (sSs b o h2)
      · cases h
    · cases h
  | .raise _ _, sc, st, X, W, Z, o, h => by
    unfold mS at h
    cases h
  | .tryAs _ _ _ _, sc, st, X, W, Z, o, h => by
    unfold mS at h
    cases h
  | .pass, sc, st, X, W, Z, o, h => by
    unfold mS at h
    split at h
    · exact s_pass
    · cases h
  | .brk, sc, st, X, W, Z, o, h => by
    unfold mS at h
    split at h
    · exact s_brk
    · cases h
  | .cont, sc, st, X, W, Z, o, h => by
    unfold mS at h
    split at h
    · exact s_cont
    · cases h
  | .frzv _, sc, st, X, W, Z, o, h => by
    unfold mS at h
    cases h
  | .par is xs, sc, st, X, W, Z, o, h => by
    unfold mS at h
    repeat' (split at h)
    all_goals (try (cases h; done))
    obtain ⟨h1, h2⟩ := and2 h
    obtain ⟨h3, h4⟩ := and2 h2
    obtain ⟨h5, h6⟩ := and2 h4
    obtain ⟨h7, h8⟩ := and2 h6
    obtain ⟨x, y, rfl, hx, hy⟩ := Paired2 (es := []) (sEs (Z := Z) xs o.x h8)
    exact s_par2 o.x.calm o.x.nd (by rw [o.x.hN]; exact of_decide_eq_true h1) (by rw [o.x.hN]; exact of_decide_eq_true h3) (of_decide_eq_true h5) o.kind o.x.hs h7 hx hy
  | .wall, sc, st, X, W, Z, o, h => s_wall
theorem sSs : ∀ (ss : List Sm) {sc : Scope} {sts : List Stmt} {X : Cx} {W : WX} {Z : Addr → Prop}, SOk T F N sc k X W → mSs T N k ss sc sts = true → SSs F X (T.cn Z) W ss sts
  | [], sc, sts, X, W, Z, o, h => by
    unfold mSs at h
    cases sts with
    | nil => exact ss_nil
    | cons _ _ => cases h
  | s :: r, sc, sts, X, W, Z, o, h => by
    unfold mSs at h
    split at h
    · exact ss_frzv (sSs r o h)
    · refine PSs.imp pss_never fun Dn σ H ⟨e, h, ρ, S, SE, k⟩ => ?_
      rw [execs, exec] at k
      exact k
    · split at h
      · obtain ⟨h1, h2⟩ := and2 h
        exact ss_cons (sS s o h1) (sSs r o h2)
      · cases h
end
end
end L3
/-! L3: a def does what its function says. -/
namespace L3
open PySem PySem.Spec PyProof.Rows L2

section
variable {K : PySem.W.Frag} {C : Cn} {ρ : List Addr} {h : Hs} {H : Hp}
def wfH (h : Hs) : Bool := h.all (lowC h.length)
theorem low_of {v : Vl} {u : V} {n : Nat} (hl : ρ.length = n) (r : RepV K C ρ h H v u) : lowV n v = true := by
  cases v with
  | d x => rfl
  | r k =>
    obtain ⟨p, e, _⟩ := r
    have := (List.getElem?_eq_some_iff.mp e).1
    rw [hl] at this
    exact decide_eq_true this
theorem lows_of {n : Nat} (hl : ρ.length = n) : ∀ {vs : List Vl} {us : List V}, RepVs K C ρ h H vs us → vs.all (lowV n) = true
  | [], _, .nil => rfl
  | v :: vs, _, .cons r t => by
    rw [List.all_cons, low_of hl r, lows_of hl t]
    rfl
theorem Sim.wf (S : Sim K C ρ h H) : wfH h = true := by
  unfold wfH
  refine List.all_eq_true.mpr fun c hc => ?_
  obtain ⟨i, hi, e⟩ := List.mem_iff_getElem.mp hc
  have e1 : h[i]? = some c := by rw [List.getElem?_eq_getElem hi, e]
  have hr : i < ρ.length := by rw [S.len]; exact hi
  have ok := S.ok i c _ e1 (List.getElem?_eq_getElem hr)
  cases c with
  | dead => rfl
  | dic _ => rfl
  | lst xs =>
    obtain ⟨vs, _, q⟩ := ok
    exact lows_of S.len q
  | ins c fs =>
    obtain ⟨dx, l, _, _, _, q⟩ := ok
    exact lows_of S.len q
/-- the cells of a call are gone behind it -/
theorem ext_take {ρ1 : List Addr} {h1 : Hs} {H1 : Hp} (S : Sim K C ρ h H) (x : L3.Ext C ρ h H ρ1 h1 H1) (S1 : Sim K C ρ1 h1 H1) : L3.Ext C ρ h H (ρ1.take h.length) (h1.take h.length) H1 ∧ ρ1.take h.length = ρ := by
  have e : ρ1.take h.length = ρ := by
    refine List.ext_getElem? fun i => ?_
    by_cases hi : i < h.length
    · rw [List.getElem?_take_of_lt hi]
      have hr : i < ρ.length := by rw [S.len]; exact hi
      rw [List.getElem?_eq_getElem hr]
      exact x.pre i _ (List.getElem?_eq_getElem hr)
    · rw [List.getElem?_eq_none (by rw [List.length_take]; omega), List.getElem?_eq_none (by rw [S.len]; omega)]
  refine ⟨⟨fun n p q => by rw [e]; exact q, fun a o q na => ⟨(x.fro a o q na).1, fun z => (x.fro a o q na).2 z.take⟩, x.hid⟩, e⟩
theorem lowV_g {ρ' : List Addr} {h' : Hs} {n : Nat} {v : Vl} {u : V} (f : Fro (AV C ρ h) H (AV C ρ' h') H) (pre : ∀ (i : Nat) p, i < n → ρ[i]? = some p → ρ'[i]? = some p) (l : lowV n v = true) (r : RepV K C ρ h H v u) : RepV K C ρ' h' H v u := by
  cases v with
  | d x => exact Rep.mono f r
  | r k =>
    obtain ⟨p, e, q⟩ := r
    exact ⟨p, pre k p (of_decide_eq_true l) e, q⟩
theorem lowVs_g {ρ' : List Addr} {h' : Hs} {n : Nat} (f : Fro (AV C ρ h) H (AV C ρ' h') H) (pre : ∀ (i : Nat) p, i < n → ρ[i]? = some p → ρ'[i]? = some p) : ∀ {vs : List Vl} {us : List V}, vs.all (lowV n) = true → RepVs K C ρ h H vs us → RepVs K C ρ' h' H vs us
  | [], _, _, .nil => .nil
  | v :: vs, _, l, .cons r t => by
    rw [List.all_cons, Bool.and_eq_true_iff] at l
    exact .cons (lowV_g f pre l.1 r) (lowVs_g f pre l.2 t)
theorem lowC_g {ρ' : List Addr} {h' : Hs} {n : Nat} {c : Cell} {p : Addr} (f : Fro (AV C ρ h) H (AV C ρ' h') H) (pre : ∀ (i : Nat) p, i < n → ρ[i]? = some p → ρ'[i]? = some p) (l : lowC n c = true) (r : CellOk K C ρ h H c p) : CellOk K C ρ' h' H c p := by
  cases c with
  | dead => trivial
  | lst xs =>
    obtain ⟨vs, e, q⟩ := r
    exact ⟨vs, e, lowVs_g f pre l q⟩
  | dic kvs =>
    obtain ⟨ks, e, q⟩ := r
    exact ⟨ks, e, q.mono f⟩
  | ins c fs =>
    obtain ⟨dx, ls, k, e, z, q⟩ := r
    exact ⟨dx, ls, k, e, z, lowVs_g f pre l q⟩
/-- what is left of an outcome -/
theorem done_ok {o : Out Vl} {Q : VK} {E : XK} (S : Sim K C ρ h H) (q : OkV K C ρ h H (done h.length o) Q E) : OkV K C ρ h H o Q E := by
  cases o with
  | bad => exact q
  | ex x h1 =>
    unfold done at q
    split at q
    · rename_i heq
      cases heq
    · rename_i heq
      cases heq
    · rename_i heq
      cases heq
      split at q
      · rename_i hl
        intro cls d H1 ρ1 x1 S1 r1
        obtain ⟨x2, e2⟩ := ext_take S x1 S1
        refine q cls d H1 _ x2 (S1.take _ hl) ?_
        unfold RepX at r1 ⊢
        split at r1
        · obtain ⟨z1, z2⟩ := r1
          refine ⟨z1, z2.elim .inl fun ⟨dd, l, a1, a2, a3, a4, a5⟩ => .inr ⟨dd, l, a1, a2, a3, a4, a5.mono (fro_take _)⟩⟩
        · exact r1
      · exact q.elim
    · exact q.elim
  | ok v h1 =>
    unfold done at q
    split at q
    · rename_i x h' heq
      cases heq
      split at q
      · rename_i hl
        intro u H1 ρ1 x1 S1 r1
        obtain ⟨x2, e2⟩ := ext_take S x1 S1
        exact q u H1 _ x2 (S1.take _ hl) (Rep.mono (fro_take _) r1)
      · exact q.elim
    · rename_i k h' heq
      cases heq
      split at q
      · rename_i hk
        split at q
        · rename_i hl
          intro u H1 ρ1 x1 S1 r1
          obtain ⟨x2, e2⟩ := ext_take S x1 S1
          obtain ⟨p, ep, rfl⟩ := r1
          exact q (.ref p) H1 _ x2 (S1.take _ hl) ⟨p, by rw [List.getElem?_take_of_lt hk]; exact ep, rfl⟩
        · exact q.elim
      · rename_i hk
        split at q
        · rename_i hl
          split at q
          · rename_i c hc
            split at q
            · rename_i hlow
              intro u H1 ρ1 x1 S1 r1
              obtain ⟨x2, e2⟩ := ext_take S x1 S1
              obtain ⟨p, ep, rfl⟩ := r1
              have S2 := S1.take _ hl
              have hlen : (ρ1.take h.length).length = h.length := by rw [e2, S.len]
              have hlen2 : (h1.take h.length).length = h.length := by rw [← S2.len]; exact hlen
              obtain ⟨hal, hlow⟩ := Bool.and_eq_true_iff.mp hlow
              have nd : c ≠ .dead := fun z => by
                rw [z] at hal
                cases hal
              have okc := S1.ok k c p hc ep
              -- the cell stays, as the last one
              have fro2 : Fro (AV C ρ1 h1) H1 (AV C (ρ1.take h.length ++ [p]) (h1.take h.length ++ [c])) H1 := fun a o e na => ⟨e, fun z => by
                rcases z with ⟨i, d, z1, z2, z3⟩ | z
                · rcases get_push z1 with y | ⟨y1, y2⟩
                  · have hi : i < h.length := by
                      have := (List.getElem?_eq_some_iff.mp y).1
                      omega
                    rw [List.getElem?_append_left (by omega)] at z2
                    exact na (.inl ⟨i, d, (get_taken y).2, (get_taken z2).2, z3⟩)
                  · exact na (.inl ⟨k, c, by rw [← y2]; exact ep, hc, nd⟩)
                · exact na (.inr z)⟩
              have pre2 : ∀ (i : Nat) q, i < h.length → ρ1[i]? = some q → (ρ1.take h.length ++ [p])[i]? = some q := fun i q hi e => get_pushed (by rw [List.getElem?_take_of_lt hi]; exact e)
              have hall : ∀ (i : Nat) d, (h1.take h.length)[i]? = some d → lowC h.length d = true := fun i d e => List.all_eq_true.mp hl d (List.mem_of_getElem? e)
              have lt1 : ∀ {i : Nat} {q : Addr}, (ρ1.take h.length)[i]? = some q → i < h.length := fun e => (get_taken e).1
              have old : ∀ {i : Nat} {d : Cell}, i < h.length → (h1.take h.length ++ [c])[i]? = some d → (h1.take h.length)[i]? = some d := fun hi e => by
                rw [List.getElem?_append_left (by omega)] at e
                exact e
              have last : ∀ {i : Nat} {d : Cell}, i = (ρ1.take h.length).length → (h1.take h.length ++ [c])[i]? = some d → c = d := fun hi e => by
                rw [hi, hlen, List.getElem?_append_right (by omega), hlen2, Nat.sub_self] at e
                exact Option.some.inj e
              have kn : ∀ (i : Nat) d, i < h.length → ρ1[i]? = some p → h1[i]? = some d → d ≠ .dead → False := fun i d hi e1 e2 e3 => hk (by rw [← S1.inj i k p d c e1 ep e2 hc e3 nd]; exact hi)
              have S3 : Sim K C (ρ1.take h.length ++ [p]) (h1.take h.length ++ [c]) H1 := by
                refine ⟨by rw [List.length_append, List.length_append, hlen, hlen2]; rfl, fun i j q c1 c2 e1 e2 e3 e4 n1 n2 => ?_, fun i d q e1 e2 => ?_, fun i d q e1 e2 e3 => ?_, S1.ht⟩
                · rcases get_push e1 with z | ⟨z1, z2⟩
                  · rcases get_push e2 with y | ⟨y1, y2⟩
                    · exact S2.inj i j q c1 c2 z y (old (lt1 z) e3) (old (lt1 y) e4) n1 n2
                    · rw [← y2] at z
                      exact (kn i c1 (lt1 z) (get_taken z).2 (get_taken (old (lt1 z) e3)).2 n1).elim
                  · rcases get_push e2 with y | ⟨y1, y2⟩
                    · rw [← z2] at y
                      exact (kn j c2 (lt1 y) (get_taken y).2 (get_taken (old (lt1 y) e4)).2 n2).elim
                    · rw [z1, y1]
                · rcases get_push e2 with z | ⟨z1, z2⟩
                  · have o1 := old (lt1 z) e1
                    exact lowC_g fro2 pre2 (hall i d o1) (S1.ok i d q (get_taken o1).2 (get_taken z).2)
                  · obtain rfl := last z1 e1
                    rw [← z2]
                    exact lowC_g fro2 pre2 hlow okc
                · rcases get_push e1 with z | ⟨z1, z2⟩
                  · exact S2.hd i d q z (old (lt1 z) e2) e3
                  · rw [← z2]
                    exact S1.hd k c p ep hc nd
              refine q (.ref p) H1 (ρ1.take h.length ++ [p]) ⟨fun n r e => get_pushed (x2.pre n r e), fun a o e na => fro2 a o (x1.fro a o e na).1 (x1.fro a o e na).2, x1.hid⟩ S3 ⟨p, ?_, rfl⟩
              rw [List.getElem?_append_right (by omega), hlen, Nat.sub_self]
              rfl
            · exact q.elim
          · exact q.elim
        · exact q.elim
    · rename_i heq
      cases heq
    · exact q.elim
end
/-! ### a def -/
section
variable {T : Tb} {F : Nat → List Vl → Hs → Out Vl} {P : Program} {w : World} {K : PySem.W.Frag} {mg : Str → Option Value} {base : Heap} {k : Nat}
theorem start_sim {C : Cn} {ρ : List Addr} {h : Hs} {H : Hp} {N : List Str} {as : List Vl} {vs : List V} (r : RepVs K C ρ h H as vs) : SimE K C ρ h H (as.map some ++ List.replicate (N.length - as.length) none) (L2.start N vs) := by
  have hl := r.len
  unfold L2.start
  refine ⟨by rw [List.length_append, List.length_append, List.length_map, List.length_map, List.length_replicate, List.length_replicate, hl], fun i v e => ?_⟩
  by_cases hi : i < as.length
  · rw [List.getElem?_append_left (by rw [List.length_map]; exact hi), List.getElem?_map] at e
    cases ea : as[i]? with
    | none => rw [ea] at e; cases e
    | some a =>
      rw [ea] at e
      cases e
      obtain ⟨u, eu, ru⟩ := Paired.get' r ea
      exact ⟨u, by rw [List.getElem?_append_left (by rw [List.length_map, ← hl]; exact hi), List.getElem?_map, eu]; rfl, ru⟩
  · rw [List.getElem?_append_right (by rw [List.length_map]; omega), List.getElem?_replicate] at e
    split at e <;> cases e
/-- what is asked of a def's function: where it has an answer, the body has it -/
def RunsAs (F : Nat → List Vl → Hs → Out Vl) (n : Nat) (b : List Sm) (i m : Nat) : Prop := ∀ (as : List Vl) (h : Hs), as.length = m → wfH h = true → as.all (lowV h.length) = true → F i as h ≠ .bad → run F n b as h = F i as h
theorem fn_ok {f : Addr} {name qual : Str} {params : Arguments} {body : List Stmt} {scope : Scope} {dV kV doc pm cdv ct oc : Value} {an od : Option Addr} {osl : Array (Option Value)} {N ps : List Str} {i : Nat} {b : List Sm}
    (fa : Facts T F P w K mg base k) (lk : K.lookup f = some ⟨oc, od, .func (PySem.W.fnOf name qual params body scope dV kV doc pm an cdv ct), osl⟩) (hcd : PySem.W.codeIn K cdv qual = true) (S : FnScope N ps scope)
    (m : mSs T N k b scope body = true) (hr : RunsAs F N.length b i ps.length) :
    FnG P w K mg base (L2.CX P w) (k + 1) f (PySem.W.fnOf name qual params body scope dV kV doc pm an cdv ct) ps (spOf K T ps.length (F i)) := by
  refine fn_ofG lk hcd S (fun vs H Q E h => spOf_len vs H Q E h) (fun A outer s H vs Q E room ng h => ?_)
  obtain ⟨Z, h, ρ, as, hl, Sm, r, q⟩ := h
  let X := cxOf (L2.CX P w) P w K mg base N qual scope f cdv A outer s H E
  have o : SOk T F N scope k X (fun c d _ H => E c d H) := by
    refine ⟨⟨fa, rfl, S.nd, rfl, rfl, room, ng.deeper _, takes_of rfl rfl rfl rfl⟩, S.kind, fun n hn => ⟨loc_of hn, .inl rfl⟩, passes_of rfl⟩
  refine ⟨_, sSs (Z := Z) b o m, ?_⟩
  refine ⟨as.map some ++ List.replicate (N.length - as.length) none, h, ρ, Sm, start_sim r, ?_⟩
  have nb : F i as h ≠ .bad := fun z => by
    rw [z] at q
    exact q
  have e := hr as h hl Sm.wf (lows_of Sm.len r) nb
  rw [← e] at q
  unfold run at q
  have q2 := done_ok Sm q
  show OkF K (T.cn Z) _ _ ρ h H (execs F b (as.map some ++ List.replicate (N.length - as.length) none) h)
  cases eo : execs F b (as.map some ++ List.replicate (N.length - as.length) none) h with
  | bad =>
    rw [eo] at q2
    exact q2.elim
  | ex x h1 =>
    rw [eo] at q2
    exact fun cls d σ H1 ρ1 x1 S1 r1 => q2 cls d H1 ρ1 x1 S1 r1
  | ok fl h1 =>
    rw [eo, bind_ok] at q2
    intro H1 ρ1 x1 S1
    cases fl with
    | nx e => exact fun σ _ => q2 .non H1 ρ1 x1 S1 .non
    | rt v => exact fun u ru => q2 u H1 ρ1 x1 S1 ru
    | bk e => exact q2.elim
    | ct e => exact q2.elim
end
end L3
/-! L3: plain parameters are bound as they are given. -/
namespace L3
open PySem PySem.Spec PyProof.Rows L2

theorem lookup_zip : ∀ {ps : List Str} {us : List Value} {n : Str}, us.length = ps.length → n ∈ ps → ∃ v, (ps.zip us).lookup n = some v
  | [], _, _, _, h => by cases h
  | p :: ps, [], _, hl, _ => by cases hl
  | p :: ps, u :: us, n, hl, h => by
    rw [List.zip_cons_cons, List.lookup_cons]
    cases hb : n == p with
    | true => exact ⟨u, rfl⟩
    | false =>
      rcases List.mem_cons.mp h with e | h
      · subst e
        simp at hb
      · exact lookup_zip (Nat.succ.inj hl) h
theorem fmb_congr {α β : Type} {f g : α → Option β} : ∀ {l : List α}, (∀ n ∈ l, f n = g n) → l.filterMap f = l.filterMap g
  | [], _ => rfl
  | x :: r, h => by
    rw [List.filterMap_cons, List.filterMap_cons, h x List.mem_cons_self, fmb_congr fun n hn => h n (List.mem_cons_of_mem _ hn)]
theorem zip_back : ∀ {ps : List Str} {us : List Value}, ps.Nodup → us.length = ps.length → (ps.filterMap fun n => ((ps.zip us).lookup n).map fun v => (n, v)) = ps.zip us
  | [], us, _, _ => by simp
  | p :: ps, [], _, hl => by cases hl
  | p :: ps, u :: us, nd, hl => by
    rw [List.nodup_cons] at nd
    rw [List.zip_cons_cons, List.filterMap_cons]
    have e : ((p, u) :: ps.zip us).lookup p = some u := by simp [List.lookup]
    rw [e]
    dsimp only [Option.map_some]
    have ih := zip_back nd.2 (Nat.succ.inj hl)
    have e2 : (ps.filterMap fun n => (((p, u) :: ps.zip us).lookup n).map fun v => (n, v)) = ps.filterMap fun n => ((ps.zip us).lookup n).map fun v => (n, v) := by
      refine fmb_congr fun n hn => ?_
      have : (n == p) = false := beq_eq_false_iff_ne.mpr fun z => nd.1 (z ▸ hn)
      rw [List.lookup_cons, this]
    rw [e2, ih]
theorem bind_plain {x qual : Str} {args : List Arg} {body : List Stmt} {scope : Scope} {kV doc pm : Value} {an : Option Addr} {cdv ct : Value} {ps : List Str} {us : List Value} (hp : args.map (·.arg) = ps) (nd : ps.Nodup) (hl : us.length = ps.length) :
    bindArgs (PySem.W.fnOf x qual ⟨[], args, none, [], [], none, []⟩ body scope .none kV doc pm an cdv ct) ⟨us, []⟩ = pure (ps.zip us) := by
  have hm : (ps.filter fun n => ((ps.zip us).lookup n).isNone) = [] := by
    rw [List.filter_eq_nil_iff]
    intro n hn
    obtain ⟨v, e⟩ := lookup_zip hl hn
    rw [e]
    simp
  have hz := zip_back nd hl
  have s0 : seqItems? (.none) = pure none := by rfl
  unfold bindArgs
  simp only [PySem.W.fnOf, List.map_nil, List.nil_append, hp, List.forIn_nil, s0]
  simp [hl, hm, hz]
end L3
/-! L3: the layout of a program; its facts. -/
namespace L3
open PySem PySem.Spec PyProof.Rows L2

structure FnL where
  at_ : Str × Option Str
  ps : List Str
  lev : Nat
  N : List Str
  b : List Sm
  pr : Bool
structure ClL where
  nm : Str
  fl : List Str
  ini : Nat
  mt : List (Str × Nat)
  pr : List (Str × Nat)
  eq : Option Nat
structure Lay where
  fns : List FnL
  cls : List ClL
  glo : List (Str × D)
  free : List Str
def FnL.nm (f : FnL) : Str := match f.at_.2 with
  | none => f.at_.1
  | some _ => Str.empty
/-- the getter of a class's property -/
def pAd (K : PySem.W.Frag) (C m : Str) : Addr := match PySem.W.recIn K (He.ma K (He.ga K C) m) "property" with
  | some (.ref g :: _) => g
  | _ => 0
def FnL.ad (K : PySem.W.Frag) (f : FnL) : Addr := match f.at_.2 with
  | none => He.fAd K f.at_
  | some m => if f.pr = true then pAd K f.at_.1 m else He.fAd K f.at_
theorem FnL.ad_g {K : PySem.W.Frag} {f : FnL} (h : f.at_.2 = none) : f.ad K = He.ga K f.at_.1 := by
  unfold FnL.ad He.fAd
  rw [h]
theorem FnL.ad_m {K : PySem.W.Frag} {f : FnL} {C m : Str} (h : (!f.pr) = true) (e : f.at_ = (C, some m)) : f.ad K = He.ma K (He.ga K C) m := by
  have h' : f.pr = false := by simpa using h
  unfold FnL.ad He.fAd
  rw [e, h']
  rfl
theorem FnL.ad_p {K : PySem.W.Frag} {f : FnL} {C m : Str} (h : f.pr = true) (e : f.at_ = (C, some m)) : f.ad K = pAd K C m := by
  unfold FnL.ad
  rw [e, h]
  rfl
def tbOf (K : PySem.W.Frag) (L : Lay) : Tb where
  fns := L.fns.map fun f => ⟨f.nm, f.ad K, f.ps, f.lev⟩
  cls := L.cls.map fun c => ⟨c.nm, He.ga K c.nm, c.fl, c.ini, c.mt, c.pr, c.eq⟩
  glo := L.glo
  free := L.free
/-! ### what is asked of the written part -/
def gloFa (p : Str × D) : He.Fa := match p.2 with
  | .int i => .int p.1 i
  | .str z => .str p.1 z
  | _ => .exm p.1 p.1 false
def Lay.fa (L : Lay) : List He.Fa := L.free.map .free ++ L.glo.map gloFa ++ (L.fns.filterMap fun f => match f.at_.2 with
    | none => some (.glo f.at_.1)
    | some _ => none) ++ (L.cls.map fun c => .glo c.nm) ++ (L.cls.map fun c => .cls c.nm) ++ (L.cls.map fun c => .mkr c.nm) ++ (L.cls.flatMap fun c => c.fl.map fun x => .noat c.nm x) ++ (L.cls.flatMap fun c => c.mt.map fun p => .meth c.nm p.1)
def eqOB (L : Lay) (K : PySem.W.Frag) (c : ClL) : Bool := match c.eq with
  | none => true
  | some i => match L.fns[i]? with
    | some f => !f.pr && decide (PySem.W.findIn K (.ref (He.ga K c.nm)) "__eq__" = some (some (.ref (f.ad K)))) && (PySem.W.isFn K (.ref (f.ad K)) && decide (PySem.W.findIn K (.ref (He.ga K c.nm)) "__ne__" = some (some (.builtin "object.__ne__"))))
    | none => false
def prO (L : Lay) (K : PySem.W.Frag) (c : ClL) (p : Str × Nat) : Bool := match L.fns[p.2]? with
  | some f => f.pr && (decide (f.at_ = (c.nm, some p.1)) && (decide (PySem.W.findIn K (.ref (He.ga K c.nm)) p.1 = some (some (.ref (He.ma K (He.ga K c.nm) p.1)))) && (decide (PySem.W.specialIn K (.ref (He.ma K (He.ga K c.nm) p.1)) "__get__" = some (some (.builtin "property.__get__"))) && (decide (PySem.W.takesIn K (.ref (He.ma K (He.ga K c.nm) p.1)) = some true) &&
    (match PySem.W.recIn K (He.ma K (He.ga K c.nm) p.1) "property" with
      | some (.ref _ :: _) => true
      | _ => false)))))
  | none => false
def clB (L : Lay) (K : PySem.W.Frag) (c : ClL) : Bool :=
  decide (PySem.W.findIn K (.ref (He.ga K c.nm)) "__class__" = some (some (.builtin "object.__class__"))) &&
  (decide (PySem.W.specialIn K (.builtin "object.__class__") "__get__" = some (some (.builtin "getset_descriptor.__get__"))) &&
  (decide (PySem.W.takesIn K (.builtin "object.__class__") = some true) &&
  (decide (PySem.W.mroIn K (He.ga K c.nm) (.type "object") = some true) &&
  (decide (PySem.W.subIn K (.ref (He.ga K c.nm)) (.type "object") = some true) &&
  ((tyNames.all fun n => decide (PySem.W.kitOne K (.ref (He.ga K c.nm)) (.type n) = some false)) &&
  ((("NoneType" :: tyNames).all fun n => decide (PySem.W.kitOne K (.type n) (.ref (He.ga K c.nm)) = some false)) &&
  ((("NoneType" :: tyNames).all fun n => decide (PySem.W.subIn K (.type n) (.ref (He.ga K c.nm)) = some false)) &&
  (eqOB L K c && c.pr.all fun p => prO L K c p))))))))
def prB (K : PySem.W.Frag) (a b : ClL × Nat) : Bool := decide (PySem.W.kitOne K (.ref (He.ga K a.1.nm)) (.ref (He.ga K b.1.nm)) = some (decide (a.2 = b.2))) && PySem.W.notFirst K (He.ga K a.1.nm) (.ref (He.ga K b.1.nm))
def Lay.ex (L : Lay) (K : PySem.W.Frag) : Bool := ((K.lookup sysModules).isSome && L.cls.all fun c => clB L K c) && (L.cls.zipIdx.all fun a => L.cls.zipIdx.all fun b => prB K a b)
/-- what only the layout says: its own numbers agree -/
def isIS (v : D) : Bool := match v with
  | .int _ => true
  | .str _ => true
  | _ => false
def Lay.ok (L : Lay) : Bool := (L.glo.all fun p => isIS p.2) && L.cls.all fun c => decide c.fl.Nodup && (decide (c.fl.length < 1000) && ((match L.fns[c.ini]? with
    | some f => !f.pr && decide (f.at_ = (c.nm, some ("__init__" : Str)))
    | none => false) && (c.mt.all fun p => decide (p.1 ∉ c.fl) && (match L.fns[p.2]? with
    | some f => !f.pr && decide (f.at_ = (c.nm, some p.1))
    | none => false))))
/-- a def at an address -/
def fnA (K : PySem.W.Frag) (a : Addr) : He.FnW := match K.lookup a with
  | some ⟨_, _, .func fd, _⟩ => some (fd.name, fd.qualname, fd.params, fd.body, fd.scope, fd.globals, fd.closure, fd.builtins)
  | _ => none
def isNone (v : Value) : Bool := match v with
  | .none => true
  | _ => false
def dOk (K : PySem.W.Frag) (a : Addr) (q : Str) : Bool := PySem.W.keepIn K (.ref a) && (match K.lookup a with
  | some ⟨_, _, .func fd, _⟩ => PySem.W.codeIn K fd.code q && isNone fd.defaults
  | _ => false)
theorem funA {K : PySem.W.Frag} {a : Addr} {d : He.DefD} (e : fnA K a = d.val) (c : dOk K a d.qual = true) : ∃ fd, FunD K d.name d.qual d.params d.body d.scope [] [] a fd := by
  obtain ⟨kp, c2⟩ := and2 c
  unfold fnA at e
  split at e
  · rename_i oc od fd osl lk
    rw [lk] at c2
    obtain ⟨k1, k2⟩ := and2 c2
    obtain ⟨n1, n2, n3, n4, n5, n6, n7, n8, n9, n10, n11, n12, n13, n14, n15⟩ := fd
    have e2 := Option.some.inj e
    simp only [Prod.mk.injEq] at e2
    obtain ⟨h1, h2, h3, h4, h5, h6, h7, h8⟩ := e2
    subst h1 h2 h3 h4 h5 h6 h7 h8
    refine ⟨_, ⟨oc, od, n8, n9, n10, n11, n12, n13, n14, osl, rfl, lk, k1, .inl ⟨rfl, ?_⟩, .inl rfl⟩, kp⟩
    unfold isNone at k2
    split at k2
    · assumption
    · cases k2
  · cases e
def obs3 (L : Lay) (fn : List He.DefD) (K : PySem.W.Frag) : He.AlD := ((L.fa.all fun f => f.ok K) && (((L.fns.zip fn).all fun p => dOk K (p.1.ad K) p.2.qual) && L.ex K), (L.fns.zip fn).map fun p => fnA K (p.1.ad K))
/-- the objects that matter, step by step -/
def refs3 (o : Obj) : List Addr := match o.data with
  | .func fd => He.refV fd.code ++ (He.refV fd.defaults ++ He.refV fd.kwdefaults)
  | .cls cd => [cd.ns]
  | .dict es _ => es.toList.flatMap fun e => He.refV e.val
  | .fields vs => (match o.cls with
    | .type t => if t == "property" then vs.toList.flatMap He.refV else []
    | _ => [])
  | _ => []
def step3 (g : Addr → Option Obj) (as : List Addr) : List Addr := as.flatMap fun a => match g a with
  | some o => refs3 o
  | none => []
def as3 (g : Addr → Option Obj) : List Addr :=
  let a0 := [mainGlobals, sysModules]
  let a1 := step3 g a0
  let a2 := step3 g a1
  let a3 := step3 g a2
  let a4 := step3 g a3
  let a5 := step3 g a4
  a0 ++ (a1 ++ (a2 ++ (a3 ++ (a4 ++ a5))))
def obs3G (L : Lay) (fn : List He.DefD) (g : Addr → Option Obj) : He.AlD := obs3 L fn (He.frG g (as3 g))
def hook3 (L : Lay) (fn : List He.DefD) : PySem.W.Hook where
  α := He.AlD
  obs := fun s => obs3G L fn s.heap.get?
  val := fun _ => He.valD fn
  says := fun _ h => ∃ K : PySem.W.Frag, K.In h ∧ obs3 L fn K = He.valD fn
  of := fun _ _ e => ⟨_, He.frG_in, e⟩
  keeps := fun _ _ _ ⟨K, hK, c⟩ k => ⟨K, PySem.W.Frag.In.keeps hK k, c⟩
theorem obs3_eq (L : Lay) (fn : List He.DefD) (s : PySem.W.SharedT) : obs3G L fn (HandSHeadRun.getT s) = (hook3 L fn).obs s.abs := by
  have e : HandSHeadRun.getT s = s.abs.heap.get? := funext fun a => HandSHeadRun.getT_eq s a
  rw [e]
  rfl
/-! ### facts out of it -/
def plainA (p : Arguments) (ps : List Str) : Bool := match p with
  | ⟨[], as, none, [], [], none, []⟩ => decide (as.map (·.arg) = ps) && decide ps.Nodup
  | _ => false
def scopeB (N ps : List Str) (sc : Scope) : Bool := decide (sc.kind = .function) && (!sc.isCoroutine && (!sc.isGenerator && (decide N.Nodup && (decide (N.take ps.length = ps) && ((ps.all fun x => locB sc x) && sc.names.all fun y => !(y.2 == .free))))))
theorem scopeB_ok {N ps : List Str} {sc : Scope} (h : scopeB N ps sc = true) : FnScope N ps sc := by
  unfold scopeB at h
  obtain ⟨h1, h⟩ := and2 h
  obtain ⟨h2, h⟩ := and2 h
  obtain ⟨h3, h⟩ := and2 h
  obtain ⟨h4, h⟩ := and2 h
  obtain ⟨h5, h⟩ := and2 h
  obtain ⟨h6, h7⟩ := and2 h
  refine ⟨of_decide_eq_true h1, by simpa using h2, by simpa using h3, of_decide_eq_true h4, of_decide_eq_true h5, fun x hx => loc_of (List.all_eq_true.mp h6 x hx), fun y hy e => ?_⟩
  have := List.all_eq_true.mp h7 y hy
  rw [e] at this
  cases this
def chk (T : Tb) (p : FnL × He.DefD) : Bool := decide (p.2.at_ = p.1.at_) && (plainA p.2.params p.1.ps && (scopeB p.1.N p.1.ps p.2.scope && (decide (1 ≤ p.1.lev) && (p.2.dfl.isEmpty && (p.2.kwd.isEmpty && (mSs T p.1.N (p.1.lev - 1) p.1.b p.2.scope p.2.body))))))
section
variable {L : Lay} {fn : List He.DefD} {K : PySem.W.Frag} {F : Nat → List Vl → Hs → Out Vl} {P : Program} {w : World} {mg : Str → Option Value} {base h : Heap}
theorem says_fa (c : obs3 L fn K = He.valD fn) {f : He.Fa} (hf : f ∈ L.fa) : f.ok K = true := by
  have c1 := (and2 (show ((L.fa.all fun f => f.ok K) && (((L.fns.zip fn).all fun p => dOk K (p.1.ad K) p.2.qual) && L.ex K)) = true from congrArg (fun z : He.AlD => z.1) c)).1
  exact List.all_eq_true.mp c1 f hf
theorem says_ex (c : obs3 L fn K = He.valD fn) : L.ex K = true := (and2 (and2 (show ((L.fa.all fun f => f.ok K) && (((L.fns.zip fn).all fun p => dOk K (p.1.ad K) p.2.qual) && L.ex K)) = true from congrArg (fun z : He.AlD => z.1) c)).2).2
theorem says_def (c : obs3 L fn K = He.valD fn) {i : Nat} {f : FnL} {d : He.DefD} (hf : L.fns[i]? = some f) (hd : fn[i]? = some d) : ∃ fd, FunD K d.name d.qual d.params d.body d.scope [] [] (f.ad K) fd := by
  have c2 := (and2 (and2 (show ((L.fa.all fun f => f.ok K) && (((L.fns.zip fn).all fun p => dOk K (p.1.ad K) p.2.qual) && L.ex K)) = true from congrArg (fun z : He.AlD => z.1) c)).2).1
  have e : ((L.fns.zip fn).map fun p => fnA K (p.1.ad K)) = fn.map He.DefD.val := congrArg (fun z : He.AlD => z.2) c
  have hz : (L.fns.zip fn)[i]? = some (f, d) := by rw [List.getElem?_zip_eq_some]; exact ⟨hf, hd⟩
  have e2 : ((L.fns.zip fn).map fun p => fnA K (p.1.ad K))[i]? = (fn.map He.DefD.val)[i]? := by rw [e]
  rw [List.getElem?_map, List.getElem?_map, hd, hz] at e2
  exact funA (Option.some.inj e2) (List.all_eq_true.mp c2 _ (List.mem_of_getElem? hz))
end
end L3
/-! L3: from the layout's checks to every def, and to the law. -/
namespace L3
open PySem PySem.Spec PyProof.Rows L2

section
variable {L : Lay} {fn : List He.DefD} {K : PySem.W.Frag} {F : Nat → List Vl → Hs → Out Vl} {P : Program} {w : World} {mg : Str → Option Value} {base : Heap}
theorem tb_fn {i : Nat} {d : Fn} (h : (tbOf K L).fns[i]? = some d) : ∃ f, L.fns[i]? = some f ∧ d = ⟨f.nm, f.ad K, f.ps, f.lev⟩ := by
  have h' : (L.fns.map fun f => (⟨f.nm, f.ad K, f.ps, f.lev⟩ : Fn))[i]? = some d := h
  rw [List.getElem?_map] at h'
  cases e : L.fns[i]? with
  | none => rw [e] at h'; cases h'
  | some f =>
    rw [e] at h'
    cases h'
    exact ⟨f, rfl, rfl⟩
theorem tb_fn' {i : Nat} {f : FnL} (h : L.fns[i]? = some f) : (tbOf K L).fns[i]? = some ⟨f.nm, f.ad K, f.ps, f.lev⟩ := by
  show (L.fns.map fun f => (⟨f.nm, f.ad K, f.ps, f.lev⟩ : Fn))[i]? = _
  rw [List.getElem?_map, h]
  rfl
theorem tb_cl {c : Nat} {d : Cl} (h : (tbOf K L).cls[c]? = some d) : ∃ z, L.cls[c]? = some z ∧ d = ⟨z.nm, He.ga K z.nm, z.fl, z.ini, z.mt, z.pr, z.eq⟩ := by
  have h' : (L.cls.map fun c => (⟨c.nm, He.ga K c.nm, c.fl, c.ini, c.mt, c.pr, c.eq⟩ : Cl))[c]? = some d := h
  rw [List.getElem?_map] at h'
  cases e : L.cls[c]? with
  | none => rw [e] at h'; cases h'
  | some z =>
    rw [e] at h'
    cases h'
    exact ⟨z, rfl, rfl⟩
theorem fa_free {x : Str} (h : x ∈ L.free) : He.Fa.free x ∈ L.fa := by
  unfold Lay.fa
  simp only [List.mem_append]
  exact .inl (.inl (.inl (.inl (.inl (.inl (.inl (List.mem_map.mpr ⟨x, h, rfl⟩)))))))
theorem fa_glo {p : Str × D} (h : p ∈ L.glo) : gloFa p ∈ L.fa := by
  unfold Lay.fa
  simp only [List.mem_append]
  exact .inl (.inl (.inl (.inl (.inl (.inl (.inr (List.mem_map.mpr ⟨p, h, rfl⟩)))))))
theorem fa_fn {f : FnL} (h : f ∈ L.fns) (e : f.at_.2 = none) : He.Fa.glo f.at_.1 ∈ L.fa := by
  unfold Lay.fa
  simp only [List.mem_append]
  exact .inl (.inl (.inl (.inl (.inl (.inr (List.mem_filterMap.mpr ⟨f, h, by rw [e]⟩))))))
theorem fa_cg {c : ClL} (h : c ∈ L.cls) : He.Fa.glo c.nm ∈ L.fa := by
  unfold Lay.fa
  simp only [List.mem_append]
  exact .inl (.inl (.inl (.inl (.inr (List.mem_map.mpr ⟨c, h, rfl⟩)))))
theorem fa_cc {c : ClL} (h : c ∈ L.cls) : He.Fa.cls c.nm ∈ L.fa := by
  unfold Lay.fa
  simp only [List.mem_append]
  exact .inl (.inl (.inl (.inr (List.mem_map.mpr ⟨c, h, rfl⟩))))
theorem fa_cm {c : ClL} (h : c ∈ L.cls) : He.Fa.mkr c.nm ∈ L.fa := by
  unfold Lay.fa
  simp only [List.mem_append]
  exact .inl (.inl (.inr (List.mem_map.mpr ⟨c, h, rfl⟩)))
theorem fa_cn {c : ClL} {x : Str} (h : c ∈ L.cls) (hx : x ∈ c.fl) : He.Fa.noat c.nm x ∈ L.fa := by
  unfold Lay.fa
  simp only [List.mem_append]
  exact .inl (.inr (List.mem_flatMap.mpr ⟨c, h, List.mem_map.mpr ⟨x, hx, rfl⟩⟩))
theorem fa_me {c : ClL} {p : Str × Nat} (h : c ∈ L.cls) (hp : p ∈ c.mt) : He.Fa.meth c.nm p.1 ∈ L.fa := by
  unfold Lay.fa
  simp only [List.mem_append]
  exact .inr (List.mem_flatMap.mpr ⟨c, h, List.mem_map.mpr ⟨p, hp, rfl⟩⟩)
theorem clF_of (c0 : obs3 L fn K = He.valD fn) (ok : L.ok = true) (X : K.In base) (G : base.Ns mainGlobals mg) {z : ClL} (hz : z ∈ L.cls) : ClF (tbOf K L) K mg ⟨z.nm, He.ga K z.nm, z.fl, z.ini, z.mt, z.pr, z.eq⟩ := by
  have ex := (and2 (and2 (says_ex c0)).1).2
  have e := List.all_eq_true.mp ex z hz
  unfold clB at e
  obtain ⟨e1, e⟩ := and2 e
  obtain ⟨e2, e⟩ := and2 e
  obtain ⟨e3, e⟩ := and2 e
  obtain ⟨e4, e⟩ := and2 e
  obtain ⟨e5, e⟩ := and2 e
  obtain ⟨e6, e⟩ := and2 e
  obtain ⟨e7, e⟩ := and2 e
  obtain ⟨e8, e⟩ := and2 e
  obtain ⟨e9, e10⟩ := and2 e
  have o := List.all_eq_true.mp (and2 ok).2 z hz
  obtain ⟨o1, o⟩ := and2 o
  obtain ⟨o2, o⟩ := and2 o
  obtain ⟨o3, o4⟩ := and2 o
  refine ⟨He.cls_ok (says_fa c0 (fa_cc hz)), fun x hx => He.noat_ok (says_fa c0 (fa_cn hz hx)), of_decide_eq_true o1, of_decide_eq_true o2, He.glo_ok X G (says_fa c0 (fa_cg hz)), ?_, of_decide_eq_true e1, of_decide_eq_true e2, of_decide_eq_true e3, of_decide_eq_true e4, of_decide_eq_true e5, fun n hn => of_decide_eq_true (List.all_eq_true.mp e6 n hn), fun n hn => of_decide_eq_true (List.all_eq_true.mp e7 n hn), fun n hn => of_decide_eq_true (List.all_eq_true.mp e8 n hn), fun p hp => ?_, fun p hp => ?_, fun i hi => ?_⟩
  · split at o3
    · rename_i f hf
      obtain ⟨o31, o32⟩ := and2 o3
      have ea : f.at_ = (z.nm, some ("__init__" : Str)) := of_decide_eq_true o32
      refine ⟨_, tb_fn' hf, ?_⟩
      have m := He.mkr_ok (says_fa c0 (fa_cm hz))
      show L2.Mk K (He.ga K z.nm) (f.ad K)
      rw [FnL.ad_m o31 ea]
      exact m
    · cases o3
  · have q := List.all_eq_true.mp o4 p hp
    obtain ⟨q1, q2⟩ := and2 q
    refine ⟨of_decide_eq_true q1, ?_⟩
    split at q2
    · rename_i f hf
      obtain ⟨q21, q22⟩ := and2 q2
      have ea : f.at_ = (z.nm, some p.1) := of_decide_eq_true q22
      refine ⟨_, tb_fn' hf, ?_⟩
      have m := He.meth_ok (says_fa c0 (fa_me hz hp))
      show Meth K (He.ga K z.nm) p.1 (f.ad K)
      rw [FnL.ad_m q21 ea]
      exact m
    · cases q2
  · have q := List.all_eq_true.mp e10 p hp
    unfold prO at q
    split at q
    · rename_i f hf
      obtain ⟨q1, q⟩ := and2 q
      obtain ⟨q2, q⟩ := and2 q
      obtain ⟨q3, q⟩ := and2 q
      obtain ⟨q4, q⟩ := and2 q
      obtain ⟨q5, q6⟩ := and2 q
      refine ⟨_, _, tb_fn' hf, ⟨of_decide_eq_true q3, of_decide_eq_true q4, of_decide_eq_true q5, ?_⟩⟩
      show ∃ rest, PySem.W.recIn K (He.ma K (He.ga K z.nm) p.1) "property" = some (.ref (f.ad K) :: rest)
      rw [FnL.ad_p q1 (of_decide_eq_true q2)]
      unfold pAd
      split at q6
      · rename_i g rest hg
        rw [hg]
        exact ⟨rest, rfl⟩
      · cases q6
    · cases q
  · unfold eqOB at e9
    have hi' : z.eq = some i := hi
    rw [hi'] at e9
    dsimp only at e9
    split at e9
    · rename_i f hf
      obtain ⟨q01, q2⟩ := and2 e9
      obtain ⟨q0, q1⟩ := and2 q01
      obtain ⟨q2, q3⟩ := and2 q2
      exact ⟨_, tb_fn' hf, of_decide_eq_true q1, q2, of_decide_eq_true q3⟩
    · cases e9
theorem zip_at {α : Type} : ∀ {xs : List α} {i n : Nat} {x : α}, xs[i]? = some x → (x, n + i) ∈ xs.zipIdx n
  | [], _, _, _, h => by simp at h
  | y :: r, 0, n, x, h => by
    simp at h
    subst h
    simp [List.zipIdx]
  | y :: r, i + 1, n, x, h => by
    have := zip_at (n := n + 1) (i := i) (xs := r) (by simpa using h)
    rw [List.zipIdx_cons]
    refine List.mem_cons_of_mem _ ?_
    have e : n + (i + 1) = n + 1 + i := by omega
    rw [e]
    exact this
/-- what is asked of the functions -/
def RunsAll (F : Nat → List Vl → Hs → Out Vl) (L : Lay) : Prop := ∀ (i : Nat) (f : FnL), L.fns[i]? = some f → RunsAs F f.N.length f.b i f.ps.length
theorem facts_at (c0 : obs3 L fn K = He.valD fn) (ok : L.ok = true) (X : K.In base) (G : base.Ns mainGlobals mg) (hl : L.fns.length = fn.length) (hc : (L.fns.zip fn).all (chk (tbOf K L)) = true) (hr : RunsAll F L) : ∀ k, Facts (tbOf K L) F P w K mg base k := by
  have defs : ∀ (i : Nat) (f : FnL), L.fns[i]? = some f → ∃ d fd, fn[i]? = some d ∧ d.at_ = f.at_ ∧ FunD K d.name d.qual d.params d.body d.scope [] [] (f.ad K) fd ∧ chk (tbOf K L) (f, d) = true := by
    intro i f hf
    have hi : i < fn.length := by
      rw [← hl]
      exact (List.getElem?_eq_some_iff.mp hf).1
    have hd : fn[i]? = some fn[i] := List.getElem?_eq_getElem hi
    obtain ⟨fd, h⟩ := says_def c0 hf hd
    have hz : (f, fn[i]) ∈ L.fns.zip fn := List.mem_of_getElem? (i := i) (by rw [List.getElem?_zip_eq_some]; exact ⟨hf, hd⟩)
    have hcz := List.all_eq_true.mp hc _ hz
    have ha := (and2 hcz).1
    exact ⟨fn[i], fd, hd, of_decide_eq_true ha, h, hcz⟩
  intro k
  induction k with
  | zero =>
    refine ⟨fun i d hd hle => ?_, fun i d hd hne => ?_, fun x hx => He.free_ok X G (says_fa c0 (fa_free hx)), fun p hp => ?_, fun c d hd => ?_, fun c d c' d' hd hd' => ?_, (and2 (and2 (says_ex c0)).1).1, fun c d c' d' hd hd' => ?_⟩
    · obtain ⟨f, hf, rfl⟩ := tb_fn hd
      obtain ⟨d, fd, h1, h2, h3, h4⟩ := defs i f hf
      unfold chk at h4
      have h1' : 1 ≤ f.lev := of_decide_eq_true (and2 (and2 (and2 (and2 h4).2).2).2).1
      have hle' : f.lev ≤ 0 := hle
      omega
    · obtain ⟨f, hf, rfl⟩ := tb_fn hd
      obtain ⟨d, fd, h1, h2, h3, h4⟩ := defs i f hf
      have e2 : f.at_.2 = none := by
        have hne' : f.nm ≠ Str.empty := hne
        unfold FnL.nm at hne'
        cases q : f.at_.2 with
        | none => rfl
        | some m =>
          rw [q] at hne'
          exact absurd rfl hne'
      have e1 : f.nm = f.at_.1 := by unfold FnL.nm; rw [e2]
      refine ⟨?_, h3.kp⟩
      show mg f.nm = some (.ref (f.ad K))
      rw [e1, FnL.ad_g e2]
      exact He.glo_ok X G (says_fa c0 (fa_fn (List.mem_of_getElem? hf) e2))
    · have q := says_fa c0 (fa_glo hp)
      obtain ⟨x, v⟩ := p
      cases v with
      | int i =>
        obtain ⟨t, e⟩ := He.int_ok X G (x := x) (i := i) q
        exact ⟨_, e, t, rfl⟩
      | str z =>
        obtain ⟨t, e⟩ := He.str_ok X G (x := x) (z := z) q
        exact ⟨_, e, t, rfl⟩
      | _ =>
        have z := List.all_eq_true.mp (and2 ok).1 _ hp
        cases z
    · obtain ⟨z, hz, rfl⟩ := tb_cl hd
      exact clF_of c0 ok X G (List.mem_of_getElem? hz)
    · obtain ⟨z, hz, rfl⟩ := tb_cl hd
      obtain ⟨z', hz', rfl⟩ := tb_cl hd'
      have q := List.all_eq_true.mp (List.all_eq_true.mp (and2 (says_ex c0)).2 _ (zip_at (n := 0) hz)) _ (zip_at (n := 0) hz')
      unfold prB at q
      have q1 := of_decide_eq_true (and2 q).1
      simp only [Nat.zero_add] at q1
      exact q1
    · obtain ⟨z, hz, rfl⟩ := tb_cl hd
      obtain ⟨z', hz', rfl⟩ := tb_cl hd'
      have q := List.all_eq_true.mp (List.all_eq_true.mp (and2 (says_ex c0)).2 _ (zip_at (n := 0) hz)) _ (zip_at (n := 0) hz')
      exact (and2 q).2
  | succ k ih =>
    refine ⟨fun i d hd hle => ?_, ih.fnG, ih.free, ih.glo, ih.cls, ih.kC, ih.sm, ih.nfC⟩
    by_cases hk : d.lev ≤ k
    · exact ih.fn i d hd hk
    · have hlev : d.lev = k + 1 := by omega
      obtain ⟨f, hf, rfl⟩ := tb_fn hd
      obtain ⟨d, fd, h1, h2, h3, h4⟩ := defs i f hf
      unfold chk at h4
      obtain ⟨c1, h4⟩ := and2 h4
      obtain ⟨c2, h4⟩ := and2 h4
      obtain ⟨c3, h4⟩ := and2 h4
      obtain ⟨c4, h4⟩ := and2 h4
      obtain ⟨c5, h4⟩ := and2 h4
      obtain ⟨c6, c7⟩ := and2 h4
      have hlev' : f.lev = k + 1 := hlev
      obtain ⟨oc, od, dV, kV, doc, pm, an, cdv, ct, osl, rfl, lk, hcd, hD, hK⟩ := h3.ex
      rcases hD with ⟨_, rfl⟩ | ⟨q, _⟩
      · refine ⟨PySem.W.fnOf d.name d.qual d.params d.body d.scope .none kV doc pm an cdv ct, ?_, Binds.all fun us hus => ?_⟩
        · have hm : mSs (tbOf K L) f.N k f.b d.scope d.body = true := by
            rw [hlev'] at c7
            exact c7
          have := fn_ok (P := P) (w := w) (mg := mg) (base := base) (i := i) ih lk hcd (scopeB_ok c3) hm (hr i f hf)
          show FnG P w K mg base (L2.CX P w) f.lev (f.ad K) _ f.ps _
          rw [hlev']
          exact this
        · unfold plainA at c2
          split at c2
          · rename_i as heq
            obtain ⟨p1, p2⟩ := and2 c2
            rw [heq]
            exact bind_plain (of_decide_eq_true p1) (of_decide_eq_true p2) hus
          · cases c2
      · exact absurd rfl q
end
/-! ### the law -/
section
variable {L : Lay} {fn : List He.DefD} {F : Nat → List Vl → Hs → Out Vl} {P : Program} {w : World}
theorem script_sp {K : PySem.W.Frag} {il n : Nat} (hlaw : ∀ ns : List Int, ns.length ≤ n → ∃ h', F il [.d (.ro ns)] [] = .ok (.d (.bl true)) h') (H : Hp) (a : Addr) (ns : List Int) (hl : ns.length ≤ n) (hS : SqL K H a (ns.map V.int)) :
    spOf K (tbOf K L) 1 (F il) [.ref a] H (fun v _ => v = .bl true) fun _ _ _ => False := by
  obtain ⟨h', e⟩ := hlaw ns hl
  have S : Sim K ((tbOf K L).cn fun _ => False) [] [] H := ⟨rfl, fun i j p c d e1 => by simp at e1, fun n c p e1 => by simp at e1, fun n c p e1 => by simp at e1, fun p z => z.elim⟩
  have na : ¬ AV ((tbOf K L).cn fun _ => False) [] [] a := fun z => by
    rcases z with ⟨i, c, e1, _⟩ | z
    · simp at e1
    · exact z
  refine ⟨fun _ => False, [], [], [.d (.ro ns)], rfl, S, .cons (.ro (hS.elim (fun z => .inl ⟨na, z⟩) .inr)) .nil, ?_⟩
  rw [e]
  intro u H1 ρ1 x1 S1 r
  exact repV_bl r
theorem law_walk {l : PySem.W.OpenLaw} {q : Program} {loose : List Str} {XP : (Str → Option Value) → Heap → Prop} {d : DefRec} {il n : Nat} {f : FnL} {x : Str} (hf : L.fns[il]? = some f) (hat : f.at_ = (d.name, none)) (hps : f.ps = [x])
    (hn : l.most = some n) (hn2 : n ≤ sizeLine) (hdf : d.params.defaults = []) (room : Room f.lev callerA) (ok : L.ok = true) (hl : L.fns.length = fn.length) (hc : ∀ K, (L.fns.zip fn).all (chk (tbOf K L)) = true) (hr : RunsAll F L)
    (hlaw : ∀ ns : List Int, ns.length ≤ n → ∃ h', F il [.d (.ro ns)] [] = .ok (.d (.bl true)) h') :
    PySem.W.WalkO q loose XP (hook3 L fn).says l.row.toRowW d [] (fun g vs => PySem.call g vs) := by
  refine Att.attach_call hn hdf fun wd s0 s1 mg mb fa ob pm cdo dc aa us ns G Y h1 h2 h3 hmg h4 h5 h6 h7 => ?_
  obtain ⟨K, KX, c0⟩ := Y
  have hi : il < fn.length := by
    rw [← hl]
    exact (List.getElem?_eq_some_iff.mp hf).1
  have hd : fn[il]? = some fn[il] := List.getElem?_eq_getElem hi
  obtain ⟨fd, FD⟩ := says_def c0 hf hd
  have hz : (f, fn[il]) ∈ L.fns.zip fn := List.mem_of_getElem? (i := il) (by rw [List.getElem?_zip_eq_some]; exact ⟨hf, hd⟩)
  have ck := List.all_eq_true.mp (hc K) _ hz
  unfold chk at ck
  obtain ⟨c1, ck⟩ := and2 ck
  obtain ⟨c2, ck⟩ := and2 ck
  obtain ⟨c3, ck⟩ := and2 ck
  obtain ⟨c4, ck⟩ := and2 ck
  obtain ⟨c5, ck⟩ := and2 ck
  obtain ⟨c6, c7⟩ := and2 ck
  have hlev : 1 ≤ f.lev := of_decide_eq_true c4
  have eat : fn[il].at_ = (d.name, none) := (of_decide_eq_true c1).trans hat
  -- where the law stands
  have hga : f.ad K = He.ga K d.name := by
    rw [FnL.ad_g (by rw [hat]), hat]
  have hfa : fa = He.ga K d.name := by
    have hin : He.Fa.glo d.name ∈ L.fa := by
      have := fa_fn (L := L) (List.mem_of_getElem? hf) (by rw [hat])
      rw [hat] at this
      exact this
    have g := He.glo_ok KX G.T.g (says_fa c0 hin)
    rw [hmg] at g
    cases g
    rfl
  obtain ⟨oc, od, dV, kV, doc, pm', an, cdv, ct, osl, rfl, lk, hcd, hD, hK⟩ := FD.ex
  rcases hD with ⟨_, rfl⟩ | ⟨z, _⟩
  · have hb : ∀ us : List Value, us.length = f.ps.length → bindArgs (PySem.W.fnOf fn[il].name fn[il].qual fn[il].params fn[il].body fn[il].scope .none kV doc pm' an cdv ct) ⟨us, []⟩ = pure (f.ps.zip us) := by
      intro us hus
      unfold plainA at c2
      split at c2
      · rename_i as heq
        obtain ⟨p1, p2⟩ := and2 c2
        rw [heq]
        exact bind_plain (of_decide_eq_true p1) (of_decide_eq_true p2) hus
      · cases c2
    refine law_callG (K := K) (k := f.lev) (cx := L2.CX l.prog wd) (sp := spOf K (tbOf K L) 1 (F il)) (fd := PySem.W.fnOf fn[il].name fn[il].qual fn[il].params fn[il].body fn[il].scope .none kV doc pm' an cdv ct) (x := x) KX G.T.g G.T.b G.T.builtins G.T.nolimit h7 h4 h5 (Nat.le_trans h6 hn2) room (fun bs hK hG => ?_) (fun s u => ?_) (fun H _ hS => script_sp hlaw H aa ns h6 hS) ?_
    · have fac := facts_at (P := l.prog) (w := wd) c0 ok hK hG hl (hc K) hr (f.lev - 1)
      have hm : mSs (tbOf K L) f.N (f.lev - 1) f.b fn[il].scope fn[il].body = true := c7
      have r := fn_ok (P := l.prog) (w := wd) (i := il) fac lk hcd (scopeB_ok c3) hm (hr il f hf)
      rw [Nat.sub_add_cancel hlev, hps] at r
      rw [hfa, ← hga]
      exact r
    · have z := hb [u] (by rw [hps]; rfl)
      rw [hps] at z
      exact .of_eq z
    · rintro H e s' ⟨_, _, _, _, _, _, _, _, _, _, _, _, z⟩
      exact z
  · exact absurd rfl z
end
end L3
/-! L3: the functions are what the bodies say: a least fixed point. -/
namespace L3
open PySem

abbrev Fun := Nat → List Vl → Hs → Out Vl
def Le {α : Type} (a b : Out α) : Prop := a = .bad ∨ a = b
theorem Le.refl {α : Type} (a : Out α) : Le a a := .inr rfl
theorem Le.bind {α β : Type} {a b : Out α} {f g : α → Hs → Out β} (h : Le a b) (k : ∀ x h, Le (f x h) (g x h)) : Le (a.bind f) (b.bind g) := by
  rcases h with rfl | rfl
  · exact .inl rfl
  · cases a with
    | ok x h => exact k x h
    | ex x h => exact .inr rfl
    | bad => exact .inl rfl
theorem Le.noEx {α : Type} {a b : Out α} (h : Le a b) : Le (noEx a) (noEx b) := by
  rcases h with rfl | rfl
  · exact .inl rfl
  · exact .inr rfl
theorem Le.done {n : Nat} {a b : Out Vl} (h : Le a b) : Le (done n a) (done n b) := by
  rcases h with rfl | rfl
  · exact .inl rfl
  · exact .inr rfl
theorem Le.asB {v : Vl} {h : Hs} {f g : Bool → Hs → Out Vl} (k : ∀ c h, Le (f c h) (g c h)) : Le (asB v h f) (asB v h g) := by
  unfold L3.asB
  split
  · exact k _ _
  · exact .inl rfl
theorem Le.compL {f g : List Vl → Hs → Out (Option Vl)} (k : ∀ r h, Le (f r h) (g r h)) : ∀ rows h, Le (compL f rows h) (compL g rows h)
  | [], h => .refl _
  | r :: rs, h => by
    rw [L3.compL, L3.compL]
    exact (k r h).bind fun o h1 => (Le.compL k rs h1).bind fun vs h2 => .refl _
theorem Le.forL {f g : List Vl → Env → Hs → Out Fl} (k : ∀ r e h, Le (f r e h) (g r e h)) : ∀ rows e h, Le (forL f rows e h) (forL g rows e h)
  | [], e, h => .refl _
  | r :: rs, e, h => by
    rw [L3.forL, L3.forL]
    refine (k r e h).bind fun fl h1 => ?_
    cases fl with
    | nx e1 => exact Le.forL k rs e1 h1
    | ct e1 => exact Le.forL k rs e1 h1
    | bk e1 => exact .refl _
    | rt v => exact .refl _
theorem Le.whileL {f g : Env → Hs → Out (Option Fl)} (k : ∀ e h, Le (f e h) (g e h)) : ∀ n e h, Le (whileL f n e h) (whileL g n e h)
  | 0, e, h => .refl _
  | n + 1, e, h => by
    rw [L3.whileL, L3.whileL]
    refine (k e h).bind fun fl h1 => ?_
    cases fl with
    | none => exact .refl _
    | some fl =>
      cases fl with
      | nx e1 => exact Le.whileL k n e1 h1
      | ct e1 => exact Le.whileL k n e1 h1
      | bk e1 => exact .refl _
      | rt v => exact .refl _
section
variable {F G : Fun} (hFG : ∀ i as h, Le (F i as h) (G i as h))
include hFG
mutual
theorem ev_le : ∀ (x : Ex) (e : Env) (h : Hs), Le (ev F x e h) (ev G x e h)
  | .var i, e, h => by rw [ev, ev]; exact .refl _
  | .cst x, e, h => by rw [ev, ev]; exact .refl _
  | .glb _ x, e, h => by rw [ev, ev]; exact .refl _
  | .prim p as, e, h => by rw [ev, ev]; exact (evs_le as e h).bind fun _ _ => .refl _
  | .mk m p as, e, h => by rw [ev, ev]; exact (evs_le as e h).bind fun _ _ => .refl _
  | .and a b, e, h => by
    rw [ev, ev]
    refine (ev_le a e h).bind fun v h1 => .asB fun c h1 => ?_
    split
    · exact ev_le b e h1
    · exact .refl _
  | .or a b, e, h => by
    rw [ev, ev]
    refine (ev_le a e h).bind fun v h1 => .asB fun c h1 => ?_
    split
    · exact .refl _
    · exact ev_le b e h1
  | .not a, e, h => by rw [ev, ev]; exact (ev_le a e h).bind fun _ _ => .refl _
  | .ite c a b, e, h => by
    rw [ev, ev]
    refine (ev_le c e h).bind fun v h1 => .asB fun c h1 => ?_
    split
    · exact ev_le a e h1
    · exact ev_le b e h1
  | .chain p q a b c, e, h => by
    rw [ev, ev]
    refine (ev_le a e h).bind fun x h1 => (ev_le b e h1).bind fun y h2 => (Le.refl _).bind fun v h3 => .asB fun k h3 => ?_
    split
    · exact (ev_le c e h3).bind fun _ _ => .refl _
    · exact .refl _
  | .call f as, e, h => by rw [ev, ev]; exact (evs_le as e h).bind fun _ _ => hFG _ _ _
  | .meth c _ f o as, e, h => by
    rw [ev, ev]
    refine (ev_le o e h).bind fun v h1 => ?_
    split
    · exact (evs_le as e h1).bind fun _ _ => hFG _ _ _
    · exact .refl _
  | .attr c i _ o, e, h => by rw [ev, ev]; exact (ev_le o e h).bind fun _ _ => .refl _
  | .pro c _ f o, e, h => by
    rw [ev, ev]
    refine (ev_le o e h).bind fun v h1 => ?_
    split
    · exact Le.noEx (hFG _ _ _)
    · exact .refl _
  | .new m c f as, e, h => by
    rw [ev, ev]
    exact (evs_le as e h).bind fun vs h1 => (hFG _ _ _).bind fun _ _ => .refl _
  | .eqO c f n a b, e, h => by
    rw [ev, ev]
    refine (ev_le a e h).bind fun v h1 => (ev_le b e h1).bind fun u h2 => ?_
    split
    · exact (hFG _ _ _).bind fun _ _ => .refl _
    · exact .refl _
  | .comp m x t k its cs, e, h => by
    rw [ev, ev]
    refine (evs_le its e h).bind fun vs h1 => ?_
    split
    · refine (Le.noEx (Le.compL (fun row h => ?_) _ _)).bind fun _ _ => .refl _
      split
      · refine (tests_le cs _ _).bind fun b h1 => ?_
        split
        · exact (ev_le x _ _).bind fun _ _ => .refl _
        · exact .refl _
      · exact .refl _
    · exact .refl _
  | .star k bs as, e, h => by rw [ev, ev]; exact (Le.noEx (evs_le as e h)).bind fun _ _ => .refl _
  | .popc o as, e, h => by
    rw [ev, ev]
    refine (ev_le o e h).bind fun v h1 => ?_
    split
    · exact (evs_le as e h1).bind fun _ _ => .refl _
    · exact .refl _
  | .dcomp m kx vx t k its cs, e, h => by
    rw [ev, ev]
    refine (evs_le its e h).bind fun vs h1 => ?_
    split
    · refine (Le.noEx (Le.compL (fun row h => ?_) _ _)).bind fun _ _ => .refl _
      split
      · refine (tests_le cs _ _).bind fun b h1 => ?_
        split
        · exact (ev_le kx _ _).bind fun _ _ => (ev_le vx _ _).bind fun _ _ => .refl _
        · exact .refl _
      · exact .refl _
    · exact .refl _
  | .dict m ks vs, e, h => by
    rw [ev, ev]
    exact (Le.noEx (evs_le ks e h)).bind fun as h1 => (Le.noEx (evs_le vs e h1)).bind fun bs h2 => .refl _
  | .dictP m x, e, h => by rw [ev, ev]; exact (ev_le x e h).bind fun _ _ => .refl _
  | .frz x, e, h => by rw [ev, ev]; exact (ev_le x e h).bind fun _ _ => .refl _
  | .wall, e, h => by rw [ev, ev]; exact .refl _
theorem evs_le : ∀ (xs : List Ex) (e : Env) (h : Hs), Le (evs F xs e h) (evs G xs e h)
  | [], e, h => by rw [evs, evs]; exact .refl _
  | x :: r, e, h => by rw [evs, evs]; exact (ev_le x e h).bind fun v h1 => (evs_le r e h1).bind fun vs h2 => .refl _
theorem tests_le : ∀ (xs : List Ex) (e : Env) (h : Hs), Le (tests F xs e h) (tests G xs e h)
  | [], e, h => by rw [tests, tests]; exact .refl _
  | x :: r, e, h => by
    rw [tests, tests]
    refine (ev_le x e h).bind fun v h1 => ?_
    split
    · split
      · exact tests_le r e h1
      · exact .refl _
    · exact .refl _
end
mutual
theorem exec_le : ∀ (s : Sm) (e : Env) (h : Hs), Le (exec F s e h) (exec G s e h)
  | .asg t x, e, h => by rw [exec, exec]; exact (ev_le hFG x e h).bind fun _ _ => .refl _
  | .sub o i x, e, h => by rw [exec, exec]; exact (ev_le hFG x e h).bind fun _ h1 => (ev_le hFG o e h1).bind fun _ h2 => (ev_le hFG i e h2).bind fun _ _ => .refl _
  | .fld c i _ o x, e, h => by rw [exec, exec]; exact (ev_le hFG x e h).bind fun _ h1 => (ev_le hFG o e h1).bind fun _ h2 => .refl _
  | .app o x, e, h => by
    rw [exec, exec]
    refine (ev_le hFG o e h).bind fun a h1 => ?_
    split
    · exact (ev_le hFG x e h1).bind fun _ _ => .refl _
    · exact .refl _
  | .ext o x, e, h => by
    rw [exec, exec]
    refine (ev_le hFG o e h).bind fun a h1 => ?_
    split
    · exact (ev_le hFG x e h1).bind fun _ _ => .refl _
    · exact .refl _
  | .clr o, e, h => by rw [exec, exec]; exact (ev_le hFG o e h).bind fun _ _ => .refl _
  | .expr x, e, h => by rw [exec, exec]; exact (ev_le hFG x e h).bind fun _ _ => .refl _
  | .ret x, e, h => by rw [exec, exec]; exact (ev_le hFG x e h).bind fun _ _ => .refl _
  | .retN, e, h => by rw [exec, exec]; exact .refl _
  | .ite c a b, e, h => by
    rw [exec, exec]
    refine (ev_le hFG c e h).bind fun v h1 => ?_
    split
    · split
      · exact execs_le a e h1
      · exact execs_le b e h1
    · exact .refl _
  | .for_ t k its b, e, h => by
    rw [exec, exec]
    refine (evs_le hFG its e h).bind fun vs h1 => ?_
    split
    · refine Le.forL (fun row e h => ?_) _ _ _
      split
      · exact execs_le b _ _
      · exact .refl _
    · exact .refl _
  | .while_ c b, e, h => by
    rw [exec, exec]
    refine Le.whileL (fun e h => (ev_le hFG c e h).bind fun v h1 => ?_) _ _ _
    split
    · split
      · exact (execs_le b e h1).bind fun _ _ => .refl _
      · exact .refl _
    · exact .refl _
  | .raise c as, e, h => by rw [exec, exec]; exact (evs_le hFG as e h).bind fun _ _ => .refl _
  | .tryAs b cs i j, e, h => by
    rw [exec, exec]
    rcases execs_le b e h with q | q
    · rw [q]; exact .inl rfl
    · rw [q]; exact .refl _
  | .pass, e, h => by rw [exec, exec]; exact .refl _
  | .brk, e, h => by rw [exec, exec]; exact .refl _
  | .cont, e, h => by rw [exec, exec]; exact .refl _
  | .frzv i, e, h => by rw [exec, exec]; exact .refl _
  | .par is es, e, h => by rw [exec, exec]; exact (evs_le hFG es e h).bind fun _ _ => .refl _
  | .wall, e, h => by rw [exec, exec]; exact .refl _
theorem execs_le : ∀ (ss : List Sm) (e : Env) (h : Hs), Le (execs F ss e h) (execs G ss e h)
  | [], e, h => by rw [execs, execs]; exact .refl _
  | s :: r, e, h => by
    rw [execs, execs]
    refine (exec_le s e h).bind fun fl h1 => ?_
    cases fl with
    | nx e1 => exact execs_le r e1 h1
    | _ => exact .refl _
end
theorem run_le (n : Nat) (b : List Sm) (as : List Vl) (h : Hs) : Le (run F n b as h) (run G n b as h) := by
  unfold run
  exact Le.done ((execs_le hFG b _ h).bind fun fl h1 => .refl _)
end
/-- one round of a layout -/
abbrev Fu := Nat → List Vl → Hs → Lean.Order.FlatOrder (Out.bad : Out Vl)
def stepL (L : Lay) (F : Fu) : Fu := fun i as h => match L.fns[i]? with
  | some f => run F f.N.length f.b as h
  | none => .bad
theorem stepL_mono (L : Lay) : Lean.Order.monotone (stepL L) := by
  intro F G hFG i as h
  have hle : ∀ i as h, Le (F i as h : Out Vl) (G i as h) := fun i as h => by
    have q : Lean.Order.FlatOrder.rel (F i as h) (G i as h) := hFG i as h
    generalize F i as h = a at q
    generalize G i as h = b at q
    cases q with
    | bot => exact .inl rfl
    | refl => exact .inr rfl
  show Lean.Order.FlatOrder.rel (stepL L F i as h) (stepL L G i as h)
  unfold stepL
  cases L.fns[i]? with
  | none => exact .refl
  | some f =>
    rcases run_le hle f.N.length f.b as h with q | q
    · show Lean.Order.FlatOrder.rel (run F f.N.length f.b as h) _
      rw [q]
      exact .bot
    · show Lean.Order.FlatOrder.rel (run F f.N.length f.b as h) (run G f.N.length f.b as h)
      rw [q]
      exact .refl
noncomputable def FU (L : Lay) : Fu := Lean.Order.fix (stepL L) (stepL_mono L)
noncomputable def FL (L : Lay) : Fun := FU L
theorem FL_eq (L : Lay) {i : Nat} {f : FnL} (e : L.fns[i]? = some f) : FL L i = run (FL L) f.N.length f.b := by
  funext as h
  have q := Lean.Order.fix_eq (stepL_mono L)
  have q2 : FL L i as h = stepL L (FL L) i as h := congrFun (congrFun (congrFun (show FU L = stepL L (FU L) from q) i) as) h
  rw [q2]
  unfold stepL
  rw [e]
theorem FL_runs (L : Lay) : RunsAll (FL L) L := by
  intro i f e as h _ _ _ _
  rw [FL_eq L e]
theorem FL_at (L : Lay) (i n : Nat) (b : List Sm) (e : (L.fns[i]?).map (fun f => (f.N.length, f.b)) = some (n, b)) : FL L i = run (FL L) n b := by
  cases q : L.fns[i]? with
  | none => rw [q] at e; cases e
  | some f =>
    rw [q] at e
    have e' : (f.N.length, f.b) = (n, b) := Option.some.inj e
    rw [FL_eq L q, (Prod.mk.inj e').1, (Prod.mk.inj e').2]
end L3
/-! L3: reasoning about outcomes. -/
namespace L3
open PySem

def Wp {α : Type} (o : Out α) (Q : α → Hs → Prop) (E : D → Hs → Prop) : Prop := match o with
  | .ok a h => Q a h
  | .ex x h => E x h
  | .bad => False
section
variable {α β : Type} {Q : α → Hs → Prop} {E : D → Hs → Prop}
@[simp] theorem wp_ok {a : α} {h : Hs} : Wp (.ok a h) Q E = Q a h := rfl
@[simp] theorem wp_ex {x : D} {h : Hs} : Wp (.ex x h) Q E = E x h := rfl
@[simp] theorem wp_bad : Wp .bad Q E = False := rfl
@[simp] theorem wp_bind {o : Out β} {f : β → Hs → Out α} : Wp (o.bind f) Q E = Wp o (fun a h => Wp (f a h) Q E) E := by
  cases o <;> rfl
theorem Wp.imp {o : Out α} {Q' : α → Hs → Prop} {E' : D → Hs → Prop} (w : Wp o Q E) (k : ∀ a h, Q a h → Q' a h) (k' : ∀ x h, E x h → E' x h) : Wp o Q' E' := by
  cases o with
  | ok a h => exact k _ _ w
  | ex x h => exact k' _ _ w
  | bad => exact w
theorem Wp.mono {o : Out α} {Q' : α → Hs → Prop} (w : Wp o Q E) (k : ∀ a h, Q a h → Q' a h) : Wp o Q' E := w.imp k fun _ _ h => h
theorem wp_eq {o : Out α} {a : α} {h : Hs} (e : o = .ok a h) (q : Q a h) : Wp o Q E := by
  rw [e]
  exact q
theorem wp_noEx {o : Out α} : Wp (noEx o) Q E = Wp o Q (fun _ _ => False) := by
  cases o <;> rfl
end
abbrev NoX : D → Hs → Prop := fun _ _ => False
theorem eq_of_wp {α : Type} {o : Out α} {a : α} {h : Hs} (w : Wp o (fun b k => b = a ∧ k = h) NoX) : o = .ok a h := by
  cases o with
  | ok b k =>
    obtain ⟨rfl, rfl⟩ := w
    rfl
  | ex x h => exact w.elim
  | bad => exact w.elim
theorem wp_of_eq {α : Type} {o : Out α} {a : α} {h : Hs} {Q : α → Hs → Prop} {E : D → Hs → Prop} (e : o = .ok a h) : Wp o Q E = Q a h := by
  rw [e]
  rfl
/-! ### loops -/
section
variable {α : Type} {E : D → Hs → Prop}
/-- a comprehension: J pre acc -/
theorem comp_wp {f : List Vl → Hs → Out (Option Vl)} {r : α → List Vl} {Q : List Vl → Hs → Prop} (J : List α → List Vl → Hs → Prop) (xs : List α) {h : Hs} (j : J [] [] h) (hf : ∀ pre x post acc h, xs = pre ++ x :: post → J pre acc h → Wp (f (r x) h) (fun o h' => J (pre ++ [x]) (acc ++ o.toList) h') E) (k : ∀ vs h', J xs vs h' → Q vs h') : Wp (compL f (xs.map r) h) Q E := by
  have key : ∀ (post pre : List α) (acc : List Vl) (h : Hs) (Q : List Vl → Hs → Prop), xs = pre ++ post → J pre acc h → (∀ vs h', J xs (acc ++ vs) h' → Q vs h') → Wp (compL f (post.map r) h) Q E := by
    intro post
    induction post with
    | nil =>
      intro pre acc h Q hx j k
      rw [List.append_nil] at hx
      subst hx
      rw [List.map_nil, compL]
      exact k [] h (by rw [List.append_nil]; exact j)
    | cons x post ih =>
      intro pre acc h Q hx j k
      rw [List.map_cons, compL, wp_bind]
      refine (hf pre x post acc h hx j).mono fun o h1 j1 => ?_
      rw [wp_bind]
      refine ih (pre ++ [x]) _ h1 _ (by rw [hx]; simp) j1 fun vs h2 j2 => ?_
      rw [wp_ok]
      refine k _ _ ?_
      cases o with
      | none => simpa using j2
      | some v => simpa using j2
  exact key xs [] [] h Q rfl j (by simpa using k)
/-- a loop without an end before its end: the state's ghost is s -/
theorem for_wp {σ : Type} {f : List Vl → Env → Hs → Out Fl} {r : α → List Vl} {Q : Fl → Hs → Prop} (st : σ → α → σ) (J : σ → Env → Hs → Prop) :
    ∀ (xs : List α) {s : σ} {e : Env} {h : Hs}, J s e h → (∀ s x e h, x ∈ xs → J s e h → Wp (f (r x) e h) (fun fl h' => match fl with
      | .nx e' => J (st s x) e' h'
      | .ct e' => J (st s x) e' h'
      | _ => False) E) → (∀ e' h', J (xs.foldl st s) e' h' → Q (.nx e') h') → Wp (forL f (xs.map r) e h) Q E
  | [], s, e, h, j, _, k => k e h j
  | x :: xs, s, e, h, j, hf, k => by
    rw [List.map_cons, forL, wp_bind]
    refine (hf s x e h List.mem_cons_self j).mono fun fl h1 j1 => ?_
    cases fl with
    | nx e1 => exact for_wp st J xs j1 (fun s y e h hy => hf s y e h (List.mem_cons_of_mem _ hy)) k
    | ct e1 => exact for_wp st J xs j1 (fun s y e h hy => hf s y e h (List.mem_cons_of_mem _ hy)) k
    | bk e1 => exact j1.elim
    | rt v => exact j1.elim
/-- a loop with an invariant that knows the part that is done -/
theorem for_inv {f : List Vl → Env → Hs → Out Fl} {r : α → List Vl} {Q : Fl → Hs → Prop} (J : List α → Env → Hs → Prop) (xs : List α) {e : Env} {h : Hs} (j : J [] e h) (hf : ∀ pre x post e h, xs = pre ++ x :: post → J pre e h → Wp (f (r x) e h) (fun fl h' => match fl with
      | .nx e' => J (pre ++ [x]) e' h'
      | .ct e' => J (pre ++ [x]) e' h'
      | _ => False) E) (k : ∀ e' h', J xs e' h' → Q (.nx e') h') : Wp (forL f (xs.map r) e h) Q E := by
  have key : ∀ (post pre : List α) (e : Env) (h : Hs), xs = pre ++ post → J pre e h → Wp (forL f (post.map r) e h) Q E := by
    intro post
    induction post with
    | nil =>
      intro pre e h hx j
      rw [List.append_nil] at hx
      subst hx
      exact k e h j
    | cons x post ih =>
      intro pre e h hx j
      rw [List.map_cons, forL, wp_bind]
      refine (hf pre x post e h hx j).mono fun fl h1 j1 => ?_
      cases fl with
      | nx e1 => exact ih (pre ++ [x]) e1 h1 (by rw [hx]; simp) j1
      | ct e1 => exact ih (pre ++ [x]) e1 h1 (by rw [hx]; simp) j1
      | bk e1 => exact j1.elim
      | rt v => exact j1.elim
  exact key xs [] e h rfl j
/-- a loop that may hand back: the first x with p -/
theorem for_find {f : List Vl → Env → Hs → Out Fl} {r : α → List Vl} {Q : Fl → Hs → Prop} (p : List α → α → Bool) (J : List α → Env → Hs → Prop) :
    ∀ (xs : List α) {pre : List α} {e : Env} {h : Hs}, J pre e h → (∀ pre x e h, x ∈ xs → J pre e h → Wp (f (r x) e h) (fun fl h' => match fl with
      | .nx e' => p pre x = false ∧ J (pre ++ [x]) e' h'
      | .ct e' => p pre x = false ∧ J (pre ++ [x]) e' h'
      | .rt v => p pre x = true ∧ Q (.rt v) h'
      | _ => False) E) → (∀ e' h', J (pre ++ xs) e' h' → Q (.nx e') h') → Wp (forL f (xs.map r) e h) Q E
  | [], pre, e, h, j, _, k => k e h (by rw [List.append_nil]; exact j)
  | x :: xs, pre, e, h, j, hf, k => by
    rw [List.map_cons, forL, wp_bind]
    refine (hf pre x e h List.mem_cons_self j).mono fun fl h1 j1 => ?_
    have k' : ∀ e' h', J ((pre ++ [x]) ++ xs) e' h' → Q (.nx e') h' := fun e' h' q => k e' h' (by rw [List.append_assoc] at q; exact q)
    cases fl with
    | nx e1 => exact for_find p J xs j1.2 (fun s y e h hy => hf s y e h (List.mem_cons_of_mem _ hy)) k'
    | ct e1 => exact for_find p J xs j1.2 (fun s y e h hy => hf s y e h (List.mem_cons_of_mem _ hy)) k'
    | bk e1 => exact j1.elim
    | rt v => exact j1.2
end
/-! ### ends of calls -/
def lo (n : Nat) (h : Hs) : Bool := h.all (lowC n)
theorem wp_run {F : Fun} {n : Nat} {b : List Sm} {as : List Vl} {h : Hs} {Q : Vl → Hs → Prop} {E : D → Hs → Prop} : Wp (run F n b as h) Q E = Wp (execs F b (as.map some ++ List.replicate (n - as.length) none) h) (fun fl h1 => match fl with
    | .rt v => Wp (done h.length (.ok v h1)) Q E
    | .nx _ => Wp (done h.length (.ok (.d .non) h1)) Q E
    | _ => False) (fun x h1 => lo h.length (h1.take h.length) = true ∧ E x (h1.take h.length)) := by
  unfold run
  cases execs F b (as.map some ++ List.replicate (n - as.length) none) h with
  | bad => rfl
  | ex x h1 =>
    rw [bind_ex, wp_ex]
    unfold done lo
    dsimp only
    split
    · rename_i q
      simp only [q, wp_ex, true_and]
    · rename_i q
      simp [q]
    
  | ok fl h1 =>
    rw [bind_ok, wp_ok]
    cases fl <;> rfl
theorem wp_done_d {n : Nat} {x : D} {h1 : Hs} {Q : Vl → Hs → Prop} {E : D → Hs → Prop} : Wp (done n (.ok (.d x) h1)) Q E = (lo n (h1.take n) = true ∧ Q (.d x) (h1.take n)) := by
  unfold done lo
  dsimp only
  split
  · rename_i q
    simp only [q, wp_ok, true_and]
  · rename_i q
    simp [q]
    
theorem wp_done_r {n k : Nat} {h1 : Hs} {c : Cell} {Q : Vl → Hs → Prop} {E : D → Hs → Prop} (hk : ¬ k < n) (hl : lo n (h1.take n) = true) (hc : h1[k]? = some c) (ha : c.alive = true) (hlc : lowC n c = true) : Wp (done n (.ok (.r k) h1)) Q E = Q (.r n) (h1.take n ++ [c]) := by
  unfold done
  unfold lo at hl
  simp only [if_neg hk, hl, if_true, hc, ha, hlc, Bool.and_self, wp_ok]
theorem lo_self {h : Hs} (w : wfH h = true) : lo h.length h = true := w
theorem all_set {h : Hs} {n p : Nat} {c : Cell} (w : h.all (lowC n) = true) (hc : lowC n c = true) : (h.set p c).all (lowC n) = true := by
  refine List.all_eq_true.mpr fun x hx => ?_
  rcases List.mem_or_eq_of_mem_set hx with z | z
  · exact List.all_eq_true.mp w x z
  · rw [z]; exact hc
theorem lo_set {h : Hs} {n p : Nat} {c : Cell} (w : lo n h = true) (hc : lowC n c = true) : lo n (h.set p c) = true := all_set w hc
theorem wf_set {h : Hs} {p : Nat} {c : Cell} (w : wfH h = true) (hc : lowC h.length c = true) : wfH (h.set p c) = true := by
  unfold wfH
  rw [List.length_set]
  exact all_set w hc
/-- a cell with data alone -/
def flatC : Cell → Bool
  | .dead => true
  | .dic _ => true
  | .lst xs => xs.all fun v => match v with
    | .d _ => true
    | .r _ => false
  | .ins _ xs => xs.all fun v => match v with
    | .d _ => true
    | .r _ => false
theorem flat_low {c : Cell} (n : Nat) (f : flatC c = true) : lowC n c = true := by
  have key : ∀ xs : List Vl, (xs.all fun v => match v with
    | .d _ => true
    | .r _ => false) = true → xs.all (lowV n) = true := by
    intro xs hx
    refine List.all_eq_true.mpr fun v hv => ?_
    have := List.all_eq_true.mp hx v hv
    cases v with
    | d x => rfl
    | r k => cases this
  cases c with
  | dead => rfl
  | dic _ => rfl
  | lst xs => exact key xs f
  | ins _ xs => exact key xs f
theorem lowC_le {n m : Nat} {c : Cell} (hn : n ≤ m) (l : lowC n c = true) : lowC m c = true := by
  have key : ∀ xs : List Vl, xs.all (lowV n) = true → xs.all (lowV m) = true := by
    intro xs hx
    refine List.all_eq_true.mpr fun v hv => ?_
    have := List.all_eq_true.mp hx v hv
    cases v with
    | d x => rfl
    | r k =>
      have : k < n := of_decide_eq_true this
      exact decide_eq_true (by omega)
  cases c with
  | dead => rfl
  | dic _ => rfl
  | lst xs => exact key xs l
  | ins _ xs => exact key xs l
theorem all_mono {n m : Nat} {h : Hs} (hn : n ≤ m) (w : h.all (lowC n) = true) : h.all (lowC m) = true := List.all_eq_true.mpr fun c hc => lowC_le hn (List.all_eq_true.mp w c hc)
theorem wf_app {h t : Hs} (w : wfH h = true) (ht : t.all flatC = true) : wfH (h ++ t) = true := by
  unfold wfH
  rw [List.all_append, Bool.and_eq_true, List.length_append]
  exact ⟨all_mono (by omega) w, List.all_eq_true.mpr fun c hc => flat_low _ (List.all_eq_true.mp ht c hc)⟩
end L3
/-! L3: what the pieces of the text do, for simp. -/
namespace L3
open PySem

section
variable {F : Fun} {e : Env} {h : Hs}
@[simp] theorem x_var {i : Nat} : ev F (.var i) e h = match e[i]? with
  | some (some v) => .ok v h
  | _ => .bad := by first | (rw [ev]; done) | (rw [ev]; rfl)
@[simp] theorem x_cst {x : D} : ev F (.cst x) e h = .ok (.d x) h := by first | (rw [ev]; done) | (rw [ev]; rfl)
@[simp] theorem x_glb {n : Str} {x : D} : ev F (.glb n x) e h = .ok (.d x) h := by first | (rw [ev]; done) | (rw [ev]; rfl)
@[simp] theorem x_prim {p : Pr} {as : List Ex} : ev F (.prim p as) e h = (evs F as e h).bind (pr p) := by first | (rw [ev]; done) | (rw [ev]; rfl)
@[simp] theorem x_mk {m : Bool} {p : Mk} {as : List Ex} : ev F (.mk m p as) e h = (evs F as e h).bind (mk m p) := by first | (rw [ev]; done) | (rw [ev]; rfl)
@[simp] theorem x_and {a b : Ex} : ev F (.and a b) e h = (ev F a e h).bind fun v h1 => asB v h1 fun c h1 => if c = true then ev F b e h1 else .ok (.d (.bl false)) h1 := by first | (rw [ev]; done) | (rw [ev]; rfl)
@[simp] theorem x_or {a b : Ex} : ev F (.or a b) e h = (ev F a e h).bind fun v h1 => asB v h1 fun c h1 => if c = true then .ok (.d (.bl true)) h1 else ev F b e h1 := by first | (rw [ev]; done) | (rw [ev]; rfl)
@[simp] theorem x_not {a : Ex} : ev F (.not a) e h = (ev F a e h).bind fun v h1 => asB v h1 fun c h1 => .ok (.d (.bl (!c))) h1 := by first | (rw [ev]; done) | (rw [ev]; rfl)
@[simp] theorem x_ite {c a b : Ex} : ev F (.ite c a b) e h = (ev F c e h).bind fun v h1 => asB v h1 fun c h1 => if c = true then ev F a e h1 else ev F b e h1 := by first | (rw [ev]; done) | (rw [ev]; rfl)
@[simp] theorem x_chain {p q : Pr} {a b c : Ex} : ev F (.chain p q a b c) e h = (ev F a e h).bind fun x h1 => (ev F b e h1).bind fun y h2 => (pr p [x, y] h2).bind fun v h3 => asB v h3 fun k h3 =>
      if k = true then (ev F c e h3).bind fun z h4 => pr q [y, z] h4 else .ok (.d (.bl false)) h3 := by first | (rw [ev]; done) | (rw [ev]; rfl)
@[simp] theorem x_call {f : Nat} {as : List Ex} : ev F (.call f as) e h = (evs F as e h).bind (F f) := by first | (rw [ev]; done) | (rw [ev]; rfl)
@[simp] theorem x_attr {c i : Nat} {n : Str} {o : Ex} : ev F (.attr c i n o) e h = (ev F o e h).bind fun v h1 => match objOf v h1 with
    | some (k, fs) => if k = c then match fs[i]? with
        | some u => .ok u h1
        | none => .bad
      else .bad
    | none => .bad := by first | (rw [ev]; done) | (rw [ev]; rfl)
@[simp] theorem x_new {m : Bool} {c f : Nat} {as : List Ex} : ev F (.new m c f as) e h = (evs F as e h).bind fun vs h1 => (F f (.r h1.length :: vs) (h1 ++ [.ins c []])).bind fun w h2 => match w with
      | .d .non => if m = true then .ok (.r h1.length) h2 else freeze (.r h1.length) h2
      | _ => .bad := by first | (rw [ev]; done) | (rw [ev]; rfl)
@[simp] theorem x_eqO {c f : Nat} {n : Bool} {a b : Ex} : ev F (.eqO c f n a b) e h = (ev F a e h).bind fun v h1 => (ev F b e h1).bind fun u h2 => if isObj c v h2 && (isCV [c] u h2).isSome then (F f [v, u] h2).bind fun w h3 => asB w h3 fun k h3 => .ok (.d (.bl (k != n))) h3 else .bad := by first | (rw [ev]; done) | (rw [ev]; rfl)
@[simp] theorem x_star {k : Nat} {bs : List Bool} {as : List Ex} : ev F (.star k bs as) e h = (noEx (evs F as e h)).bind fun vs h1 => match spread bs vs with
    | some us => starK k us h1
    | none => .bad := by first | (rw [ev]; done) | (rw [ev]; rfl)
@[simp] theorem x_popc {o : Ex} {as : List Ex} : ev F (.popc o as) e h = (ev F o e h).bind fun v h1 => if isLst v h1 = true then (evs F as e h1).bind fun vs h2 => popL (v :: vs) h2 else .bad := by first | (rw [ev]; done) | (rw [ev]; rfl)
@[simp] theorem x_frz {x : Ex} : ev F (.frz x) e h = (ev F x e h).bind fun v h1 => freeze v h1 := by first | (rw [ev]; done) | (rw [ev]; rfl)
@[simp] theorem x_wall : ev F .wall e h = .bad := by first | (rw [ev]; done) | (rw [ev]; rfl)
@[simp] theorem x_nil : evs F [] e h = .ok [] h := by first | (rw [evs]; done) | (rw [evs]; rfl)
@[simp] theorem x_cons {x : Ex} {r : List Ex} : evs F (x :: r) e h = (ev F x e h).bind fun v h1 => (evs F r e h1).bind fun vs h2 => .ok (v :: vs) h2 := by first | (rw [evs]; done) | (rw [evs]; rfl)
theorem x_comp {m : Bool} {x : Ex} {t : Tn} {k : ItK} {its cs : List Ex} : ev F (.comp m x t k its cs) e h = (rowsM F k its e h).bind fun rows h1 => (noEx (compL (turnM F x t cs e) rows h1)).bind fun us h2 => mkL m us h2 := by rw [ev_comp]
@[simp] theorem x_rows {k : ItK} {its : List Ex} : rowsM F k its e h = (evs F its e h).bind fun vs h1 => match rowsOf k vs with
    | some rows => .ok rows h1
    | none => .bad := (rfl)
@[simp] theorem x_turn {x : Ex} {t : Tn} {cs : List Ex} {row : List Vl} : turnM F x t cs e row h = match bindT t row (wipeE e t.names) with
        | some e1 => (tests F cs e1 h).bind fun b h1 => if b = true then (ev F x e1 h1).bind fun v h2 => .ok (some v) h2 else .ok none h1
        | none => .bad := (rfl)
@[simp] theorem x_turnF {t : Tn} {b : List Sm} {row : List Vl} : turnF F t b row e h = match bindT t row e with
  | some e1 => execs F b e1 h
  | none => .bad := (rfl)
@[simp] theorem x_tests0 : tests F [] e h = .ok true h := by first | (rw [tests]; done) | (rw [tests]; rfl)
@[simp] theorem x_tests1 {c : Ex} {r : List Ex} : tests F (c :: r) e h = (ev F c e h).bind fun v h1 => match v with
    | .d (.bl b) => if b = true then tests F r e h1 else .ok false h1
    | _ => .bad := by first | (rw [tests]; done) | (rw [tests]; rfl)
@[simp] theorem y_nil : execs F [] e h = .ok (.nx e) h := by first | (rw [execs]; done) | (rw [execs]; rfl)
@[simp] theorem y_cons {s : Sm} {r : List Sm} : execs F (s :: r) e h = (exec F s e h).bind fun fl h1 => match fl with
    | .nx e1 => execs F r e1 h1
    | fl => .ok fl h1 := by first | (rw [execs]; done) | (rw [execs]; rfl)
@[simp] theorem y_asg {t : Tn} {x : Ex} : exec F (.asg t x) e h = (ev F x e h).bind fun v h1 => match bindT t [v] e with
    | some e1 => .ok (.nx e1) h1
    | none => .bad := by first | (rw [exec]; done) | (rw [exec]; rfl)
@[simp] theorem y_sub {o i x : Ex} : exec F (.sub o i x) e h = (ev F x e h).bind fun v h1 => (ev F o e h1).bind fun a h2 => (ev F i e h2).bind fun k h3 => (setV a k v h3).bind fun _ h4 => .ok (.nx e) h4 := by first | (rw [exec]; done) | (rw [exec]; rfl)
@[simp] theorem y_fld {c i : Nat} {n : Str} {o x : Ex} : exec F (.fld c i n o x) e h = (ev F x e h).bind fun v h1 => (ev F o e h1).bind fun a h2 => fldV c i a v e h2 := by first | (rw [exec]; done) | (rw [exec]; rfl)
@[simp] theorem y_app {o x : Ex} : exec F (.app o x) e h = (ev F o e h).bind fun a h1 => if isLst a h1 = true then (ev F x e h1).bind fun v h2 => appV a v e h2 else .bad := by first | (rw [exec]; done) | (rw [exec]; rfl)
@[simp] theorem y_ext {o x : Ex} : exec F (.ext o x) e h = (ev F o e h).bind fun a h1 => if isLst a h1 = true then (ev F x e h1).bind fun v h2 => extV a v e h2 else .bad := by first | (rw [exec]; done) | (rw [exec]; rfl)
@[simp] theorem y_clr {o : Ex} : exec F (.clr o) e h = (ev F o e h).bind fun a h1 => clrV a e h1 := by first | (rw [exec]; done) | (rw [exec]; rfl)
@[simp] theorem y_expr {x : Ex} : exec F (.expr x) e h = (ev F x e h).bind fun _ h1 => .ok (.nx e) h1 := by first | (rw [exec]; done) | (rw [exec]; rfl)
@[simp] theorem y_ret {x : Ex} : exec F (.ret x) e h = (ev F x e h).bind fun v h1 => .ok (.rt v) h1 := by first | (rw [exec]; done) | (rw [exec]; rfl)
@[simp] theorem y_retN : exec F .retN e h = .ok (.rt (.d .non)) h := by first | (rw [exec]; done) | (rw [exec]; rfl)
@[simp] theorem y_ite {c : Ex} {a b : List Sm} : exec F (.ite c a b) e h = (ev F c e h).bind fun v h1 => match v with
    | .d (.bl k) => if k = true then execs F a e h1 else execs F b e h1
    | _ => .bad := by first | (rw [exec]; done) | (rw [exec]; rfl)
theorem y_for {t : Tn} {k : ItK} {its : List Ex} {b : List Sm} : exec F (.for_ t k its b) e h = (rowsM F k its e h).bind fun rows h1 => forL (turnF F t b) rows e h1 := by rw [exec_for]
@[simp] theorem y_pass : exec F .pass e h = .ok (.nx e) h := by first | (rw [exec]; done) | (rw [exec]; rfl)
@[simp] theorem y_brk : exec F .brk e h = .ok (.bk e) h := by first | (rw [exec]; done) | (rw [exec]; rfl)
@[simp] theorem y_cont : exec F .cont e h = .ok (.ct e) h := by first | (rw [exec]; done) | (rw [exec]; rfl)
@[simp] theorem y_frzv {i : Nat} : exec F (.frzv i) e h = match e[i]? with
    | some (some v) => (freeze v h).bind fun u h1 => .ok (.nx (setE e i u)) h1
    | _ => .bad := by first | (rw [exec]; done) | (rw [exec]; rfl)
@[simp] theorem y_par {is : List Nat} {es : List Ex} : exec F (.par is es) e h = (evs F es e h).bind fun vs h1 => if vs.length = is.length then .ok (.nx (setEs e is vs)) h1 else .bad := by first | (rw [exec]; done) | (rw [exec]; rfl)
@[simp] theorem y_wall : exec F .wall e h = .bad := by first | (rw [exec]; done) | (rw [exec]; rfl)
end
section
variable {α : Type} {Q : α → Hs → Prop} {E : D → Hs → Prop} {h : Hs}
@[simp] theorem wp_if {c : Prop} [Decidable c] {o : Out α} : Wp (if c then o else .bad) Q E = (c ∧ Wp o Q E) := by
  by_cases q : c <;> simp [q]
@[simp] theorem x_asB {b : Bool} {f : Bool → Hs → Out Vl} : asB (.d (.bl b)) h f = f b h := (rfl)
/-- an option's value -/
def optO (o : Option Vl) (h : Hs) : Out Vl := match o with
  | some v => .ok v h
  | none => .bad
@[simp] theorem optO_some {v : Vl} : optO (some v) h = .ok v h := (rfl)
@[simp] theorem optO_none : optO none h = .bad := (rfl)
theorem wp_optO {o : Option Vl} {Q : Vl → Hs → Prop} : Wp (optO o h) Q E = ∃ v, o = some v ∧ Q v h := by
  cases o <;> simp
end
@[simp] theorem setE_eq {e : Env} {i : Nat} {v : Vl} : setE e i v = e.set i (some v) := (rfl)
@[simp] theorem setEs_nil {e : Env} : setEs e [] [] = e := (rfl)
@[simp] theorem setEs_cons {e : Env} {i : Nat} {is : List Nat} {v : Vl} {vs : List Vl} : setEs e (i :: is) (v :: vs) = setEs (e.set i (some v)) is vs := (rfl)
@[simp] theorem wipe_nil {e : Env} : wipeE e [] = e := (rfl)
@[simp] theorem wipe_cons {e : Env} {i : Nat} {r : List Nat} : wipeE e (i :: r) = wipeE (e.set i none) r := (rfl)
@[simp] theorem nm_names {i : Nat} : (Tn.nm i).names = [i] := (rfl)
@[simp] theorem tup_names {is : List Nat} : (Tn.tup is).names = is := (rfl)
@[simp] theorem bind_nm {i : Nat} {v : Vl} {e : Env} : bindT (.nm i) [v] e = some (e.set i (some v)) := (rfl)
@[simp] theorem bind_tup1 {is : List Nat} {xs : List D} {e : Env} : bindT (.tup is) [.d (.tup xs)] e = if xs.length = is.length then some (setEs e is (xs.map .d)) else none := (rfl)
@[simp] theorem bind_tup2 {i j : Nat} {v w : Vl} {e : Env} : bindT (.tup [i, j]) [v, w] e = some ((e.set i (some v)).set j (some w)) := (rfl)
/-! ### prims -/
section
variable {h : Hs} {i j : Int} {xs ys : List D} {a b : D} {v : Vl}
/-- an item -/
def atI {α : Type} (xs : List α) (i : Int) : Option α := (ixOf xs.length i).bind fun k => xs[k]?
@[simp] theorem atI_map {α β : Type} {f : α → β} {xs : List α} {i : Int} : atI (xs.map f) i = (atI xs i).map f := by
  unfold atI
  rw [List.length_map]
  cases ixOf xs.length i <;> simp
theorem atI_k {α : Type} {xs : List α} {k : Nat} {x : α} (e : xs[k]? = some x) : atI xs (k : Int) = some x := by
  have := (List.getElem?_eq_some_iff.mp e).1
  unfold atI ixOf
  rw [if_pos (by omega), if_pos (by omega)]
  exact e
@[simp] theorem atI_0 {α : Type} {x : α} {xs : List α} : atI (x :: xs) 0 = some x := atI_k (k := 0) rfl
@[simp] theorem atI_1 {α : Type} {x y : α} {xs : List α} : atI (x :: y :: xs) 1 = some y := atI_k (k := 1) rfl
@[simp] theorem atI_2 {α : Type} {x y z : α} {xs : List α} : atI (x :: y :: z :: xs) 2 = some z := atI_k (k := 2) rfl
@[simp] theorem atI_3 {α : Type} {x y z u : α} {xs : List α} : atI (x :: y :: z :: u :: xs) 3 = some u := atI_k (k := 3) rfl
@[simp] theorem atI_4 {α : Type} {x y z u v : α} {xs : List α} : atI (x :: y :: z :: u :: v :: xs) 4 = some v := atI_k (k := 4) rfl
theorem atI_nat {α : Type} {xs : List α} {i : Int} (h0 : 0 ≤ i) (h1 : i < xs.length) : atI xs i = xs[i.toNat]? := by
  unfold atI ixOf
  rw [if_pos h0, if_pos h1]
  rfl
@[simp] theorem p_addI : pr .add [.d (.int i), .d (.int j)] h = .ok (.d (.int (i + j))) h := (rfl)
@[simp] theorem p_addT : pr .add [.d (.tup xs), .d (.tup ys)] h = if xs.length + ys.length ≤ LIM then .ok (.d (.tup (xs ++ ys))) h else .bad := (rfl)
@[simp] theorem p_sub : pr .sub [.d (.int i), .d (.int j)] h = .ok (.d (.int (i - j))) h := (rfl)
@[simp] theorem p_mulI : pr .mul [.d (.int i), .d (.int j)] h = if (smallI j || smallI i) = true then .ok (.d (.int (i * j))) h else .bad := (rfl)
@[simp] theorem p_mulT : pr .mul [.d (.tup xs), .d (.int j)] h = if (!xs.isEmpty && decide (2 ≤ j) && decide (j ≤ 1000) && decide (xs.length ≤ 1000)) = true then .ok (.d (.tup (List.replicate j.toNat xs).flatten)) h else .bad := (rfl)
@[simp] theorem p_mod : pr .mod [.d (.int i), .d (.int j)] h = if 0 < j then .ok (.d (.int (i % j))) h else .bad := (rfl)
@[simp] theorem p_fdiv : pr .fdiv [.d (.int i), .d (.int j)] h = if (decide (0 < j) && decide (j < 1073741824)) = true then .ok (.d (.int (i / j))) h else .bad := (rfl)
@[simp] theorem p_pow : pr .pow [.d (.int i), .d (.int j)] h = if (decide (0 ≤ j) && (decide (j ≤ 1000000) && smallI i)) = true then .ok (.d (.int (i ^ j.toNat))) h else .bad := (rfl)
@[simp] theorem p_neg : pr .neg [.d (.int i)] h = .ok (.d (.int (-i))) h := (rfl)
@[simp] theorem p_lt : pr .lt [.d (.int i), .d (.int j)] h = .ok (.d (.bl (decide (i < j)))) h := (rfl)
@[simp] theorem p_le : pr .le [.d (.int i), .d (.int j)] h = .ok (.d (.bl (decide (i ≤ j)))) h := (rfl)
@[simp] theorem p_gt : pr .gt [.d (.int i), .d (.int j)] h = .ok (.d (.bl (decide (j < i)))) h := (rfl)
@[simp] theorem p_ge : pr .ge [.d (.int i), .d (.int j)] h = .ok (.d (.bl (decide (j ≤ i)))) h := (rfl)
@[simp] theorem p_eq {x y : Vl} : pr .eq [x, y] h = match eqV x y h with
  | some b => .ok (.d (.bl b)) h
  | none => .bad := (rfl)
@[simp] theorem p_ne {x y : Vl} : pr .ne [x, y] h = match eqV x y h with
  | some b => .ok (.d (.bl (!b))) h
  | none => .bad := (rfl)
@[simp] theorem p_isN {x : Vl} : pr .is_ [x, .d .non] h = .ok (.d (.bl (match x with
  | .d .non => true
  | _ => false))) h := by
  cases x with
  | r n => rfl
  | d x => cases x <;> rfl
@[simp] theorem p_isnotN {x : Vl} : pr .isnot [x, .d .non] h = .ok (.d (.bl (!match x with
  | .d .non => true
  | _ => false))) h := by
  cases x with
  | r n => rfl
  | d x => cases x <;> rfl
@[simp] theorem p_in {x y : Vl} : pr .in_ [x, y] h = match inV x y h with
  | some b => .ok (.d (.bl b)) h
  | none => .bad := (rfl)
@[simp] theorem p_notin {x y : Vl} : pr .notin [x, y] h = match inV x y h with
  | some b => .ok (.d (.bl (!b))) h
  | none => .bad := (rfl)
@[simp] theorem p_lenT : pr .len [.d (.tup xs)] h = .ok (.d (.int xs.length)) h := by simp [pr, sview, okI]
@[simp] theorem p_lenL : pr .len [.d (.lst xs)] h = .ok (.d (.int xs.length)) h := by simp [pr, sview, okI]
@[simp] theorem p_lenD {kvs : List (D × D)} : pr .len [.d (.dic kvs)] h = .ok (.d (.int kvs.length)) h := by simp [pr, sview, kview, okI]
theorem p_lenR {n : Nat} {vs : List Vl} (e : h[n]? = some (.lst vs)) : pr .len [.r n] h = .ok (.d (.int vs.length)) h := by simp [pr, sview, okI, e]
theorem p_allL : pr .all [.d (.lst xs)] h = match allB (xs.map .d) with
  | some bs => .ok (.d (.bl (bs.all id))) h
  | none => .bad := (rfl)
theorem p_anyL : pr .any [.d (.lst xs)] h = match allB (xs.map .d) with
  | some bs => .ok (.d (.bl (bs.any id))) h
  | none => .bad := (rfl)
@[simp] theorem p_intI : pr .int [.d (.int i)] h = .ok (.d (.int i)) h := (rfl)
@[simp] theorem p_intB {b : Bool} : pr .int [.d (.bl b)] h = .ok (.d (.int (b2i b))) h := (rfl)
@[simp] theorem p_isi {t : Ty} {x : Vl} : pr (.isi t) [x] h = match isTyV t x h with
  | some b => .ok (.d (.bl b)) h
  | none => .bad := (rfl)
@[simp] theorem p_isc {cs : List Nat} {x : Vl} : pr (.isc cs) [x] h = match isCV cs x h with
  | some b => .ok (.d (.bl b)) h
  | none => .bad := (rfl)
@[simp] theorem p_min : pr .min2 [.d (.int i), .d (.int j)] h = .ok (.d (.int (if j < i then j else i))) h := (rfl)
@[simp] theorem p_max : pr .max2 [.d (.int i), .d (.int j)] h = .ok (.d (.int (if j > i then j else i))) h := (rfl)
@[simp] theorem p_tupleT : pr .tuple [.d (.tup xs)] h = .ok (.d (.tup xs)) h := by simp [pr, sview, allD_map]
@[simp] theorem p_tupleL : pr .tuple [.d (.lst xs)] h = .ok (.d (.tup xs)) h := by simp [pr, sview, allD_map]
theorem p_tupleR {n : Nat} {xs : List D} (e : h[n]? = some (.lst (xs.map .d))) : pr .tuple [.r n] h = .ok (.d (.tup xs)) h := by simp [pr, sview, allD_map, e]
@[simp] theorem p_tup {vs : List Vl} : pr .tup vs h = match allD vs with
  | some ds => if ds.length ≤ LIM then .ok (.d (.tup ds)) h else .bad
  | none => .bad := (rfl)
@[simp] theorem allD_nil : allD [] = some [] := (rfl)
@[simp] theorem allD_cons {x : D} {r : List Vl} : allD (.d x :: r) = (allD r).map (x :: ·) := (rfl)
theorem optO_d {α : Type} {xs : List α} {f : α → Vl} {o : Option Nat} : (match (o.bind fun k => (xs.map f)[k]?) with
    | some v => Out.ok v h
    | none => .bad) = optO ((o.bind fun k => xs[k]?).map f) h := by
  cases o with
  | none => rfl
  | some k =>
    simp only [Option.bind_some, List.getElem?_map]
    cases xs[k]? <;> rfl
@[simp] theorem p_itemT : pr .item [.d (.tup xs), .d (.int i)] h = optO ((atI xs i).map .d) h := by
  unfold atI
  rw [← optO_d]
  simp [pr, kview, sview]
  all_goals rfl
@[simp] theorem p_itemL : pr .item [.d (.lst xs), .d (.int i)] h = optO ((atI xs i).map .d) h := by
  unfold atI
  rw [← optO_d]
  simp [pr, kview, sview]
  all_goals rfl
theorem p_itemR {n : Nat} {vs : List Vl} (e : h[n]? = some (.lst vs)) : pr .item [.r n, .d (.int i)] h = optO (atI vs i) h := by
  unfold atI optO
  simp [pr, kview, sview, e]
  all_goals rfl
@[simp] theorem p_slL : pr .slL [.d (.tup xs), .d (.int i)] h = .ok (.d (.tup (cutD xs (slOf xs.length i) xs.length))) h := (rfl)
@[simp] theorem p_slU : pr .slU [.d (.tup xs), .d (.int i)] h = .ok (.d (.tup (cutD xs 0 (slOf xs.length i)))) h := (rfl)
@[simp] theorem p_revT : pr .revT [.d (.tup xs)] h = .ok (.d (.tup xs.reverse)) h := (rfl)
@[simp] theorem p_slLU : pr .slLU [.d (.tup xs), .d (.int i), .d (.int j)] h = .ok (.d (.tup (cutD xs (slOf xs.length i) (slOf xs.length j)))) h := (rfl)
@[simp] theorem p_count : pr .count [.d (.lst xs), .d a] h = if (plainD a && plainDs xs && decide (depthD a ≤ 48) && decide (depthDs xs ≤ 48)) = true then .ok (.d (.int ((xs.filter fun z => eqvD z a).length : Nat))) h else .bad := by
  simp [pr, lview, allD_map, Vl.toD, okI]
/-! ### makers -/
@[simp] theorem k_lst {m : Bool} {vs : List Vl} : mk m .lst vs h = mkL m vs h := (rfl)
theorem k_cat {m : Bool} : mk m .cat [.d (.lst xs), .d (.lst ys)] h = mkL m (xs.map .d ++ ys.map .d) h := (rfl)
theorem k_mulL {m : Bool} : mk m .mulL [.d (.lst xs), .d (.int j)] h = if (decide (-4611686018427387904 ≤ j) && decide (j < 4611686018427387904)) = true then mkL m (List.replicate j.toNat (xs.map .d)).flatten h else .bad := (rfl)
theorem k_listL {m : Bool} : mk m .list [.d (.lst xs)] h = mkL m (xs.map .d) h := (rfl)
theorem k_listT {m : Bool} : mk m .list [.d (.tup xs)] h = mkL m (xs.map .d) h := (rfl)
theorem k_slL {m : Bool} : mk m .slL [.d (.lst xs), .d (.int i)] h = mkL m (cutD (xs.map .d) (slOf xs.length i) xs.length) h := by simp [mk, rview, lview]
theorem k_slU {m : Bool} : mk m .slU [.d (.lst xs), .d (.int i)] h = mkL m (cutD (xs.map .d) 0 (slOf xs.length i)) h := by simp [mk, rview, lview]
theorem k_slLU {m : Bool} : mk m .slLU [.d (.lst xs), .d (.int i), .d (.int j)] h = mkL m (cutD (xs.map .d) (slOf xs.length i) (slOf xs.length j)) h := by simp [mk, rview, lview]
theorem k_rev {m : Bool} : mk m .rev [.d (.lst xs)] h = mkL m (xs.map .d).reverse h := (rfl)
theorem mkL_eq {vs : List Vl} {ds : List D} (e : vs = ds.map .d) : mkL false vs h = if ds.length ≤ LIM then .ok (.d (.lst ds)) h else .bad := by
  subst e
  unfold mkL
  rw [List.length_map, allD_map]
  rfl
theorem mkLF {ds : List D} : mkL false (ds.map .d) h = if ds.length ≤ LIM then .ok (.d (.lst ds)) h else .bad := mkL_eq rfl
theorem mkLF_nil : mkL false [] h = .ok (.d (.lst [])) h := (rfl)
theorem mkLF_app {ds es : List D} : mkL false (ds.map .d ++ es.map .d) h = if (ds ++ es).length ≤ LIM then .ok (.d (.lst (ds ++ es))) h else .bad := mkL_eq (by simp)
theorem mkLF_rev {ds : List D} : mkL false (ds.map .d).reverse h = if ds.length ≤ LIM then .ok (.d (.lst ds.reverse)) h else .bad := by
  rw [mkL_eq (ds := ds.reverse) (by simp), List.length_reverse]
theorem cutD_map {α β : Type} {f : α → β} {xs : List α} {l u : Nat} : cutD (xs.map f) l u = (cutD xs l u).map f := by
  unfold cutD
  rw [← List.map_take, ← List.map_drop]
theorem mkLF_cut {ds : List D} {l u : Nat} : mkL false (cutD (ds.map .d) l u) h = if (cutD ds l u).length ≤ LIM then .ok (.d (.lst (cutD ds l u))) h else .bad := mkL_eq cutD_map
theorem mkLF_rep {ds : List D} {n : Nat} : mkL false (List.replicate n (ds.map .d)).flatten h = if (List.replicate n ds).flatten.length ≤ LIM then .ok (.d (.lst (List.replicate n ds).flatten)) h else .bad := mkL_eq (by simp)
theorem allD_len : ∀ {vs : List Vl} {ds : List D}, allD vs = some ds → ds.length = vs.length
  | [], _, q => by cases q; rfl
  | .r n :: r, _, q => by cases q
  | .d y :: r, ds, q => by
    rw [allD_cons] at q
    cases qr : allD r with
    | none => rw [qr] at q; cases q
    | some es =>
      rw [qr] at q
      cases q
      simp [allD_len qr]
theorem mkLF_cons {x : D} {vs : List Vl} : mkL false (.d x :: vs) h = match allD vs with
    | some ds => if ds.length + 1 ≤ LIM then .ok (.d (.lst (x :: ds))) h else .bad
    | none => .bad := by
  unfold mkL
  simp only [List.length_cons, allD_cons]
  cases q : allD vs with
  | none => simp
  | some ds =>
    have : ds.length = vs.length := allD_len q
    simp [this]
@[simp] theorem mkLT {vs : List Vl} : mkL true vs h = if vs.length ≤ LIM then .ok (.r h.length) (h ++ [.lst vs]) else .bad := (rfl)
theorem mkLF_m {α : Type} {zs : List α} {g : α → D} : mkL false (zs.map fun x => .d (g x)) h = if zs.length ≤ LIM then .ok (.d (.lst (zs.map g))) h else .bad := by
  rw [mkL_eq (ds := zs.map g) (by simp), List.length_map]
theorem mkLF_c {α : Type} {zs : List α} {g : α → D} : mkL false (zs.map (Vl.d ∘ g)) h = if zs.length ≤ LIM then .ok (.d (.lst (zs.map g))) h else .bad := mkLF_m
theorem mkLF_i : mkL false (xs.map .d) h = if xs.length ≤ LIM then .ok (.d (.lst xs)) h else .bad := mkL_eq (rfl)
@[simp] theorem f_cat : mk false .cat [.d (.lst xs), .d (.lst ys)] h = if xs.length + ys.length ≤ LIM then .ok (.d (.lst (xs ++ ys))) h else .bad := by rw [k_cat, mkLF_app, List.length_append]
@[simp] theorem f_mulL : mk false .mulL [.d (.lst xs), .d (.int j)] h = if (decide (-4611686018427387904 ≤ j) && decide (j < 4611686018427387904)) = true then (if (List.replicate j.toNat xs).flatten.length ≤ LIM then .ok (.d (.lst (List.replicate j.toNat xs).flatten)) h else .bad) else .bad := by rw [k_mulL, mkLF_rep]
@[simp] theorem f_listL : mk false .list [.d (.lst xs)] h = if xs.length ≤ LIM then .ok (.d (.lst xs)) h else .bad := by rw [k_listL, mkLF]
@[simp] theorem f_listT : mk false .list [.d (.tup xs)] h = if xs.length ≤ LIM then .ok (.d (.lst xs)) h else .bad := by rw [k_listT, mkLF]
@[simp] theorem f_slL : mk false .slL [.d (.lst xs), .d (.int i)] h = if (cutD xs (slOf xs.length i) xs.length).length ≤ LIM then .ok (.d (.lst (cutD xs (slOf xs.length i) xs.length))) h else .bad := by rw [k_slL, mkLF_cut]
@[simp] theorem f_slU : mk false .slU [.d (.lst xs), .d (.int i)] h = if (cutD xs 0 (slOf xs.length i)).length ≤ LIM then .ok (.d (.lst (cutD xs 0 (slOf xs.length i)))) h else .bad := by rw [k_slU, mkLF_cut]
@[simp] theorem f_slLU : mk false .slLU [.d (.lst xs), .d (.int i), .d (.int j)] h = if (cutD xs (slOf xs.length i) (slOf xs.length j)).length ≤ LIM then .ok (.d (.lst (cutD xs (slOf xs.length i) (slOf xs.length j)))) h else .bad := by rw [k_slLU, mkLF_cut]
@[simp] theorem f_rev : mk false .rev [.d (.lst xs)] h = if xs.length ≤ LIM then .ok (.d (.lst xs.reverse)) h else .bad := by rw [k_rev, mkLF_rev]
@[simp] theorem t_cat : mk true .cat [.d (.lst xs), .d (.lst ys)] h = if xs.length + ys.length ≤ LIM then .ok (.r h.length) (h ++ [.lst ((xs ++ ys).map .d)]) else .bad := by rw [k_cat, ← List.map_append, mkLT, List.length_map, List.length_append]
@[simp] theorem t_listL : mk true .list [.d (.lst xs)] h = if xs.length ≤ LIM then .ok (.r h.length) (h ++ [.lst (xs.map .d)]) else .bad := by rw [k_listL, mkLT, List.length_map]
@[simp] theorem t_listT : mk true .list [.d (.tup xs)] h = if xs.length ≤ LIM then .ok (.r h.length) (h ++ [.lst (xs.map .d)]) else .bad := by rw [k_listT, mkLT, List.length_map]
/-! ### cells -/
@[simp] theorem frz_d : freeze (.d a) h = .ok (.d a) h := (rfl)
theorem frz_r {n : Nat} {ds : List D} (e : h[n]? = some (.lst (ds.map .d))) : freeze (.r n) h = .ok (.d (.lst ds)) (h.set n .dead) := by simp [freeze, e, allD_map]
end
/-! ### kinds -/
@[simp] theorem isTy_int {t : Ty} {i : Int} {h : Hs} : isTyV t (.d (.int i)) h = some (match t with | .int => true | _ => false) := by cases t <;> rfl
@[simp] theorem isTy_bl {t : Ty} {b : Bool} {h : Hs} : isTyV t (.d (.bl b)) h = some (match t with | .int => true | .bool => true | _ => false) := by cases t <;> rfl
@[simp] theorem isTy_non {t : Ty} {h : Hs} : isTyV t (.d .non) h = some false := by cases t <;> rfl
@[simp] theorem isTy_str {t : Ty} {x : Str} {h : Hs} : isTyV t (.d (.str x)) h = some (match t with | .str => true | _ => false) := by cases t <;> rfl
@[simp] theorem isTy_tup {t : Ty} {xs : List D} {h : Hs} : isTyV t (.d (.tup xs)) h = some (match t with | .tuple => true | _ => false) := by cases t <;> rfl
@[simp] theorem isTy_lst {t : Ty} {xs : List D} {h : Hs} : isTyV t (.d (.lst xs)) h = some (match t with | .list => true | _ => false) := by cases t <;> rfl
@[simp] theorem isTy_dic {t : Ty} {xs : List (D × D)} {h : Hs} : isTyV t (.d (.dic xs)) h = some (match t with | .dict => true | _ => false) := by cases t <;> rfl
@[simp] theorem isTy_ins {t : Ty} {c : Nat} {xs : List D} {h : Hs} : isTyV t (.d (.ins c xs)) h = some false := by cases t <;> rfl
/-! ### equality -/
mutual
/-- plain, of a depth of at most n -/
def dep : Nat → D → Bool
  | 0, x => match x with
    | .non => true
    | .bl _ => true
    | .int _ => true
    | .str x => strOkB x
    | _ => false
  | n + 1, x => match x with
    | .non => true
    | .bl _ => true
    | .int _ => true
    | .str x => strOkB x
    | .tup xs => deps n xs
    | .lst xs => deps n xs
    | _ => false
def deps : Nat → List D → Bool
  | _, [] => true
  | n, x :: r => dep n x && deps n r
end
mutual
theorem dep_ok : ∀ {n : Nat} {x : D}, dep n x = true → plainD x = true ∧ depthD x ≤ n
  | 0, x, e => by cases x <;> first | (simp [dep] at e; done) | (refine ⟨?_, Nat.zero_le _⟩; simp_all [dep, plainD])
  | n + 1, x, e => by
    cases x with
    | tup xs =>
      simp only [dep] at e
      have := deps_ok e
      simp only [plainD, depthD]
      exact ⟨this.1, Nat.succ_le_succ this.2⟩
    | lst xs =>
      simp only [dep] at e
      have := deps_ok e
      simp only [plainD, depthD]
      exact ⟨this.1, Nat.succ_le_succ this.2⟩
    | _ => first | (simp [dep] at e; done) | (refine ⟨?_, Nat.zero_le _⟩; simp_all [dep, plainD])
theorem deps_ok : ∀ {n : Nat} {xs : List D}, deps n xs = true → plainDs xs = true ∧ depthDs xs ≤ n
  | n, [], e => ⟨by rw [plainDs], by rw [depthDs]; exact Nat.zero_le _⟩
  | n, x :: r, e => by
    rw [deps, Bool.and_eq_true] at e
    have h1 := dep_ok e.1
    have h2 := deps_ok e.2
    rw [plainDs, depthDs, h1.1, h2.1]
    exact ⟨rfl, Nat.max_le.mpr ⟨h1.2, h2.2⟩⟩
end
theorem deps_map {α : Type} {n : Nat} {f : α → D} (xs : List α) (hf : ∀ x ∈ xs, dep n (f x) = true) : deps n (xs.map f) = true := by
  induction xs with
  | nil => rw [List.map_nil, deps]
  | cons x r ih => rw [List.map_cons, deps, hf x List.mem_cons_self, ih fun y hy => hf y (List.mem_cons_of_mem _ hy)]; rfl
mutual
theorem eqvD_refl : ∀ {x : D}, plainD x = true → eqvD x x = true
  | .non, _ => by rw [eqvD]
  | .bl b, _ => by rw [eqvD]; simp
  | .int i, _ => by rw [eqvD]; simp
  | .str x, _ => by rw [eqvD]; simp
  | .tup xs, h => by rw [eqvD]; exact eqvDs_refl (by rw [plainD] at h; exact h)
  | .lst xs, h => by rw [eqvD]; exact eqvDs_refl (by rw [plainD] at h; exact h)
  | .dic _, h => by rw [plainD] at h; cases h
  | .set _, h => by rw [plainD] at h; cases h
  | .ins _ _, h => by rw [plainD] at h; cases h
  | .exc _ _, h => by rw [plainD] at h; cases h
  | .ro _, h => by rw [plainD] at h; cases h
theorem eqvDs_refl : ∀ {xs : List D}, plainDs xs = true → eqvDs xs xs = true
  | [], _ => by rw [eqvDs]
  | x :: r, h => by
    rw [plainDs, Bool.and_eq_true] at h
    rw [eqvDs, eqvD_refl h.1, eqvDs_refl h.2]
    rfl
end
theorem beq_comm' {α : Type} [BEq α] [LawfulBEq α] (a b : α) : (a == b) = (b == a) := by
  by_cases h : a = b
  · subst h; rfl
  · rw [beq_eq_false_iff_ne.mpr h, beq_eq_false_iff_ne.mpr (Ne.symm h)]
mutual
theorem eqvD_symm : ∀ (x y : D), eqvD x y = eqvD y x
  | .non, y => by cases y <;> simp [eqvD]
  | .bl b, y => by cases y <;> simp [eqvD, beq_comm']
  | .int i, y => by cases y <;> simp [eqvD, beq_comm']
  | .str x, y => by cases y <;> simp [eqvD, beq_comm']
  | .tup xs, y => by cases y <;> first | (simp [eqvD]; done) | skip
                     rw [eqvD, eqvD]; exact eqvDs_symm _ _
  | .lst xs, y => by cases y <;> first | (simp [eqvD]; done) | skip
                     rw [eqvD, eqvD]; exact eqvDs_symm _ _
  | .dic _, y => by cases y <;> simp [eqvD]
  | .set _, y => by cases y <;> simp [eqvD]
  | .ins _ _, y => by cases y <;> simp [eqvD]
  | .exc _ _, y => by cases y <;> simp [eqvD]
  | .ro _, y => by cases y <;> simp [eqvD]
theorem eqvDs_symm : ∀ (xs ys : List D), eqvDs xs ys = eqvDs ys xs
  | [], ys => by cases ys <;> simp [eqvDs]
  | x :: r, ys => by
    cases ys with
    | nil => simp [eqvDs]
    | cons y s => rw [eqvDs, eqvDs, eqvD_symm x y, eqvDs_symm r s]
end
theorem eqvDs_nil_l (ys : List D) : eqvDs [] ys = ys.isEmpty := by cases ys <;> rw [eqvDs] <;> rfl
theorem eqvDs_nil_r (ys : List D) : eqvDs ys [] = ys.isEmpty := by cases ys <;> rw [eqvDs] <;> rfl
theorem eqV_d {a b : D} {h : Hs} (ha : dep 48 a = true) (hb : dep 48 b = true) : eqV (.d a) (.d b) h = some (eqvD a b) := by
  obtain ⟨pa, da⟩ := dep_ok ha
  obtain ⟨pb, db⟩ := dep_ok hb
  unfold eqV
  simp only [snap]
  split
  · rw [eqvD, eqvDs_nil_l]
  · rw [eqvD, eqvDs_nil_r]
  · rw [eqvD, eqvDs_nil_l]
  · rw [eqvD, eqvDs_nil_r]
  · rw [eqvD]
  · simp [pa, pb, da, db]
/-! ### cells behind a heap -/
section
variable {h t : Hs} {c d : Cell} {n k p : Nat} {v : Vl} {vs : List Vl} {i : Int}
@[simp] theorem get_app0 : (h ++ t)[h.length]? = t[0]? := by
  rw [List.getElem?_append_right (Nat.le_refl _), Nat.sub_self]
@[simp] theorem get_appk : (h ++ t)[h.length + k]? = t[k]? := by
  rw [List.getElem?_append_right (by omega), Nat.add_sub_cancel_left]
@[simp] theorem get_appS0 : (h.set p c ++ t)[h.length]? = t[0]? := by
  rw [List.getElem?_append_right (by simp), List.length_set, Nat.sub_self]
@[simp] theorem get_appSk : (h.set p c ++ t)[h.length + k]? = t[k]? := by
  rw [List.getElem?_append_right (by simp), List.length_set, Nat.add_sub_cancel_left]
@[simp] theorem set_app0 : (h ++ t).set h.length c = h ++ t.set 0 c := by
  rw [List.set_append_right _ _ (Nat.le_refl _), Nat.sub_self]
@[simp] theorem set_appk : (h ++ t).set (h.length + k) c = h ++ t.set k c := by
  rw [List.set_append_right _ _ (by omega), Nat.add_sub_cancel_left]
@[simp] theorem set_appS0 : (h.set p d ++ t).set h.length c = h.set p d ++ t.set 0 c := by
  rw [List.set_append_right _ _ (by simp), List.length_set, Nat.sub_self]
@[simp] theorem set_appSk : (h.set p d ++ t).set (h.length + k) c = h.set p d ++ t.set k c := by
  rw [List.set_append_right _ _ (by simp), List.length_set, Nat.add_sub_cancel_left]
@[simp] theorem take_app : (h ++ t).take h.length = h := by simp
@[simp] theorem take_appS : (h.set p c ++ t).take h.length = h.set p c := by
  rw [List.take_append_of_le_length (by simp), List.take_of_length_le (by simp)]
@[simp] theorem take_S : (h.set p c).take h.length = h.set p c := List.take_of_length_le (by simp)
@[simp] theorem take_self : List.take h.length h = h := List.take_of_length_le (Nat.le_refl _)
theorem get_low (hp : p < h.length) : (h ++ t)[p]? = h[p]? := List.getElem?_append_left hp
theorem set_low (hp : p < h.length) : (h ++ t).set p c = h.set p c ++ t := by
  rw [List.set_append_left _ _ hp]
def frzC (o : Option Cell) (n : Nat) (h : Hs) : Out Vl := match o with
    | some (.lst xs) => match allD xs with
      | some ds => .ok (.d (.lst ds)) (h.set n .dead)
      | none => .bad
    | some (.dic kvs) => .ok (.d (.dic kvs)) (h.set n .dead)
    | some (.ins c fs) => match allD fs with
      | some ds => .ok (.d (.ins c ds)) (h.set n .dead)
      | none => .bad
    | _ => .bad
@[simp] theorem frzC_r : freeze (.r n) h = frzC h[n]? n h := (rfl)
@[simp] theorem frzC_lst : frzC (some (.lst vs)) n h = match allD vs with
      | some ds => .ok (.d (.lst ds)) (h.set n .dead)
      | none => .bad := (rfl)
@[simp] theorem frzC_dic {kvs : List (D × D)} : frzC (some (.dic kvs)) n h = .ok (.d (.dic kvs)) (h.set n .dead) := (rfl)
@[simp] theorem frzC_ins {c : Nat} : frzC (some (.ins c vs)) n h = match allD vs with
      | some ds => .ok (.d (.ins c ds)) (h.set n .dead)
      | none => .bad := (rfl)
def itmC (o : Option Cell) (k : D) (h : Hs) : Out Vl := match o with
  | some (.lst vs) => match k with
    | .int i => optO (atI vs i) h
    | _ => .bad
  | some (.dic kvs) => if keyS k then optO ((getK kvs k).map .d) h else .bad
  | _ => .bad
@[simp] theorem itmC_r : pr .item [.r n, .d (.int i)] h = itmC h[n]? (.int i) h := by
  unfold itmC
  simp only [pr, kview, sview]
  cases h[n]? with
  | none => rfl
  | some c =>
    cases c with
    | lst vs =>
      dsimp only
      unfold atI optO
      rfl
    | dic kvs =>
      dsimp only
      cases getK kvs (.int i) <;> rfl
    | _ => rfl
@[simp] theorem itmC_lst : itmC (some (.lst vs)) (.int i) h = optO (atI vs i) h := (rfl)
@[simp] theorem itmC_dic {kvs : List (D × D)} {k : D} : itmC (some (.dic kvs)) k h = if keyS k then optO ((getK kvs k).map .d) h else .bad := (rfl)
def lenC (o : Option Cell) (h : Hs) : Out Vl := match o with
  | some (.lst vs) => .ok (.d (.int vs.length)) h
  | some (.dic kvs) => .ok (.d (.int kvs.length)) h
  | _ => .bad
@[simp] theorem lenC_r : pr .len [.r n] h = lenC h[n]? h := by
  unfold lenC
  simp only [pr, kview, sview]
  cases h[n]? with
  | none => rfl
  | some c => cases c <;> rfl
@[simp] theorem lenC_lst : lenC (some (.lst vs)) h = .ok (.d (.int vs.length)) h := (rfl)
@[simp] theorem lenC_dic {kvs : List (D × D)} : lenC (some (.dic kvs)) h = .ok (.d (.int kvs.length)) h := (rfl)
end
theorem allD_map' {α : Type} (xs : List α) (g : α → D) : allD (xs.map fun x => Vl.d (g x)) = some (xs.map g) := by
  induction xs with
  | nil => rfl
  | cons x r ih => simp [ih]
@[simp] theorem allD_map1 {α : Type} (xs : List α) (g : α → D) : allD (xs.map fun x => Vl.d (g x)) = some (xs.map g) := allD_map' xs g
@[simp] theorem allD_map3 {α : Type} (xs : List α) (g : α → D) : allD (xs.map (Vl.d ∘ g)) = some (xs.map g) := allD_map' xs g
@[simp] theorem allD_map2 (xs : List D) : allD (xs.map Vl.d) = some xs := allD_map xs
theorem limL {n : Nat} (h : n ≤ 1000) : n < LIM := Nat.lt_of_le_of_lt h (by decide)
theorem limE {n : Nat} (h : n ≤ 1000) : n ≤ LIM := Nat.le_of_lt (limL h)
@[simp] theorem lim0 : 0 ≤ LIM := Nat.zero_le _
@[simp] theorem lim00 : 0 < LIM := limL (by decide)
@[simp] theorem lim1 : 1 ≤ LIM := limE (by decide)
@[simp] theorem lim2 : 2 ≤ LIM := limE (by decide)
@[simp] theorem lim3 : 3 ≤ LIM := limE (by decide)
@[simp] theorem lim4 : 4 ≤ LIM := limE (by decide)
@[simp] theorem lim5 : 5 ≤ LIM := limE (by decide)
@[simp] theorem eqV_II (a b : Int) (h : Hs) : eqV (.d (.int a)) (.d (.int b)) h = some (a == b) := by rw [eqV_d (by simp [dep]) (by simp [dep]), eqvD]
theorem allB_map {α : Type} (xs : List α) (g : α → Bool) : allB (xs.map fun x => Vl.d (.bl (g x))) = some (xs.map g) := by
  induction xs with
  | nil => rfl
  | cons x r ih => simp [allB, ih]
@[simp] theorem p_allM {α : Type} {xs : List α} {g : α → Bool} {h : Hs} : pr .all [.d (.lst (xs.map fun x => .bl (g x)))] h = .ok (.d (.bl (xs.all g))) h := by
  rw [p_allL, List.map_map]
  have := allB_map xs g
  simp only [Function.comp_def]
  rw [this]
  simp [List.all_map, Function.comp_def]
@[simp] theorem p_anyM {α : Type} {xs : List α} {g : α → Bool} {h : Hs} : pr .any [.d (.lst (xs.map fun x => .bl (g x)))] h = .ok (.d (.bl (xs.any g))) h := by
  rw [p_anyL, List.map_map]
  have := allB_map xs g
  simp only [Function.comp_def]
  rw [this]
  simp [List.any_map, Function.comp_def]
theorem allD_append : ∀ {vs us : List Vl}, allD (vs ++ us) = (allD vs).bind fun a => (allD us).map (a ++ ·)
  | [], us => by cases q : allD us <;> simp [q]
  | .r n :: r, us => rfl
  | .d x :: r, us => by
    rw [List.cons_append, allD_cons, allD_append, allD_cons]
    cases allD r <;> cases allD us <;> rfl
@[simp] theorem allD_app {vs us : List Vl} : allD (vs ++ us) = (allD vs).bind fun a => (allD us).map (a ++ ·) := allD_append
@[simp] theorem mkLF_any {vs : List Vl} {h : Hs} : mkL false vs h = match allD vs with
    | some ds => if ds.length ≤ LIM then .ok (.d (.lst ds)) h else .bad
    | none => .bad := by
  cases q : allD vs with
  | none => simp [mkL, q]
  | some ds => simp [mkL, q, allD_len q]
section
variable {h : Hs} {n m' : Nat} {i j : Int} {vs us : List Vl} {xs ys : List D} {m : Bool}
def lvC : Option Cell → Option (List Vl)
  | some (.lst xs) => some xs
  | _ => none
@[simp] theorem lvC_some : lvC (some (.lst vs)) = some vs := (rfl)
@[simp] theorem lview_r : lview (.r n) h = lvC h[n]? := by
  unfold lview lvC
  dsimp only
  all_goals
    cases h[n]? with
    | none => rfl
    | some c => cases c <;> rfl
@[simp] theorem lview_d : lview (.d (.lst xs)) h = some (xs.map .d) := (rfl)
@[simp] theorem sview_r : sview (.r n) h = lvC h[n]? := by
  unfold sview lvC
  dsimp only
  all_goals
    cases h[n]? with
    | none => rfl
    | some c => cases c <;> rfl
@[simp] theorem p_tuple_r : pr .tuple [.r n] h = match (lvC h[n]?).bind allD with
      | some ds => .ok (.d (.tup ds)) h
      | none => .bad := by
  rw [← sview_r]
  rfl
@[simp] theorem k_cat_r {y : Vl} : mk m .cat [.r n, y] h = match lvC h[n]?, lview y h with
      | some xs, some ys => mkL m (xs ++ ys) h
      | _, _ => .bad := by
  rw [← lview_r]
  rfl
@[simp] theorem k_cat_dr : mk m .cat [.d (.lst xs), .r n] h = match lvC h[n]? with
      | some ys => mkL m (xs.map .d ++ ys) h
      | _ => .bad := by
  rw [← lview_r]
  simp only [mk, lview_d]
  cases lview (.r n) h <;> rfl
@[simp] theorem k_list_r : mk m .list [.r n] h = match lvC h[n]? with
      | some vs => mkL m vs h
      | none => .bad := by
  rw [← sview_r]
  rfl
@[simp] theorem k_slL_r : mk m .slL [.r n, .d (.int i)] h = match lvC h[n]? with
      | some vs => mkL m (cutD vs (slOf vs.length i) vs.length) h
      | none => .bad := by
  rw [← lview_r]
  rfl
@[simp] theorem k_slU_r : mk m .slU [.r n, .d (.int i)] h = match lvC h[n]? with
      | some vs => mkL m (cutD vs 0 (slOf vs.length i)) h
      | none => .bad := by
  rw [← lview_r]
  rfl
@[simp] theorem k_slLU_r : mk m .slLU [.r n, .d (.int i), .d (.int j)] h = match lvC h[n]? with
      | some vs => mkL m (cutD vs (slOf vs.length i) (slOf vs.length j)) h
      | none => .bad := by
  rw [← lview_r]
  rfl
def isLstC : Option Cell → Bool
  | some (.lst _) => true
  | _ => false
@[simp] theorem isLst_r : isLst (.r n) h = isLstC h[n]? := by
  unfold isLst isLstC
  dsimp only
  all_goals
    cases h[n]? with
    | none => rfl
    | some c => cases c <;> rfl
@[simp] theorem isLstC_some : isLstC (some (.lst vs)) = true := (rfl)
def appC (o : Option Cell) (n : Nat) (v : Vl) (e : Env) (h : Hs) : Out Fl := match o with
  | some (.lst vs) => if vs.length < LIM then .ok (.nx e) (h.set n (.lst (vs ++ [v]))) else .bad
  | _ => .bad
@[simp] theorem appV_r {v : Vl} {e : Env} : appV (.r n) v e h = appC h[n]? n v e h := by
  unfold appV appC
  rfl
@[simp] theorem appC_some {v : Vl} {e : Env} : appC (some (.lst vs)) n v e h = if vs.length < LIM then .ok (.nx e) (h.set n (.lst (vs ++ [v]))) else .bad := (rfl)
def eqC (o : Option Cell) (y : D) : Option Bool := match o with
  | some (.lst vs) => (allD vs).map fun ds => eqvD (.lst ds) y
  | _ => none
theorem eqV_rnil (e : h[n]? = some (.lst vs)) (d : allD vs = some xs) : eqV (.r n) (.d (.lst [])) h = some xs.isEmpty := by
  unfold eqV
  simp only [snap, e, d, Option.map_some]
  cases xs <;> rfl
end
@[simp] theorem eqV_SS (a b : Str) (h : Hs) : eqV (.d (.str a)) (.d (.str b)) h = some (a == b) := (rfl)
end L3
/-! L3 library: the pen; what is drawn is in its range, nothing else is known. -/
namespace L3
open PySem

/-- a pen whose index is at most b -/
def PenC (b : Int) (c : Cell) : Prop := ∃ (cs : List Int) (i v : Int), c = .lst [.d (.lst (cs.map .int)), .d (.int i), .d (.int v)] ∧ 0 ≤ i ∧ i ≤ b ∧ cs.length ≤ 60
theorem PenC.flat {b : Int} {c : Cell} (p : PenC b c) : flatC c = true := by
  obtain ⟨cs, i, v, rfl, _⟩ := p
  rfl
theorem PenC.low {b : Int} {c : Cell} (p : PenC b c) (n : Nat) : lowC n c = true := flat_low n p.flat
theorem PenC.le {b b' : Int} {c : Cell} (p : PenC b c) (h : b ≤ b') : PenC b' c := by
  obtain ⟨cs, i, v, e, h1, h2, h3⟩ := p
  exact ⟨cs, i, v, e, h1, by omega, h3⟩
namespace Lb
def pen : List Sm := [
  .ret (.mk true .lst [(.mk false .list [(.mk false .slU [(.var 0), (.cst (.int 60))])]), (.cst (.int 0)), (.cst (.int 0))])]
def next : List Sm := [
  .asg (.nm 1) (.prim .item [(.var 0), (.cst (.int 1))]),
  .sub (.var 0) (.cst (.int 1)) (.prim .add [(.var 1), (.cst (.int 1))]),
  .asg (.nm 2) (.prim .add [(.prim .mul [(.var 1), (.cst (.int 1069))]), (.cst (.int 61))]),
  .ite (.prim .ne [(.prim .item [(.var 0), (.cst (.int 0))]), (.mk false .lst [])]) [.asg (.nm 2) (.prim .item [(.prim .item [(.var 0), (.cst (.int 0))]), (.prim .mod [(.prim .int [(.var 1)]), (.prim .len [(.prim .item [(.var 0), (.cst (.int 0))])])])])] [],
  .ite (.and (.prim .lt [(.var 1), (.prim .len [(.prim .item [(.var 0), (.cst (.int 0))])])]) (.prim .ge [(.var 2), (.prim .pow [(.cst (.int 10)), (.cst (.int 18))])])) [.ret (.var 2)] [],
  .asg (.nm 3) (.prim .mod [(.prim .int [(.prim .add [(.prim .add [(.prim .mod [(.prim .int [(.var 2)]), (.cst (.int 2147483587))]), (.prim .mul [(.var 1), (.cst (.int 30119))])]), (.cst (.int 89))])]), (.cst (.int 2147483587))]),
  .asg (.nm 4) (.prim .mod [(.prim .int [(.prim .add [(.prim .add [(.prim .mul [(.var 3), (.var 3)]), (.prim .mul [(.var 1), (.cst (.int 70061))])]), (.cst (.int 71))])]), (.cst (.int 2147483563))]),
  .asg (.nm 5) (.prim .mod [(.prim .int [(.prim .add [(.prim .add [(.prim .mul [(.var 4), (.var 4)]), (.var 3)]), (.prim .mul [(.prim .mul [(.var 1), (.var 1)]), (.cst (.int 47))])])]), (.cst (.int 2147483549))]),
  .ret (.prim .add [(.prim .mul [(.prim .add [(.prim .mul [(.var 5), (.cst (.int 2147483587))]), (.var 4)]), (.cst (.int 2147483563))]), (.var 3)])]
def draw (iN : Nat) : List Sm := [
  .ite (.prim .lt [(.prim .item [(.var 0), (.cst (.int 2))]), (.var 1)]) [.sub (.var 0) (.cst (.int 2)) (.call iN [(.var 0)])] [],
  .asg (.nm 2) (.prim .mod [(.prim .int [(.prim .item [(.var 0), (.cst (.int 2))])]), (.var 1)]),
  .sub (.var 0) (.cst (.int 2)) (.prim .fdiv [(.prim .item [(.var 0), (.cst (.int 2))]), (.var 1)]),
  .ret (.var 2)]
end Lb
theorem small_m {a b : Int} (h : 0 < b) (hb : b < 18446744073709551616) : smallI (a % b) = true := by
  unfold smallI
  have h1 := Int.emod_nonneg a (Int.ne_of_gt h)
  have h2 := Int.emod_lt_of_pos a h
  simp only [Bool.and_eq_true, decide_eq_true_eq]
  omega
theorem small_r {a : Int} (h : 0 ≤ a) (hb : a < 18446744073709551616) : smallI a = true := by
  unfold smallI
  simp only [Bool.and_eq_true, decide_eq_true_eq]
  omega
theorem get_set_self {h : Hs} {p : Nat} {c d : Cell} (e : h[p]? = some d) : (h.set p c)[p]? = some c := List.getElem?_set_self (List.getElem?_eq_some_iff.mp e).1
theorem dep_ints (n : Nat) (cs : List Int) : dep (n + 1) (.lst (cs.map .int)) = true := by
  rw [dep]
  exact deps_map cs fun x _ => by cases n <;> rw [dep]
theorem take_set {h : Hs} {p : Nat} {c : Cell} : (h.set p c).take h.length = h.set p c := List.take_of_length_le (by simp)
section
variable {F : Fun}
theorem next_wp {iN : Nat} (hN : F iN = run F 6 Lb.next) {h : Hs} {p : Nat} {cs : List Int} {i v b : Int} (hc : h[p]? = some (.lst [.d (.lst (cs.map .int)), .d (.int i), .d (.int v)])) (h0 : 0 ≤ i) (hi : i < 1000000000) (w : wfH h = true) :
    Wp (F iN [.r p] h) (fun a k => ∃ x : Int, a = .d (.int x) ∧ k = h.set p (.lst [.d (.lst (cs.map .int)), .d (.int (i + 1)), .d (.int v)])) NoX := by
  rw [hN]
  have wf : lo h.length (h.set p (.lst [.d (.lst (cs.map .int)), .d (.int (i + 1)), .d (.int v)])) = true := lo_set (lo_self w) rfl
  have e1 := fun c => get_set_self (c := c) hc
  have si : smallI i = true := small_r h0 (by omega)
  have s1 : smallI 1069 = true := by decide
  have s2 : smallI 30119 = true := by decide
  have s3 : smallI 70061 = true := by decide
  have s4 : smallI 47 = true := by decide
  have s5 : smallI 2147483587 = true := by decide
  have s6 : smallI 2147483563 = true := by decide
  have s7 : smallI 10 = true := by decide
  have m1 : ∀ a : Int, smallI (a % 2147483587) = true := fun a => small_m (by decide) (by decide)
  have m2 : ∀ a : Int, smallI (a % 2147483563) = true := fun a => small_m (by decide) (by decide)
  cases cs with
  | nil =>
    have hge : ¬ i < 0 := by omega
    have q0 : eqV (.d (.lst [])) (.d (.lst [])) = fun _ : Hs => some true := by funext h; rfl
    rw [wp_run]
    simp only [List.map_nil] at wf hc ⊢
    simp -implicitDefEqProofs [Lb.next, setV, hc, e1, ixOf, q0, hge, si, s1, s2, s3, s4, s5, s6, s7, m1, m2, wp_done_d, take_set, wf]
  | cons c r =>
    have hl0 : (0 : Int) < (r.length : Int) + 1 := by omega
    have q1 : 0 ≤ i % ((r.length : Int) + 1) := Int.emod_nonneg _ (by omega)
    have q2 : i % ((r.length : Int) + 1) < (r.length : Int) + 1 := Int.emod_lt_of_pos _ hl0
    have q0 : ∀ h : Hs, eqV (.d (.lst ((c :: r).map .int))) (.d (.lst [])) h = some false := by intro h; rfl
    obtain ⟨y, hy⟩ : ∃ y, atI (c :: r) (i % ((r.length : Int) + 1)) = some y := by
      rw [atI_nat q1 (by rw [List.length_cons]; omega)]
      exact ⟨_, List.getElem?_eq_getElem (by rw [List.length_cons]; omega)⟩
    have hy2 : atI ((c :: r).map D.int) (i % ((r.length : Int) + 1)) = some (.int y) := by rw [atI_map, hy]; rfl
    rw [wp_run]
    simp only [List.map_cons] at wf hc hy2 q0 e1 ⊢
    by_cases hb1 : i < (r.length : Int) + 1
    · by_cases hb2 : 1000000000000000000 ≤ y
      · simp [Lb.next, setV, hc, e1, ixOf, q0, hl0, hy2, si, s1, s2, s3, s4, s5, s6, s7, m1, m2, wp_done_d, take_set, wf, hb1, hb2]
      · simp [Lb.next, setV, hc, e1, ixOf, q0, hl0, hy2, si, s1, s2, s3, s4, s5, s6, s7, m1, m2, wp_done_d, take_set, wf, hb1, hb2]
    · simp [Lb.next, setV, hc, e1, ixOf, q0, hl0, hy2, si, s1, s2, s3, s4, s5, s6, s7, m1, m2, wp_done_d, take_set, wf, hb1]
theorem draw_wp {iN iD : Nat} (hN : F iN = run F 6 Lb.next) (hD : F iD = run F 3 (Lb.draw iN)) {h : Hs} {p : Nat} {c : Cell} {b u : Int} {Q : Vl → Hs → Prop} {E : D → Hs → Prop} (hc : h[p]? = some c) (pc : PenC b c) (hb : b < 1000000000) (w : wfH h = true) (hu0 : 0 < u) (hu1 : u < 1073741824)
    (k : ∀ d c', 0 ≤ d → d < u → PenC (b + 1) c' → Q (.d (.int d)) (h.set p c')) : Wp (F iD [.r p, .d (.int u)] h) Q E := by
  obtain ⟨cs, i, v, rfl, h0, h1, h2⟩ := pc
  rw [hD, wp_run]
  have fin : ∀ (i2 v2 d : Int), 0 ≤ i2 → i2 ≤ b + 1 → 0 ≤ d → d < u → (lo h.length (h.set p (.lst [.d (.lst (cs.map .int)), .d (.int i2), .d (.int v2)])) = true ∧ Q (.d (.int d)) (h.set p (.lst [.d (.lst (cs.map .int)), .d (.int i2), .d (.int v2)]))) := fun i2 v2 d z1 z2 z3 z4 => ⟨lo_set (lo_self w) rfl, k d _ z3 z4 ⟨cs, i2, v2, rfl, z1, z2, h2⟩⟩
  have e1 := fun c => get_set_self (c := c) hc
  have md := fun a => And.intro (Int.emod_nonneg a (Int.ne_of_gt hu0)) (Int.emod_lt_of_pos a hu0)
  by_cases hv : v < u
  · have nx := (next_wp (b := b) hN hc h0 (by omega) w)
    simp -implicitDefEqProofs [Lb.draw, hc, hv]
    refine (nx.imp ?_ fun _ _ z => z.elim)
    rintro a k ⟨x, rfl, rfl⟩
    simp -implicitDefEqProofs [setV, hc, e1, ixOf, hu0, hu1, wp_done_d, take_set]
    exact fin (i + 1) _ _ (by omega) (by omega) (md x).1 (md x).2
  · simp [Lb.draw, hc, hv, setV, hc, e1, ixOf, hu0, hu1, wp_done_d, take_set]
    exact fin i _ _ (by omega) (by omega) (md v).1 (md v).2
end
end L3
/-! L3 library: integers, worths, contents, steps, plans. -/
namespace L3
open PySem

namespace Lb
def is_integer : List Sm := [
  .ret (.and (.prim (.isi .int) [(.var 0)]) (.not (.prim (.isi .bool) [(.var 0)])))]
def is_below (i0 : Nat) : List Sm := [
  .ret (.and (.call i0 [(.var 0)]) (.chain .le .lt (.cst (.int 0)) (.var 0) (.var 1)))]
def are_worths (i1 : Nat) : List Sm := [
  .ret (.and (.prim (.isi .tuple) [(.var 0)]) (.and (.prim .ne [(.var 0), (.prim .tup [])]) (.prim .all [(.comp false (.call i1 [(.var 1), (.glb "WORTHS" (.int 8))]) (.nm 1) .seq [(.var 0)] [])])))]
def is_content (iw : Nat) : List Sm := [
  .ret (.and (.call iw [(.var 0)]) (.prim .le [(.prim .len [(.var 0)]), (.glb "MAX_CELLS" (.int 24))]))]
def is_step (ib iw : Nat) : List Sm := [
  .ite (.prim .is_ [(.var 1), (.cst .non)]) [.ret (.cst (.bl true))] [],
  .ite (.or (.not (.prim (.isi .tuple) [(.var 1)])) (.or (.prim .ne [(.prim .len [(.var 1)]), (.cst (.int 2))]) (.or (.not (.call ib [(.prim .item [(.var 1), (.cst (.int 0))]), (.var 0)])) (.not (.call iw [(.prim .item [(.var 1), (.cst (.int 1))])]))))) [.ret (.cst (.bl false))] [],
  .ret (.prim .le [(.prim .add [(.prim .item [(.var 1), (.cst (.int 0))]), (.prim .len [(.prim .item [(.var 1), (.cst (.int 1))])])]), (.var 0)])]
end Lb
def noRo : D → Bool
  | .ro _ => false
  | _ => true
def noRos (xs : List D) : Bool := xs.all noRo
def isI : D → Bool
  | .int _ => true
  | _ => false
def isBelow (x : D) (n : Int) : Bool := match x with
  | .int i => decide (0 ≤ i) && decide (i < n)
  | _ => false
def areW (x : D) : Bool := match x with
  | .tup xs => !xs.isEmpty && xs.all fun y => isBelow y 8
  | _ => false
def isCont (x : D) : Bool := match x with
  | .tup xs => areW (.tup xs) && decide (xs.length ≤ 24)
  | _ => false
/-- a thing that may be looked at: one deep -/
def seen1 (x : D) : Bool := match x with
  | .ro _ => false
  | .tup xs => noRos xs && decide (xs.length ≤ LIM)
  | _ => true
def seen2 (x : D) : Bool := match x with
  | .ro _ => false
  | .tup xs => xs.all seen1 && decide (xs.length ≤ LIM)
  | _ => true
theorem seen1_noRo {x : D} (h : seen1 x = true) : noRo x = true := by cases x <;> first | rfl | cases h
def isStepD (n : Int) (x : D) : Bool := match x with
  | .non => true
  | .tup [a, b] => isBelow a n && (areW b && (match a, b with
    | .int f, .tup ws => decide (f + ws.length ≤ n)
    | _, _ => false))
  | _ => false
theorem eqV_tup_nil {xs : List D} {h : Hs} : eqV (.d (.tup xs)) (.d (.tup [])) h = some xs.isEmpty := by
  unfold eqV
  cases xs <;> rfl
section
variable {F : Fun}
/-- a comprehension whose turns are plain -/
theorem comp_plain {f : List Vl → Hs → Out (Option Vl)} {α : Type} {xs : List α} {r : α → List Vl} {g : α → Vl} {h : Hs} (hf : ∀ x ∈ xs, f (r x) h = .ok (some (g x)) h) : compL f (xs.map r) h = .ok (xs.map g) h := by
  induction xs with
  | nil => rfl
  | cons x xs ih =>
    rw [List.map_cons, compL, hf x List.mem_cons_self, bind_ok, ih fun y hy => hf y (List.mem_cons_of_mem _ hy), bind_ok]
    rfl
theorem comp_filter {f : List Vl → Hs → Out (Option Vl)} {α : Type} {xs : List α} {r : α → List Vl} {p : α → Bool} {g : α → Vl} {h : Hs} (hf : ∀ x ∈ xs, f (r x) h = .ok (if p x = true then some (g x) else none) h) : compL f (xs.map r) h = .ok ((xs.filter p).map g) h := by
  induction xs with
  | nil => rfl
  | cons x xs ih =>
    rw [List.map_cons, compL, hf x List.mem_cons_self, bind_ok, ih fun y hy => hf y (List.mem_cons_of_mem _ hy), bind_ok]
    by_cases q : p x = true
    · simp [q]
    · simp [q]
/-- [.. for ..] -/
theorem ev_map {x : Ex} {t : Tn} {k : ItK} {its cs : List Ex} {e : Env} {h : Hs} {α : Type} {xs : List α} {r : α → List Vl} (g : α → D) (hrows : rowsM F k its e h = .ok (xs.map r) h) (hl : xs.length ≤ LIM) (hf : ∀ y ∈ xs, turnM F x t cs e (r y) h = .ok (some (.d (g y))) h) :
    ev F (.comp false x t k its cs) e h = .ok (.d (.lst (xs.map g))) h := by
  rw [x_comp, hrows, bind_ok, comp_plain (g := fun y => .d (g y)) hf]
  show mkL false (xs.map fun y => .d (g y)) h = _
  rw [mkL_eq (ds := xs.map g) (by simp), if_pos (by simpa using hl)]
theorem ev_filter {x : Ex} {t : Tn} {k : ItK} {its cs : List Ex} {e : Env} {h : Hs} {α : Type} {xs : List α} {r : α → List Vl} (p : α → Bool) (g : α → D) (hrows : rowsM F k its e h = .ok (xs.map r) h) (hl : xs.length ≤ LIM) (hf : ∀ y ∈ xs, turnM F x t cs e (r y) h = .ok (if p y = true then some (.d (g y)) else none) h) :
    ev F (.comp false x t k its cs) e h = .ok (.d (.lst ((xs.filter p).map g))) h := by
  rw [x_comp, hrows, bind_ok, comp_filter (p := p) (g := fun y => .d (g y)) hf]
  show mkL false ((xs.filter p).map fun y => .d (g y)) h = _
  rw [mkL_eq (ds := (xs.filter p).map g) (by simp), if_pos (by rw [List.length_map]; exact Nat.le_trans (List.length_filter_le _ _) hl)]
theorem rows_seqT {x : Ex} {e : Env} {h : Hs} {xs : List D} (hx : ev F x e h = .ok (.d (.tup xs)) h) : rowsM F .seq [x] e h = .ok (xs.map fun y => [.d y]) h := by simp [hx, rowsOf]
theorem rows_seqL {x : Ex} {e : Env} {h : Hs} {xs : List D} (hx : ev F x e h = .ok (.d (.lst xs)) h) : rowsM F .seq [x] e h = .ok (xs.map fun y => [.d y]) h := by simp [hx, rowsOf]
theorem eq_run {n : Nat} {b : List Sm} {as : List Vl} {h : Hs} {x : D} (w : wfH h = true) (k : execs F b (as.map some ++ List.replicate (n - as.length) none) h = .ok (.rt (.d x)) h) : run F n b as h = .ok (.d x) h := by
  refine eq_of_wp ?_
  rw [wp_run, k]
  simp -implicitDefEqProofs [wp_done_d, lo_self w]
theorem is_integer_eq {i : Nat} (hF : F i = run F 1 Lb.is_integer) {x : D} {h : Hs} (w : wfH h = true) (hx : noRo x = true) : F i [.d x] h = .ok (.d (.bl (isI x))) h := by
  rw [hF]
  refine eq_run w ?_
  cases x <;> first | (cases hx; done) | simp [Lb.is_integer, isTyV, isTy, isI]
theorem is_below_eq {i i0 : Nat} (h0 : F i0 = run F 1 Lb.is_integer) (hF : F i = run F 2 (Lb.is_below i0)) {x : D} {n : Int} {h : Hs} (w : wfH h = true) (hx : noRo x = true) : F i [.d x, .d (.int n)] h = .ok (.d (.bl (isBelow x n))) h := by
  rw [hF]
  refine eq_run w ?_
  have e0 := is_integer_eq h0 (x := x) w hx
  cases x <;> first | (cases hx; done) | simp [Lb.is_below, e0, isI, isBelow]
  rename_i i
  by_cases q : (0 : Int) ≤ i <;> simp [q]
theorem are_worths_eq {i i1 : Nat} (h1 : ∀ {x : D} {n : Int} {h : Hs}, wfH h = true → noRo x = true → F i1 [.d x, .d (.int n)] h = .ok (.d (.bl (isBelow x n))) h) (hF : F i = run F 2 (Lb.are_worths i1)) {x : D} {h : Hs} (w : wfH h = true) (hx : seen1 x = true) : F i [.d x] h = .ok (.d (.bl (areW x))) h := by
  rw [hF]
  refine eq_run w ?_
  cases x <;> first | (cases hx; done) | (simp [Lb.are_worths, isTyV, isTy, areW]; done) | skip
  rename_i xs
  simp only [seen1, Bool.and_eq_true, decide_eq_true_eq] at hx
  have hall := ev_map (F := F) (x := .call i1 [(.var 1), (.glb "WORTHS" (.int 8))]) (t := .nm 1) (k := .seq) (its := [(.var 0)]) (cs := []) (e := [some (.d (.tup xs)), none]) (h := h) (xs := xs) (r := fun x => [.d x]) (fun x => .bl (isBelow x 8)) (rows_seqT (by simp)) hx.2 fun x hx' => by
    have hn : noRo x = true := List.all_eq_true.mp hx.1 x hx'
    simp [h1 w hn]
  cases q : xs.isEmpty with
  | true => simp -implicitDefEqProofs [Lb.are_worths, eqV_tup_nil, areW, q]
  | false => simp -implicitDefEqProofs [Lb.are_worths, eqV_tup_nil, areW, hall, q]
theorem seen2_1 {x : D} (h : seen2 x = true) : seen1 x = true := by
  cases x <;> first | rfl | (cases h; done) | skip
  simp only [seen2, seen1, Bool.and_eq_true, decide_eq_true_eq, noRos] at h ⊢
  exact ⟨List.all_eq_true.mpr fun y hy => seen1_noRo (List.all_eq_true.mp h.1 y hy), h.2⟩
abbrev BelowEq (F : Fun) (i : Nat) : Prop := ∀ {x : D} {n : Int} {h : Hs}, wfH h = true → noRo x = true → F i [.d x, .d (.int n)] h = .ok (.d (.bl (isBelow x n))) h
abbrev WorthsEq (F : Fun) (i : Nat) : Prop := ∀ {x : D} {h : Hs}, wfH h = true → seen1 x = true → F i [.d x] h = .ok (.d (.bl (areW x))) h
theorem is_content_eq {i iw : Nat} (hw : WorthsEq F iw) (hF : F i = run F 1 (Lb.is_content iw)) {x : D} {h : Hs} (w : wfH h = true) (hx : seen1 x = true) : F i [.d x] h = .ok (.d (.bl (isCont x))) h := by
  rw [hF]
  refine eq_run w ?_
  have e0 := hw w hx
  cases x <;> first | (cases hx; done) | (simp [Lb.is_content, e0, areW, isCont]; done) | skip
  rename_i xs
  cases q : areW (.tup xs) with
  | false => simp [Lb.is_content, e0, isCont, q]
  | true =>
    have : (decide ((xs.length : Int) ≤ 24)) = decide (xs.length ≤ 24) := decide_eq_decide.mpr (by omega)
    simp -implicitDefEqProofs [Lb.is_content, e0, isCont, q]
    omega
theorem is_step_eq {i ib iw : Nat} (hb : BelowEq F ib) (hw : WorthsEq F iw) (hF : F i = run F 2 (Lb.is_step ib iw)) {x : D} {n : Int} {h : Hs} (w : wfH h = true) (hx : seen2 x = true) : F i [.d (.int n), .d x] h = .ok (.d (.bl (isStepD n x))) h := by
  rw [hF]
  refine eq_run w ?_
  have q48 : ∀ a b : Int, eqV (.d (.int a)) (.d (.int b)) h = some (a == b) := fun a b => by rw [eqV_d (by simp [dep]) (by simp [dep]), eqvD]
  cases x with
  | tup xs =>
    simp only [seen2, Bool.and_eq_true, decide_eq_true_eq] at hx
    rcases xs with _ | ⟨a, _ | ⟨b, _ | ⟨c, r⟩⟩⟩
    · simp [Lb.is_step, q48, isStepD]
    · simp [Lb.is_step, q48, isStepD]
    · have ha := List.all_eq_true.mp hx.1 a (by simp)
      have hb' := List.all_eq_true.mp hx.1 b (by simp)
      have e1 := hb (n := n) w (seen1_noRo ha)
      have e2 := hw w hb'
      cases q1 : isBelow a n with
      | false => simp [Lb.is_step, q48, isStepD, e1, e2, q1]
      | true =>
        cases q2 : areW b with
        | false => simp [Lb.is_step, q48, isStepD, e1, e2, q1, q2]
        | true =>
          cases a <;> first | (cases q1; done) | skip
          cases b <;> first | (cases q2; done) | skip
          simp -implicitDefEqProofs [Lb.is_step, q48, isStepD, e1, e2, q1, q2]
    · have : ¬ ((r.length : Int) + 1 + 1 + 1 = 2) := by omega
      simp -implicitDefEqProofs [Lb.is_step, q48, isStepD, this]
  | ro _ => cases hx
  | _ => simp [Lb.is_step, isStepD, isTyV, isTy]
/-! ### the pieces of a write -/
end
namespace Lb
def broken : List Sm := [
  .asg (.tup [3, 4]) (.var 1),
  .asg (.nm 5) (.mk true .lst []),
  .asg (.nm 6) (.cst (.int 0)),
  .for_ (.nm 7) .rng [(.cst (.int 1)), (.prim .add [(.prim .len [(.var 4)]), (.cst (.int 1))])] [.ite (.or (.prim .eq [(.var 7), (.prim .len [(.var 4)])]) (.prim .eq [(.prim .mod [(.prim .add [(.var 3), (.var 7)]), (.var 2)]), (.cst (.int 0))])) [.app (.var 5) (.prim .tup [(.var 0), (.prim .add [(.var 3), (.var 6)]), (.prim .slLU [(.var 4), (.var 6), (.var 7)])]), .asg (.nm 6) (.var 7)] []],
  .ret (.frz (.var 5))]
def pieces_of (ib : Nat) : List Sm := [
  .asg (.nm 2) (.mk true .lst []),
  .for_ (.tup [3, 4]) .enum [(.var 0)] [.ite (.prim .isnot [(.var 4), (.cst .non)]) [.ext (.var 2) (.call ib [(.var 3), (.var 4), (.var 1)])] []],
  .ret (.frz (.var 2))]
end Lb
section
variable {F : Fun}
abbrev Part := Int × Int × List Int
def intsD (xs : List Int) : D := .tup (xs.map .int)
def partD (p : Part) : D := .tup [.int p.1, .int p.2.1, intsD p.2.2]
abbrev Stp := Option (Int × List Int)
def stepD : Stp → D
  | none => .non
  | some (f, ws) => .tup [.int f, intsD ws]
def brkSt (ix f : Int) (ws : List Int) (w : Int) (s : List Part × Nat) (k : Nat) : List Part × Nat :=
  if k + 1 = ws.length ∨ (f + (k + 1 : Nat)) % w = 0 then (s.1 ++ [(ix, f + s.2, cutD ws s.2 (k + 1))], k + 1) else s
def brk (ix f : Int) (ws : List Int) (w : Int) : List Part := ((List.range ws.length).foldl (brkSt ix f ws w) ([], 0)).1
theorem brk_st (ix f : Int) (ws : List Int) (w : Int) : ∀ (ks : List Nat) (s : List Part × Nat), s.2 ≤ ws.length → (∀ k ∈ ks, k < ws.length) → (ks.foldl (brkSt ix f ws w) s).2 ≤ ws.length ∧ (ks.foldl (brkSt ix f ws w) s).1.length ≤ s.1.length + ks.length
  | [], s, h, _ => ⟨h, by simp⟩
  | k :: ks, s, h, hk => by
    have hk0 := hk k List.mem_cons_self
    have q : (brkSt ix f ws w s k).2 ≤ ws.length ∧ (brkSt ix f ws w s k).1.length ≤ s.1.length + 1 := by
      unfold brkSt
      split
      · exact ⟨by omega, by simp⟩
      · exact ⟨h, by omega⟩
    have := brk_st ix f ws w ks _ q.1 fun k' h' => hk k' (List.mem_cons_of_mem _ h')
    rw [List.foldl_cons, List.length_cons]
    exact ⟨this.1, by omega⟩
theorem brk_len (ix f : Int) (ws : List Int) (w : Int) : (brk ix f ws w).length ≤ ws.length := by
  have := (brk_st ix f ws w (List.range ws.length) ([], 0) (Nat.zero_le _) fun k hk => List.mem_range.mp hk).2
  simp only [List.length_nil, List.length_range, Nat.zero_add] at this
  exact this
theorem slOf_nat (n k : Nat) : slOf n (k : Int) = min k n := by
  unfold slOf
  rw [if_pos (by omega)]
  simp
theorem slOf_nn {n : Nat} {i : Int} (h : 0 ≤ i) : slOf n i = min i.toNat n := by
  unfold slOf
  rw [if_pos h]
theorem bigR_nat {i : Int} (h0 : -1000000000000 ≤ i) (h : i ≤ 1000000000000) : bigR i = true := by
  unfold bigR
  rw [Bool.and_eq_true, decide_eq_true_eq, decide_eq_true_eq]
  omega
theorem rowsOf_rng1 {j : Int} (hj : bigR j = true) : rowsOf .rng [.d (.int j)] = some ((List.range j.toNat).map fun (k : Nat) => [.d (.int (k : Int))]) := by
  simp only [rowsOf, hj, if_true]
  rw [rngI, List.map_map]
  simp
theorem rowsOf_rng2 {i j : Int} (hi : bigR i = true) (hj : bigR j = true) : rowsOf .rng [.d (.int i), .d (.int j)] = some ((List.range (j - i).toNat).map fun (k : Nat) => [.d (.int (i + (k : Int)))]) := by
  simp only [rowsOf, hi, hj, Bool.and_self, if_true]
  rw [rngI, List.map_map]
  rfl
theorem rowsOf_1n {n : Nat} (hn : n ≤ 1000000) : rowsOf .rng [.d (.int 1), .d (.int ((n : Int) + 1))] = some ((List.range n).map fun k => [.d (.int (((k + 1 : Nat) : Int)))]) := by
  have e2 : ((n : Int) + 1 - 1).toNat = n := by omega
  rw [rowsOf_rng2 (bigR_nat (by omega) (by omega)) (bigR_nat (by omega) (by omega)), e2]
  congr 1
  refine List.map_congr_left fun k _ => ?_
  congr 3
  omega
theorem cutD_ints {ws : List Int} {a b : Nat} : cutD (ws.map D.int) a b = (cutD ws a b).map D.int := cutD_map
end
end L3
/-! L3 library: a plan is made. -/
namespace L3
open PySem
namespace Lb
def plan_init (ic ii is ip : Nat) : List Sm := [
  .ite (.or (.not (.call ic [(.var 1)])) (.or (.not (.call ii [(.var 2)])) (.not (.chain .le .le (.cst (.int 1)) (.var 2) (.glb "MAX_CELLS" (.int 24)))))) [.wall] [],
  .ite (.or (.not (.prim (.isi .list) [(.var 3)])) (.prim .gt [(.prim .len [(.var 3)]), (.glb "MAX_STEPS" (.int 40))])) [.wall] [],
  .ite (.not (.prim .all [(.comp false (.call is [(.prim .len [(.var 1)]), (.var 5)]) (.nm 5) .seq [(.var 3)] [])])) [.wall] [],
  .fld 0 0 "start" (.var 0) (.var 1),
  .fld 0 1 "span" (.var 0) (.var 2),
  .fld 0 2 "deeds" (.var 0) (.mk false .list [(.var 3)]),
  .fld 0 3 "parts" (.var 0) (.call ip [(.var 3), (.var 2)]),
  .ite (.prim .gt [(.prim .len [(.attr 0 3 "parts" (.var 0))]), (.glb "MAX_PIECES" (.int 40))]) [.wall] [],
  .fld 0 4 "ranks" (.var 0) (.comp false (.prim .count [(.mk false .slU [(.var 3), (.prim .item [(.var 4), (.cst (.int 0))])]), (.cst .non)]) (.nm 4) .seq [(.attr 0 3 "parts" (.var 0))] [])]
def plan_eq : List Sm := [
  .ite (.not (.prim (.isc [0]) [(.var 1)])) [.ret (.cst (.bl false))] [],
  .ret (.prim .eq [(.prim .tup [(.attr 0 0 "start" (.var 0)), (.attr 0 1 "span" (.var 0)), (.attr 0 2 "deeds" (.var 0))]), (.prim .tup [(.attr 0 0 "start" (.var 1)), (.attr 0 1 "span" (.var 1)), (.attr 0 2 "deeds" (.var 1))])])]
end Lb
section
variable {F : Fun}
theorem broken_eq {i : Nat} (hF : F i = run F 8 Lb.broken) {ix f w : Int} {ws : List Int} {h : Hs} (wf : wfH h = true) (hw : 0 < w) (hl : ws.length ≤ 1000) : F i [.d (.int ix), .d (stepD (some (f, ws))), .d (.int w)] h = .ok (.d (.lst ((brk ix f ws w).map partD))) h := by
  rw [hF]
  refine eq_of_wp ?_
  rw [wp_run]
  simp -implicitDefEqProofs [Lb.broken, stepD, intsD, y_for, rowsOf_1n (show ws.length ≤ 1000000 by omega)]
  refine for_inv (fun pre e h' => ∃ t, e = [some (.d (.int ix)), some (.d (stepD (some (f, ws)))), some (.d (.int w)), some (.d (.int f)), some (.d (intsD ws)), some (.r h.length), some (.d (.int (pre.foldl (brkSt ix f ws w) ([], 0)).2)), t] ∧ h' = h ++ [.lst ((pre.foldl (brkSt ix f ws w) ([], 0)).1.map fun p => .d (partD p))]) _ ⟨_, rfl, by simp⟩ ?_ ?_
  · rintro pre k post e h' hk ⟨t, rfl, rfl⟩
    have hmem : ∀ j ∈ pre ++ k :: post, j < ws.length := fun j hj => List.mem_range.mp (hk ▸ hj)
    have hlen : pre.length < ws.length := by
      have := congrArg List.length hk
      rw [List.length_range, List.length_append, List.length_cons] at this
      omega
    have hst := brk_st ix f ws w pre ([], 0) (Nat.zero_le _) fun j hj => hmem j (by simp [hj])
    have hk := hmem k (by simp)
    rw [List.foldl_append, List.foldl_cons, List.foldl_nil]
    generalize pre.foldl (brkSt ix f ws w) ([], 0) = s at hst
    simp only [List.length_nil, Nat.zero_add] at hst
    have m1 : min s.2 ws.length = s.2 := by omega
    have m2 : min (k + 1) ws.length = k + 1 := by omega
    have sl2 := slOf_nat ws.length (k + 1)
    rw [m2] at sl2
    simp only [Int.natCast_add, Int.cast_ofNat_Int] at sl2
    have l1 : s.1.length < LIM := limL (by omega)
    by_cases c1 : k + 1 = ws.length
    · have c1' : (k : Int) + 1 = ws.length := by omega
      simp -implicitDefEqProofs [c1', intsD, hw, isLst, appV, l1, slOf_nat, m1, brkSt, c1, partD, cutD_ints, stepD]
    · have c1' : ¬ (k : Int) + 1 = ws.length := by omega
      by_cases c2 : (f + ((k : Int) + 1)) % w = 0
      · simp -implicitDefEqProofs [c1', intsD, hw, isLst, appV, l1, slOf_nat, m1, sl2, brkSt, c1, c2, partD, cutD_ints, stepD]
      · simp -implicitDefEqProofs [c1', intsD, hw, isLst, appV, l1, slOf_nat, m1, sl2, brkSt, c1, c2, partD, cutD_ints, stepD]
  · rintro e h' ⟨t, rfl, rfl⟩
    simp -implicitDefEqProofs [brk, wp_done_d, lo_self wf]
/-! ### all pieces -/
theorem enum_rows {α : Type} (f : α → Vl) : ∀ (xs : List α) (n : Nat), enumFrom (n : Int) (xs.map f) = (xs.zipIdx n).map fun p => [.d (.int p.2), f p.1]
  | [], n => rfl
  | x :: xs, n => by
    rw [List.map_cons, enumFrom, List.zipIdx_cons, List.map_cons]
    have := enum_rows f xs (n + 1)
    simp only [Int.natCast_add, Int.cast_ofNat_Int] at this
    rw [this]
theorem rowsOf_enum {α : Type} (f : α → D) (xs : List α) : rowsOf .enum [.d (.lst (xs.map f))] = some (xs.zipIdx.map fun p => [.d (.int p.2), .d (f p.1)]) := by
  have := enum_rows (fun x => .d (f x)) xs 0
  simp only [rowsOf, List.map_map]
  rw [← this]
  rfl
def pcs1 (w : Int) (p : Stp × Nat) : List Part := match p.1 with
  | none => []
  | some (f, ws) => brk p.2 f ws w
theorem pcs1_none {w : Int} {n : Nat} : pcs1 w (none, n) = [] := (rfl)
theorem pcs1_some {w f : Int} {ws : List Int} {n : Nat} : pcs1 w (some (f, ws), n) = brk n f ws w := (rfl)
theorem sum_mem : ∀ {xs : List Nat} {x : Nat}, x ∈ xs → x ≤ xs.sum
  | y :: r, x, h => by
    rw [List.sum_cons]
    rcases List.mem_cons.mp h with e | h
    · omega
    · have := sum_mem h; omega
def pcs (steps : List Stp) (w : Int) : List Part := steps.zipIdx.flatMap (pcs1 w)
def wsLen : Stp → Nat
  | none => 0
  | some (_, ws) => ws.length
def total (steps : List Stp) : Nat := (steps.map wsLen).sum
theorem foldl_app {α β : Type} (g : α → List β) : ∀ (xs : List α) (acc : List β), xs.foldl (fun s x => s ++ g x) acc = acc ++ xs.flatMap g
  | [], acc => by simp
  | x :: xs, acc => by rw [List.foldl_cons, foldl_app g xs]; simp
theorem pcs_len_aux (w : Int) : ∀ (steps : List Stp) (n : Nat), ((steps.zipIdx n).flatMap (pcs1 w)).length ≤ total steps
  | [], n => by simp
  | s :: r, n => by
    have := pcs_len_aux w r (n + 1)
    rw [List.zipIdx_cons, List.flatMap_cons, List.length_append, total, List.map_cons, List.sum_cons]
    have q : (pcs1 w (s, n)).length ≤ wsLen s := by
      cases s with
      | none => exact Nat.le_refl _
      | some p => exact brk_len _ _ _ _
    unfold total at this
    omega
theorem pcs_len (steps : List Stp) (w : Int) : (pcs steps w).length ≤ total steps := pcs_len_aux w steps 0
theorem pieces_eq {i ib : Nat} (hb : ∀ {ix f w : Int} {ws : List Int} {h : Hs}, wfH h = true → 0 < w → ws.length ≤ 1000 → F ib [.d (.int ix), .d (stepD (some (f, ws))), .d (.int w)] h = .ok (.d (.lst ((brk ix f ws w).map partD))) h) (hF : F i = run F 5 (Lb.pieces_of ib)) {w : Int} {steps : List Stp} {h : Hs} (wf : wfH h = true) (hw : 0 < w) (hl : total steps ≤ 1000) :
    F i [.d (.lst (steps.map stepD)), .d (.int w)] h = .ok (.d (.lst ((pcs steps w).map partD))) h := by
  rw [hF]
  refine eq_of_wp ?_
  rw [wp_run]
  simp -implicitDefEqProofs [Lb.pieces_of, y_for, rowsOf_enum]
  refine for_inv (fun pre e h' => ∃ t u, e = [some (.d (.lst (steps.map stepD))), some (.d (.int w)), some (.r h.length), t, u] ∧ h' = h ++ [.lst ((pre.flatMap (pcs1 w)).map fun p => .d (partD p))]) _ ⟨_, _, rfl, by simp⟩ ?_ ?_
  · rintro pre ⟨s, n⟩ post e h' hx ⟨t, u, rfl, rfl⟩
    have hle : (pre.flatMap (pcs1 w)).length + (pcs1 w (s, n)).length ≤ 1000 := by
      have := pcs_len steps w
      unfold pcs at this
      rw [hx] at this
      simp only [List.flatMap_append, List.flatMap_cons, List.length_append] at this
      omega
    cases s with
    | none => simp -implicitDefEqProofs [stepD, pcs1_none]
    | some p =>
      obtain ⟨f, ws⟩ := p
      have hwl : ws.length ≤ 1000 := by
        have hm : some (f, ws) ∈ steps := by
          have : (some (f, ws), n) ∈ steps.zipIdx := by rw [hx]; simp
          exact (List.mem_zipIdx this).2.2 ▸ List.getElem_mem _
        have h1 : wsLen (some (f, ws)) ∈ steps.map wsLen := List.mem_map.mpr ⟨_, hm, rfl⟩
        have h2 := sum_mem h1
        unfold total at hl
        have : ws.length = wsLen (some (f, ws)) := rfl
        omega
      have wf1 : ∀ c : List D, wfH (h ++ [.lst (c.map .d)]) = true := fun c => wf_app wf (by simp [flatC])
      have hbe := hb (ix := n) (f := f) (w := w) (ws := ws) (wf_app (t := [.lst ((pre.flatMap (pcs1 w)).map fun p => .d (partD p))]) wf (by simp [flatC])) hw hwl
      rw [pcs1_some] at hle
      have hle' : (pre.flatMap (pcs1 w)).length + (brk n f ws w).length ≤ LIM := limE hle
      simp only [stepD] at hbe
      simp -implicitDefEqProofs [stepD, isLst, hbe, extV, lview, hle', pcs1_some, -List.length_flatMap]
  · rintro e h' ⟨t, u, rfl, rfl⟩
    simp -implicitDefEqProofs [pcs, wp_done_d, lo_self wf]
/-! ### a plan -/
structure PlanT where
  cells : List Int
  span : Int
  steps : List Stp
def PlanT.toD (t : PlanT) : D := .tup [intsD t.cells, .int t.span, .lst (t.steps.map stepD)]
def nones (steps : List Stp) : Nat := (steps.filter fun s => s.isNone).length
def rankOf (steps : List Stp) (p : Part) : Int := (nones (steps.take p.1.toNat) : Nat)
def PlanT.parts (t : PlanT) : List Part := pcs t.steps t.span
def PlanT.ranks (t : PlanT) : List Int := t.parts.map (rankOf t.steps)
def PlanT.flds (t : PlanT) : List D := [intsD t.cells, .int t.span, .lst (t.steps.map stepD), .lst (t.parts.map partD), .lst (t.ranks.map .int)]
def PlanT.obj (t : PlanT) : D := .ins 0 t.flds
/-- a worth -/
def worth (w : Int) : Prop := 0 ≤ w ∧ w < 8
def okStep (n : Nat) : Stp → Prop
  | none => True
  | some (f, ws) => 0 ≤ f ∧ ws ≠ [] ∧ f + ws.length ≤ n ∧ ∀ w ∈ ws, worth w
structure PlanT.ok (t : PlanT) : Prop where
  c0 : t.cells ≠ []
  c1 : t.cells.length ≤ 24
  cw : ∀ w ∈ t.cells, worth w
  s0 : 1 ≤ t.span
  s1 : t.span ≤ 24
  n1 : t.steps.length ≤ 40
  st : ∀ s ∈ t.steps, okStep t.cells.length s
  p1 : t.parts.length ≤ 40
theorem isBelow_int {i n : Int} : isBelow (.int i) n = (decide (0 ≤ i) && decide (i < n)) := rfl
theorem areW_ints {ws : List Int} (h0 : ws ≠ []) (h : ∀ w ∈ ws, worth w) : areW (intsD ws) = true := by
  unfold intsD areW
  rw [Bool.and_eq_true]
  constructor
  · cases ws with
    | nil => exact absurd rfl h0
    | cons a r => rfl
  · rw [List.all_map, List.all_eq_true]
    intro w hw
    have := h w hw
    simp only [Function.comp, isBelow_int, Bool.and_eq_true, decide_eq_true_eq]
    exact this
theorem isStepD_ok {n : Nat} {s : Stp} (h : okStep n s) : isStepD n (stepD s) = true := by
  cases s with
  | none => rfl
  | some p =>
    obtain ⟨f, ws⟩ := p
    obtain ⟨h0, h1, h2, h3⟩ := h
    have hw := areW_ints h1 h3
    have hl : 0 < ws.length := List.length_pos_iff.mpr h1
    have : isStepD n (stepD (some (f, ws))) = (isBelow (.int f) n && (areW (intsD ws) && decide (f + ((ws.map D.int).length : Nat) ≤ n))) := rfl
    rw [this, hw, isBelow_int, List.length_map]
    simp only [Bool.and_eq_true, decide_eq_true_eq, true_and]
    omega
theorem seen1_ints {ws : List Int} (h : ws.length ≤ 1000) : seen1 (intsD ws) = true := by
  unfold intsD seen1 noRos
  rw [Bool.and_eq_true, List.length_map]
  exact ⟨by rw [List.all_map, List.all_eq_true]; intro w _; rfl, decide_eq_true (limE h)⟩
theorem seen2_step {s : Stp} (h : wsLen s ≤ 1000) : seen2 (stepD s) = true := by
  cases s with
  | none => rfl
  | some p =>
    obtain ⟨f, ws⟩ := p
    have e : seen2 (stepD (some (f, ws))) = ((seen1 (.int f) && (seen1 (intsD ws) && true)) && decide (2 ≤ LIM)) := rfl
    rw [e, seen1_ints h, decide_eq_true lim2]
    rfl
theorem okStep_len {n : Nat} {s : Stp} (h : okStep n s) : wsLen s ≤ n := by
  cases s with
  | none => exact Nat.zero_le _
  | some p =>
    obtain ⟨h0, h1, h2, h3⟩ := h
    show p.2.length ≤ n
    omega
theorem isCont_ints {ws : List Int} (h0 : ws ≠ []) (h1 : ws.length ≤ 24) (h : ∀ w ∈ ws, worth w) : isCont (intsD ws) = true := by
  have : isCont (intsD ws) = (areW (intsD ws) && decide ((ws.map D.int).length ≤ 24)) := rfl
  rw [this, areW_ints h0 h, List.length_map, decide_eq_true h1]
  rfl
theorem total_le {n : Nat} : ∀ {steps : List Stp}, (∀ s ∈ steps, okStep n s) → total steps ≤ n * steps.length
  | [], _ => Nat.le_refl _
  | s :: r, h => by
    have h1 := okStep_len (h s List.mem_cons_self)
    have h2 := total_le fun x hx => h x (List.mem_cons_of_mem _ hx)
    unfold total at h2 ⊢
    rw [List.map_cons, List.sum_cons, List.length_cons, Nat.mul_succ]
    omega
theorem nones_filter (steps : List Stp) : ((steps.map stepD).filter fun z => eqvD z .non).length = nones steps := by
  unfold nones
  rw [List.filter_map, List.length_map]
  congr 2
  funext s
  cases s <;> simp [stepD, eqvD]
theorem dep_step {s : Stp} : dep 3 (stepD s) = true := by
  cases s with
  | none => simp [stepD, dep]
  | some p =>
    simp only [stepD, intsD, dep, deps, Bool.true_and, Bool.and_true]
    exact deps_map _ fun x _ => by rw [dep]
theorem rows_mapL {x : Ex} {e : Env} {h : Hs} {α : Type} {xs : List α} {f : α → D} (hx : ev F x e h = .ok (.d (.lst (xs.map f))) h) : rowsM F .seq [x] e h = .ok (xs.map fun y => [.d (f y)]) h := by
  rw [rows_seqL hx, List.map_map]
  rfl
theorem rows_mapT {x : Ex} {e : Env} {h : Hs} {α : Type} {xs : List α} {f : α → D} (hx : ev F x e h = .ok (.d (.tup (xs.map f))) h) : rowsM F .seq [x] e h = .ok (xs.map fun y => [.d (f y)]) h := by
  rw [rows_seqT hx, List.map_map]
  rfl
theorem lo_app1 {h : Hs} {c : Cell} (w : wfH h = true) (hc : flatC c = true) : lo (h.length + 1) (h ++ [c]) = true := by
  unfold lo
  rw [List.all_append, Bool.and_eq_true]
  exact ⟨all_mono (by omega) w, by simp [flat_low _ hc]⟩
@[simp] theorem take_app1 {h : Hs} {c : Cell} : (h ++ [c]).take (h.length + 1) = h ++ [c] := List.take_of_length_le (by simp)
abbrev ContEq (F : Fun) (i : Nat) : Prop := ∀ {x : D} {h : Hs}, wfH h = true → seen1 x = true → F i [.d x] h = .ok (.d (.bl (isCont x))) h
abbrev IntEq (F : Fun) (i : Nat) : Prop := ∀ {x : D} {h : Hs}, wfH h = true → noRo x = true → F i [.d x] h = .ok (.d (.bl (isI x))) h
abbrev StepEq (F : Fun) (i : Nat) : Prop := ∀ {x : D} {n : Int} {h : Hs}, wfH h = true → seen2 x = true → F i [.d (.int n), .d x] h = .ok (.d (.bl (isStepD n x))) h
abbrev PiecesEq (F : Fun) (i : Nat) : Prop := ∀ {w : Int} {steps : List Stp} {h : Hs}, wfH h = true → 0 < w → total steps ≤ 1000 → F i [.d (.lst (steps.map stepD)), .d (.int w)] h = .ok (.d (.lst ((pcs steps w).map partD))) h
theorem brk_ix (ix f : Int) (ws : List Int) (w : Int) : ∀ (ks : List Nat) (s : List Part × Nat), (∀ p ∈ s.1, p.1 = ix) → ∀ p ∈ (ks.foldl (brkSt ix f ws w) s).1, p.1 = ix
  | [], s, h => h
  | k :: ks, s, h => by
    rw [List.foldl_cons]
    refine brk_ix ix f ws w ks _ ?_
    unfold brkSt
    split
    · intro p hp
      rcases List.mem_append.mp hp with q | q
      · exact h p q
      · rw [List.mem_singleton.mp q]
    · exact h
theorem pcs_ix {steps : List Stp} {w : Int} {p : Part} (h : p ∈ pcs steps w) : 0 ≤ p.1 := by
  obtain ⟨⟨s, n⟩, _, hp⟩ := List.mem_flatMap.mp h
  cases s with
  | none => cases hp
  | some q =>
    have := brk_ix n q.1 q.2 w (List.range q.2.length) ([], 0) (by simp) p hp
    omega
mutual
theorem dep_le : ∀ {n m : Nat} {x : D}, n ≤ m → dep n x = true → dep m x = true
  | 0, 0, x, _, h => h
  | 0, m + 1, x, _, h => by cases x <;> first | (simp [dep] at h; done) | (simp_all [dep])
  | n + 1, 0, x, hl, h => by omega
  | n + 1, m + 1, x, hl, h => by
    cases x <;> first | (simp [dep] at h; done) | (simp only [dep] at h ⊢; exact deps_le (by omega) h) | (simp_all [dep])
theorem deps_le : ∀ {n m : Nat} {xs : List D}, n ≤ m → deps n xs = true → deps m xs = true
  | n, m, [], _, _ => by rw [deps]
  | n, m, x :: r, hl, h => by
    rw [deps, Bool.and_eq_true] at h ⊢
    exact ⟨dep_le hl h.1, deps_le hl h.2⟩
end
theorem dep_up {x : D} (h : dep 3 x = true) : dep 47 x = true := dep_le (by decide) h
theorem plan_init_eq {i ic ii is ip : Nat} (h1 : ContEq F ic) (h2 : IntEq F ii) (h3 : StepEq F is) (h4 : PiecesEq F ip) (hF : F i = run F 6 (Lb.plan_init ic ii is ip)) {t : PlanT} (ok : t.ok) {h : Hs} (wf : wfH h = true) :
    F i [.r h.length, .d (intsD t.cells), .d (.int t.span), .d (.lst (t.steps.map stepD))] (h ++ [.ins 0 []]) = .ok (.d .non) (h ++ [.ins 0 (t.flds.map .d)]) := by
  rw [hF]
  refine eq_of_wp ?_
  have w0 : ∀ fs : List D, wfH (h ++ [.ins 0 (fs.map .d)]) = true := fun fs => wf_app wf (by simp [flatC])
  have c1 := h1 (w0 []) (seen1_ints (ws := t.cells) (by have := ok.c1; omega))
  rw [isCont_ints ok.c0 ok.c1 ok.cw] at c1
  have c2 := h2 (x := .int t.span) (w0 []) rfl
  have s0 := ok.s0
  have s1 := ok.s1
  have n1 : ¬ (40 : Int) < t.steps.length := by have := ok.n1; omega
  have htot : total t.steps ≤ 1000 := by
    have q1 := total_le ok.st
    have q2 : t.cells.length * t.steps.length ≤ 24 * 40 := Nat.mul_le_mul ok.c1 ok.n1
    omega
  have c4 := fun fs => h4 (w := t.span) (steps := t.steps) (w0 fs) (by omega) htot
  have p1 : ¬ (40 : Int) < (pcs t.steps t.span).length := by have := ok.p1; unfold PlanT.parts at this; omega
  have hall := fun e (he : e = [some (.r h.length), some (.d (intsD t.cells)), some (.d (.int t.span)), some (.d (.lst (t.steps.map stepD))), none, none]) => ev_map (F := F) (x := .call is [(.prim .len [(.var 1)]), (.var 5)]) (t := .nm 5) (k := .seq) (its := [(.var 3)]) (cs := []) (e := e) (h := h ++ [.ins 0 ([].map .d)]) (xs := t.steps) (r := fun s => [.d (stepD s)]) (fun _ => .bl true) (rows_mapL (by simp [he])) (limE (by have := ok.n1; omega)) fun s hs => by
    have q := h3 (n := t.cells.length) (w0 []) (seen2_step (s := s) (by have := okStep_len (ok.st s hs); have := ok.c1; omega))
    rw [isStepD_ok (ok.st s hs)] at q
    subst he
    simp -implicitDefEqProofs [intsD] at q ⊢
    simp -implicitDefEqProofs [q]
  rw [wp_run]
  have hall2 := hall _ rfl
  simp only [List.map_nil] at c1 c2 hall2
  have e5 := fun h' (hh : h'[h.length]? = some (.ins 0 [.d (intsD t.cells), .d (.int t.span), .d (.lst (t.steps.map stepD)), .d (.lst ((pcs t.steps t.span).map partD))])) => ev_map (F := F) (x := .prim .count [(.mk false .slU [(.var 3), (.prim .item [(.var 4), (.cst (.int 0))])]), (.cst .non)]) (t := .nm 4) (k := .seq) (its := [.attr 0 3 "parts" (.var 0)]) (cs := []) (e := [some (.r h.length), some (.d (intsD t.cells)), some (.d (.int t.span)), some (.d (.lst (t.steps.map stepD))), none, none]) (h := h') (xs := t.parts) (r := fun p => [.d (partD p)]) (fun p => .int (rankOf t.steps p)) (rows_mapL (by simp [objOf, hh, PlanT.parts])) (limE (by have := ok.p1; omega)) fun p hp => by
    have hp0 := pcs_ix hp
    have hsl : slOf t.steps.length p.1 = min p.1.toNat t.steps.length := slOf_nn hp0
    have hd : ∀ xs : List Stp, dep 48 (.lst (xs.map stepD)) = true := fun xs => by
      rw [dep]
      exact deps_map _ fun x _ => dep_up dep_step
    have hcut : cutD (t.steps.map stepD) 0 (min p.1.toNat t.steps.length) = (t.steps.take p.1.toNat).map stepD := by
      unfold cutD
      rw [List.drop_zero, ← List.map_take]
      congr 1
      by_cases q : p.1.toNat ≤ t.steps.length
      · rw [Nat.min_eq_left q]
      · rw [Nat.min_eq_right (by omega), List.take_of_length_le (Nat.le_refl _), List.take_of_length_le (by omega)]
    have hl2 : min p.1.toNat t.steps.length ≤ LIM := limE (by have := ok.n1; omega)
    have hds := deps_ok (deps_map (n := 47) (f := stepD) (t.steps.take p.1.toNat) fun x _ => dep_up dep_step)
    have hds2 : depthDs ((t.steps.take p.1.toNat).map stepD) ≤ 48 := by omega
    have q1 : plainD .non = true := by simp [plainD]
    have q2 : depthD .non ≤ 48 := by simp [depthD]
    simp only [x_turn, nm_names, wipe_cons, wipe_nil, bind_nm, x_tests0, bind_ok, if_true, x_prim, x_cons, x_nil, x_mk, x_var, x_cst]
    simp -implicitDefEqProofs only [List.set_cons_succ, List.set_cons_zero, List.getElem?_cons_succ, List.getElem?_cons_zero, bind_ok, partD, p_itemT, atI_0, Option.map_some, optO_some, f_slU, List.length_map, hsl, hcut, List.length_take, if_pos hl2, p_count, q1, q2, hds.1, hds2, decide_true, Bool.and_self, if_true, nones_filter]
    rfl
  have nl : t.steps.length ≤ LIM := limE (by have := ok.n1; omega)
  have c5 := c4 [intsD t.cells, .int t.span, .lst (t.steps.map stepD)]
  have e6 := e5 (h ++ [.ins 0 [.d (intsD t.cells), .d (.int t.span), .d (.lst (t.steps.map stepD)), .d (.lst ((pcs t.steps t.span).map partD))]]) (by simp)
  simp only [List.map_cons, List.map_nil] at c5
  simp -implicitDefEqProofs [Lb.plan_init, hall2, c1, c2, s0, s1, n1, isI, fldV, wp_done_d, lo_app1 wf, flatC, nl, c5, objOf, p1, e6]
  simp [PlanT.flds, PlanT.ranks, PlanT.parts]
theorem dep_plan (t : PlanT) : dep 48 t.toD = true := by
  unfold PlanT.toD intsD
  simp only [dep, deps, Bool.true_and, Bool.and_true, Bool.and_eq_true]
  exact ⟨deps_map _ fun x _ => by rw [dep], deps_map _ fun x _ => dep_le (by decide) dep_step⟩
abbrev InitEq (F : Fun) (i : Nat) : Prop := ∀ {t : PlanT} {h : Hs}, t.ok → wfH h = true → F i [.r h.length, .d (intsD t.cells), .d (.int t.span), .d (.lst (t.steps.map stepD))] (h ++ [.ins 0 []]) = .ok (.d .non) (h ++ [.ins 0 (t.flds.map .d)])
/-- == of plans -/
theorem plan_eq_eq {i : Nat} (hF : F i = run F 2 Lb.plan_eq) {t u : PlanT} {h : Hs} (wf : wfH h = true) : F i [.d t.obj, .d u.obj] h = .ok (.d (.bl (eqvD t.toD u.toD))) h := by
  rw [hF]
  refine eq_run wf ?_
  have e := eqV_d (h := h) (dep_plan t) (dep_plan u)
  unfold PlanT.toD at e
  simp -implicitDefEqProofs [Lb.plan_eq, PlanT.obj, PlanT.flds, isCV, isCD, objOf, e, PlanT.toD]
/-- what is no instance -/
def noObj : D → Bool
  | .ins _ _ => false
  | .exc _ _ => false
  | .ro _ => false
  | _ => true
theorem plan_ne_eq {i : Nat} (hF : F i = run F 2 Lb.plan_eq) {t : PlanT} {x : D} (hx : noObj x = true) {h : Hs} (wf : wfH h = true) : F i [.d t.obj, .d x] h = .ok (.d (.bl false)) h := by
  rw [hF]
  refine eq_run wf ?_
  cases x <;> first | (cases hx; done) | simp -implicitDefEqProofs [Lb.plan_eq, isCV, isCD]
end
end L3
/-! L3 library: drawn plans. -/
namespace L3
open PySem
namespace Lb
def split : List Sm := [
  .asg (.tup [3, 4]) (.var 1),
  .par [5, 6] [(.mk true .lst []), (.mk true .lst [])],
  .for_ (.nm 7) .rng [(.prim .len [(.var 4)])] [.ite (.and (.prim .ne [(.var 6), (.mk false .lst [])]) (.prim .eq [(.prim .mod [(.prim .int [(.prim .add [(.var 3), (.var 7)])]), (.var 2)]), (.cst (.int 0))])) [.app (.var 5) (.prim .tup [(.var 0), (.prim .sub [(.prim .add [(.var 3), (.var 7)]), (.prim .len [(.var 6)])]), (.prim .tuple [(.var 6)])]), .asg (.nm 6) (.mk true .lst [])] [], .app (.var 6) (.prim .item [(.var 4), (.var 7)])],
  .ret (.mk false .cat [(.var 5), (.mk false .lst [(.prim .tup [(.var 0), (.prim .sub [(.prim .add [(.var 3), (.prim .len [(.var 4)])]), (.prim .len [(.var 6)])]), (.prim .tuple [(.var 6)])])])])]
def parts (iS : Nat) : List Sm := [
  .asg (.nm 1) (.mk false .lst []),
  .for_ (.nm 2) .rng [(.prim .len [(.prim .item [(.var 0), (.cst (.int 2))])])] [.ite (.prim .isnot [(.prim .item [(.prim .item [(.var 0), (.cst (.int 2))]), (.var 2)]), (.cst .non)]) [.asg (.nm 1) (.mk false .cat [(.var 1), (.call iS [(.var 2), (.prim .item [(.prim .item [(.var 0), (.cst (.int 2))]), (.var 2)]), (.prim .item [(.var 0), (.cst (.int 1))])])])] []],
  .ret (.var 1)]
def write (iD : Nat) : List Sm := [
  .asg (.nm 4) (.call iD [(.var 0), (.var 1)]),
  .asg (.nm 5) (.prim .min2 [(.var 3), (.prim .sub [(.var 1), (.var 4)])]),
  .ret (.prim .tup [(.var 4), (.prim .tuple [(.comp false (.call iD [(.var 0), (.var 2)]) (.nm 6) .rng [(.prim .add [(.cst (.int 1)), (.call iD [(.var 0), (.var 5)])])] [])])])]
def drawn (iD iW iP : Nat) : List Sm := [
  .asg (.nm 4) (.prim .tuple [(.comp false (.call iD [(.var 0), (.var 3)]) (.nm 8) .rng [(.var 1)] [])]),
  .asg (.nm 5) (.prim .tup [(.var 4), (.prim .add [(.cst (.int 1)), (.call iD [(.var 0), (.cst (.int 3))])]), (.mk false .lst [])]),
  .for_ (.nm 6) .rng [(.call iD [(.var 0), (.prim .add [(.var 2), (.cst (.int 1))])])] [.asg (.nm 7) (.mk false .cat [(.prim .item [(.var 5), (.cst (.int 2))]), (.mk false .lst [(.call iW [(.var 0), (.var 1), (.var 3), (.cst (.int 3))])])]), .ite (.prim .le [(.prim .len [(.call iP [(.prim .tup [(.var 4), (.prim .item [(.var 5), (.cst (.int 1))]), (.var 7)])])]), (.var 2)]) [.asg (.nm 5) (.prim .tup [(.var 4), (.prim .item [(.var 5), (.cst (.int 1))]), (.var 7)])] [], .ite (.prim .eq [(.call iD [(.var 0), (.cst (.int 3))]), (.cst (.int 0))]) [.asg (.nm 5) (.prim .tup [(.var 4), (.prim .item [(.var 5), (.cst (.int 1))]), (.mk false .cat [(.prim .item [(.var 5), (.cst (.int 2))]), (.mk false .lst [(.cst .non)])])])] []],
  .ret (.var 5)]
def log (iD : Nat) : List Sm := [
  .asg (.nm 2) (.prim .tup [(.call iD [(.var 0), (.var 1)]), (.call iD [(.var 0), (.var 1)])]),
  .asg (.nm 3) (.mk false .lst [(.prim .tup [(.cst (.int 0)), (.var 2)])]),
  .for_ (.nm 4) .seq [(.prim .tup [(.prim .tup [(.cst (.int 2)), (.prim .tup [(.cst (.int 1))])]), (.prim .tup [(.cst (.int 3)), (.var 2)]), (.prim .tup [(.cst (.int 2)), (.prim .tup [(.cst (.int 0))])])])] [.asg (.nm 3) (.mk false .cat [(.mk false .cat [(.var 3), (.mk false .mulL [(.mk false .lst [(.cst .non)]), (.prim .int [(.prim .gt [(.call iD [(.var 0), (.cst (.int 3))]), (.cst (.int 0))])])])]), (.mk false .lst [(.var 4)])])],
  .ret (.prim .tup [(.prim .tup [(.cst (.int 0)), (.cst (.int 0)), (.cst (.int 0)), (.call iD [(.var 0), (.var 1)]), (.call iD [(.var 0), (.var 1)])]), (.prim .add [(.cst (.int 1)), (.call iD [(.var 0), (.cst (.int 2))])]), (.var 3)])]
def copy (iD : Nat) : List Sm := [
  .asg (.nm 2) (.prim .tup [(.call iD [(.var 0), (.var 1)]), (.call iD [(.var 0), (.var 1)])]),
  .asg (.nm 3) (.mk false .cat [(.mk false .cat [(.mk false .lst [(.prim .tup [(.cst (.int 2)), (.var 2)])]), (.mk false .mulL [(.mk false .lst [(.cst .non)]), (.prim .int [(.prim .gt [(.call iD [(.var 0), (.cst (.int 3))]), (.cst (.int 0))])])])]), (.mk false .lst [(.prim .tup [(.cst (.int 4)), (.prim .tup [(.cst (.int 1))])])])]),
  .ret (.prim .tup [(.prim .tup [(.call iD [(.var 0), (.var 1)]), (.call iD [(.var 0), (.var 1)]), (.cst (.int 0)), (.cst (.int 0)), (.cst (.int 0))]), (.prim .add [(.cst (.int 1)), (.call iD [(.var 0), (.cst (.int 2))])]), (.var 3)])]
def plan (iD iN iL iC : Nat) : List Sm := [
  .asg (.nm 2) (.call iD [(.var 0), (.cst (.int 6))]),
  .ite (.and (.prim .eq [(.var 2), (.cst (.int 0))]) (.prim .gt [(.var 1), (.cst (.int 5))])) [.ret (.call iL [(.var 0), (.cst (.int 3))])] [],
  .ite (.and (.prim .eq [(.var 2), (.cst (.int 1))]) (.prim .gt [(.var 1), (.cst (.int 2))])) [.ret (.call iC [(.var 0), (.cst (.int 3))])] [],
  .ret (.call iN [(.var 0), (.prim .add [(.cst (.int 1)), (.call iD [(.var 0), (.cst (.int 4))])]), (.var 1), (.prim .item [(.mk false .lst [(.cst (.int 2)), (.cst (.int 3)), (.cst (.int 8))]), (.call iD [(.var 0), (.cst (.int 3))])])])]
def plan_of (iI : Nat) : List Sm := [
  .ret (.new false 0 iI [(.prim .item [(.var 0), (.cst (.int 0))]), (.prim .item [(.var 0), (.cst (.int 1))]), (.prim .item [(.var 0), (.cst (.int 2))])])]
end Lb
theorem eqV_r_nil {h : Hs} {n : Nat} : eqV (.r n) (.d (.lst [])) h = match h[n]? with
  | some (.lst vs) => (allD vs).map fun ds => ds.isEmpty
  | some (.dic kvs) => if plainD (.dic kvs) then some false else none
  | _ => none := by
  unfold eqV
  simp only [snap]
  cases h[n]? with
  | none => rfl
  | some c =>
    cases c with
    | lst vs =>
      dsimp only
      cases allD vs with
      | none => rfl
      | some ds => cases ds <;> rfl
    | dic kvs => simp [plainD]
    | _ => rfl
section
variable {F : Fun}
abbrev DrawOk (F : Fun) (iD : Nat) : Prop := ∀ {h : Hs} {p : Nat} {c : Cell} {b u : Int} {Q : Vl → Hs → Prop} {E : D → Hs → Prop}, h[p]? = some c → PenC b c → b < 1000000000 → wfH h = true → 0 < u → u < 1073741824 → (∀ d c', 0 ≤ d → d < u → PenC (b + 1) c' → Q (.d (.int d)) (h.set p c')) → Wp (F iD [.r p, .d (.int u)] h) Q E
theorem draws_wp {iD : Nat} (hd : DrawOk F iD) {α : Type} {f : List Vl → Hs → Out (Option Vl)} {r : α → List Vl} {p : Nat} {u : Int} (xs : List α) (hf : ∀ x h, f (r x) h = (F iD [.r p, .d (.int u)] h).bind fun v h2 => .ok (some v) h2) {h : Hs} {c : Cell} {b : Int} {Q : List Vl → Hs → Prop} {E : D → Hs → Prop}
    (hc : h[p]? = some c) (pc : PenC b c) (hb : b + xs.length < 1000000000) (w : wfH h = true) (u0 : 0 < u) (u1 : u < 1073741824) (k : ∀ (ws : List Int) c', ws.length = xs.length → (∀ w ∈ ws, 0 ≤ w ∧ w < u) → PenC (b + xs.length) c' → Q (ws.map fun w => .d (.int w)) (h.set p c')) : Wp (compL f (xs.map r) h) Q E := by
  have hp := (List.getElem?_eq_some_iff.mp hc).1
  refine comp_wp (fun pre acc h' => ∃ (ws : List Int) (c' : Cell), acc = ws.map (fun w => .d (.int w)) ∧ ws.length = pre.length ∧ (∀ w ∈ ws, 0 ≤ w ∧ w < u) ∧ PenC (b + pre.length) c' ∧ h' = h.set p c') xs ⟨[], c, rfl, rfl, by simp, by simpa using pc, ?_⟩ ?_ ?_
  · obtain ⟨h1, h2⟩ := List.getElem?_eq_some_iff.mp hc
    rw [← h2, List.set_getElem_self]
  · rintro pre x post acc h' hx ⟨ws, c', rfl, e2, e3, e4, rfl⟩
    have hlen := congrArg List.length hx
    rw [List.length_append, List.length_cons] at hlen
    rw [hf, wp_bind]
    refine hd (get_set_self hc) e4 (by omega) (wf_set w (e4.low _)) u0 u1 fun d c2 d0 d1 p2 => ?_
    rw [wp_ok, List.set_set]
    refine ⟨ws ++ [d], c2, by simp, by simp [e2], ?_, p2.le (by rw [List.length_append]; simp; omega), rfl⟩
    intro w hw
    rcases List.mem_append.mp hw with q | q
    · exact e3 w q
    · rw [List.mem_singleton.mp q]
      exact ⟨d0, d1⟩
  · rintro vs h' ⟨ws, c', rfl, e2, e3, e4, rfl⟩
    exact k ws c' e2 e3 e4
/-- what is drawn as a write -/
abbrev WriteOk (F : Fun) (iW : Nat) : Prop := ∀ {h : Hs} {p : Nat} {c : Cell} {b many kinds : Int} {Q : Vl → Hs → Prop} {E : D → Hs → Prop}, h[p]? = some c → PenC b c → b < 900000000 → wfH h = true → 0 < many → many ≤ 1000 → 0 < kinds → kinds ≤ 1000 → (∀ f (ws : List Int) c', 0 ≤ f → ws ≠ [] → f + ws.length ≤ many → ws.length ≤ 3 → (∀ w ∈ ws, 0 ≤ w ∧ w < kinds) → PenC (b + 5) c' → Q (.d (stepD (some (f, ws)))) (h.set p c')) → Wp (F iW [.r p, .d (.int many), .d (.int kinds), .d (.int 3)] h) Q E
theorem write_ok {iD iW : Nat} (hd : DrawOk F iD) (hF : F iW = run F 7 (Lb.write iD)) : WriteOk F iW := by
  intro h p c b many kinds Q E hc pc hb w m0 m1 k0 k1 k
  rw [hF, wp_run]
  simp -implicitDefEqProofs [Lb.write]
  refine hd hc pc (by omega) w m0 (by omega) fun f c1 f0 f1 p1 => ?_
  simp -implicitDefEqProofs [x_comp]
  refine hd (get_set_self hc) p1 (by omega) (wf_set w (p1.low _)) (by split <;> omega) (by split <;> omega) fun n c2 n0 n1 p2 => ?_
  have hn : n < 3 ∧ f + n < many := by split at n1 <;> omega
  have er := rowsOf_rng1 (j := 1 + n) (bigR_nat (by omega) (by omega))
  simp -implicitDefEqProofs [er, wp_noEx]
  refine draws_wp hd (p := p) (u := kinds) (List.range (1 + n).toNat) (fun x h => by simp) (get_set_self hc) p2 (by rw [List.length_range]; omega) (wf_set w (p2.low _)) k0 (by omega) fun ws c3 l3 r3 p3 => ?_
  rw [List.length_range] at l3 p3
  have hl : ws.length ≤ LIM := limE (by omega)
  simp -implicitDefEqProofs [hl, wp_done_d, lo_set (lo_self w) (p3.low _)]
  exact k f ws c3 f0 (fun z => by rw [z] at l3; simp at l3; omega) (by omega) (by omega) r3 (p3.le (by omega))
/-! ### the parts of a write, the law's way -/
def lspSt (ix f : Int) (ws : List Int) (w : Int) (s : List Part × List Int) (k : Nat) : List Part × List Int :=
  if s.2 ≠ [] ∧ (f + k) % w = 0 then (s.1 ++ [(ix, f + k - s.2.length, s.2)], [ws.getD k 0]) else (s.1, s.2 ++ [ws.getD k 0])
def lsp (ix f : Int) (ws : List Int) (w : Int) : List Part :=
  let s := (List.range ws.length).foldl (lspSt ix f ws w) ([], [])
  s.1 ++ [(ix, f + ws.length - s.2.length, s.2)]
theorem lsp_len (ix f : Int) (ws : List Int) (w : Int) : ∀ (ks : List Nat) (s : List Part × List Int), (ks.foldl (lspSt ix f ws w) s).1.length ≤ s.1.length + ks.length ∧ (ks.foldl (lspSt ix f ws w) s).2.length ≤ s.2.length + ks.length
  | [], s => by simp
  | k :: ks, s => by
    have := lsp_len ix f ws w ks (lspSt ix f ws w s k)
    have q : (lspSt ix f ws w s k).1.length ≤ s.1.length + 1 ∧ (lspSt ix f ws w s k).2.length ≤ s.2.length + 1 := by
      unfold lspSt
      split <;> simp
    rw [List.foldl_cons, List.length_cons]
    omega
abbrev SplitEq (F : Fun) (i : Nat) : Prop := ∀ {ix f w : Int} {ws : List Int} {h : Hs}, wfH h = true → 0 < w → ws.length ≤ 500 → F i [.d (.int ix), .d (stepD (some (f, ws))), .d (.int w)] h = .ok (.d (.lst ((lsp ix f ws w).map partD))) h
theorem rowsOf_n {n : Nat} (hn : n ≤ 1000000) : rowsOf .rng [.d (.int (n : Int))] = some ((List.range n).map fun k => [.d (.int ((k : Nat) : Int))]) := by
  rw [rowsOf_rng1 (bigR_nat (by omega) (by omega))]
  rfl
theorem split_eq {i : Nat} (hF : F i = run F 8 Lb.split) : SplitEq F i := by
  intro ix f w ws h wf hw hl
  rw [hF]
  refine eq_of_wp ?_
  rw [wp_run]
  simp -implicitDefEqProofs [Lb.split, stepD, intsD, y_for, rowsOf_n (show ws.length ≤ 1000000 by omega)]
  refine for_inv (fun pre e h' => ∃ (A : Hs) (t : Option Vl), e = [some (.d (.int ix)), some (.d (stepD (some (f, ws)))), some (.d (.int w)), some (.d (.int f)), some (.d (intsD ws)), some (.r h.length), some (.r (h.length + (A.length + 1))), t] ∧ h' = h ++ (.lst ((pre.foldl (lspSt ix f ws w) ([], [])).1.map fun p => .d (partD p)) :: (A ++ [.lst ((pre.foldl (lspSt ix f ws w) ([], [])).2.map fun w => .d (.int w))]))) _ ⟨[], _, rfl, by simp⟩ ?_ ?_
  · rintro pre k post e h' hk ⟨A, t, rfl, rfl⟩
    have hmem : k < ws.length := List.mem_range.mp (hk ▸ (by simp))
    have hlen : pre.length < ws.length := by
      have := congrArg List.length hk
      rw [List.length_range, List.length_append, List.length_cons] at this
      omega
    have hst := lsp_len ix f ws w pre ([], [])
    rw [List.foldl_append, List.foldl_cons, List.foldl_nil]
    generalize pre.foldl (lspSt ix f ws w) ([], []) = s at hst
    simp only [List.length_nil, Nat.zero_add] at hst
    have l1 : s.1.length < LIM := limL (by omega)
    have l2 : s.2.length < LIM := limL (by omega)
    have l3 : s.2.length ≤ LIM := limE (by omega)
    have hat : atI ws (k : Int) = some (ws.getD k 0) := by
      rw [List.getD_eq_getElem?_getD, List.getElem?_eq_getElem hmem]
      exact atI_k (List.getElem?_eq_getElem hmem)
    by_cases c1 : s.2 = []
    · simp -implicitDefEqProofs [eqV_r_nil, c1, intsD, stepD, hw, hat, lspSt]
    · have c1' : s.2.isEmpty = false := by cases q : s.2 with
        | nil => exact absurd q c1
        | cons a r => rfl
      by_cases c2 : (f + (k : Int)) % w = 0
      · simp -implicitDefEqProofs [eqV_r_nil, c1, c1', intsD, stepD, hw, hat, lspSt, c2, l1, l2, l3]
        exact ⟨A ++ [.lst (s.2.map fun w => .d (.int w))], by simp, rfl, by simp⟩
      · simp -implicitDefEqProofs [eqV_r_nil, c1, c1', intsD, stepD, hw, hat, lspSt, c2, l1, l2, l3]
  · rintro e h' ⟨A, t, rfl, rfl⟩
    have hst := lsp_len ix f ws w (List.range ws.length) ([], [])
    simp -implicitDefEqProofs [lsp, wp_done_d, lo_self wf, intsD]
    simp only [List.length_nil, List.length_range, Nat.zero_add] at hst
    exact ⟨limE (by omega), rfl⟩
/-! the law's way and the program's are the same -/
theorem range_snoc (n : Nat) : List.range (n + 1) = List.range n ++ [n] := List.range_succ
theorem cutD_snoc {α : Type} [Inhabited α] {ws : List Int} {a k : Nat} (ha : a ≤ k) (hk : k < ws.length) : cutD ws a k ++ [ws.getD k 0] = cutD ws a (k + 1) := by
  unfold cutD
  rw [List.getD_eq_getElem?_getD, List.getElem?_eq_getElem hk, Option.getD_some, List.take_succ_eq_append_getElem hk, List.drop_append_of_le_length (by rw [List.length_take]; omega)]
theorem cutD_len {α : Type} {ws : List α} {a k : Nat} (hk : k ≤ ws.length) : (cutD ws a k).length = k - a := by
  unfold cutD
  rw [List.length_drop, List.length_take]
  omega
theorem lsp_inv (ix f : Int) (ws : List Int) (w : Int) : ∀ m : Nat, m < ws.length → ((List.range m).foldl (brkSt ix f ws w) ([], 0)).2 ≤ m ∧ (List.range (m + 1)).foldl (lspSt ix f ws w) ([], []) = (((List.range m).foldl (brkSt ix f ws w) ([], 0)).1, cutD ws ((List.range m).foldl (brkSt ix f ws w) ([], 0)).2 (m + 1)) := by
  intro m
  induction m with
  | zero =>
    intro h0
    refine ⟨Nat.le_refl _, ?_⟩
    have e := cutD_snoc (α := Int) (ws := ws) (a := 0) (k := 0) (Nat.le_refl _) h0
    rw [range_snoc, List.range_zero, List.nil_append, List.foldl_cons, List.foldl_nil, List.foldl_nil, ← e]
    unfold lspSt cutD
    simp
  | succ m ih =>
    intro hm
    obtain ⟨i1, i2⟩ := ih (by omega)
    rw [range_snoc (m + 1), List.foldl_append, List.foldl_cons, List.foldl_nil, i2, range_snoc m, List.foldl_append, List.foldl_cons, List.foldl_nil]
    generalize (List.range m).foldl (brkSt ix f ws w) ([], 0) = s at i1
    have hne : cutD ws s.2 (m + 1) ≠ [] := fun z => by
      have := congrArg List.length z
      rw [cutD_len (by omega)] at this
      simp at this
      omega
    have hl : ((cutD ws s.2 (m + 1)).length : Int) = (m : Int) + 1 - s.2 := by rw [cutD_len (by omega)]; omega
    have hn : ¬ m + 1 = ws.length := by omega
    by_cases c : (f + ((m + 1 : Nat) : Int)) % w = 0
    · have e1 : brkSt ix f ws w s m = (s.1 ++ [(ix, f + s.2, cutD ws s.2 (m + 1))], m + 1) := by
        unfold brkSt
        rw [if_pos (.inr c)]
      have e2 : lspSt ix f ws w (s.1, cutD ws s.2 (m + 1)) (m + 1) = (s.1 ++ [(ix, f + s.2, cutD ws s.2 (m + 1))], [ws.getD (m + 1) 0]) := by
        unfold lspSt
        rw [if_pos ⟨hne, c⟩]
        dsimp only
        rw [hl]
        have : f + ((m + 1 : Nat) : Int) - ((m : Int) + 1 - s.2) = f + s.2 := by omega
        rw [this]
      rw [e1, e2]
      refine ⟨Nat.le_refl _, ?_⟩
      have e := cutD_snoc (α := Int) (ws := ws) (a := m + 1) (k := m + 1) (Nat.le_refl _) hm
      have e0 : cutD ws (m + 1) (m + 1) = [] := List.length_eq_zero_iff.mp (by rw [cutD_len (by omega)]; omega)
      rw [e0, List.nil_append] at e
      rw [e]
    · have e1 : brkSt ix f ws w s m = s := by
        unfold brkSt
        rw [if_neg (fun z => z.elim hn c)]
      have e2 : lspSt ix f ws w (s.1, cutD ws s.2 (m + 1)) (m + 1) = (s.1, cutD ws s.2 (m + 1) ++ [ws.getD (m + 1) 0]) := by
        unfold lspSt
        rw [if_neg (fun z => c z.2)]
      rw [e1, e2]
      exact ⟨by omega, by rw [cutD_snoc (α := Int) (by omega) hm]⟩
theorem lsp_brk (ix f : Int) {ws : List Int} (w : Int) (h : ws ≠ []) : lsp ix f ws w = brk ix f ws w := by
  obtain ⟨m, hm⟩ : ∃ m, ws.length = m + 1 := ⟨ws.length - 1, by have := List.length_pos_iff.mpr h; omega⟩
  obtain ⟨i1, i2⟩ := lsp_inv ix f ws w m (by omega)
  unfold lsp brk
  rw [hm, i2, range_snoc m, List.foldl_append, List.foldl_cons, List.foldl_nil]
  generalize (List.range m).foldl (brkSt ix f ws w) ([], 0) = s at i1
  have e1 : brkSt ix f ws w s m = (s.1 ++ [(ix, f + s.2, cutD ws s.2 (m + 1))], m + 1) := by
    unfold brkSt
    rw [if_pos (.inl hm.symm)]
  rw [e1]
  dsimp only
  rw [cutD_len (by omega)]
  have : f + ((m + 1 : Nat) : Int) - ((m + 1 - s.2 : Nat) : Int) = f + s.2 := by omega
  rw [this]
end
end L3
/-! L3 library: drawn plans, 2. -/
namespace L3
open PySem
section
variable {F : Fun}
theorem range_pre {n k : Nat} {pre post : List Nat} (h : List.range n = pre ++ k :: post) : pre.length = k ∧ k < n := by
  have h1 : (List.range n)[pre.length]? = some k := by rw [h]; simp
  have h2 : pre.length < n := by
    have := congrArg List.length h
    rw [List.length_range, List.length_append, List.length_cons] at this
    omega
  rw [List.getElem?_range h2] at h1
  have := Option.some.inj h1
  omega
def pcsN (steps : List Stp) (w : Int) (n : Nat) : List Part := (steps.take n).zipIdx.flatMap (pcs1 w)
theorem pcsN_all (steps : List Stp) (w : Int) : pcsN steps w steps.length = pcs steps w := by
  unfold pcsN pcs
  rw [List.take_length]
theorem pcsN_succ {steps : List Stp} {w : Int} {k : Nat} {s : Stp} (h : steps[k]? = some s) : pcsN steps w (k + 1) = pcsN steps w k ++ pcs1 w (s, k) := by
  obtain ⟨hk, e⟩ := List.getElem?_eq_some_iff.mp h
  unfold pcsN
  rw [List.take_succ_eq_append_getElem hk, List.zipIdx_append, List.flatMap_append, e, List.length_take, Nat.min_eq_left (by omega)]
  simp
theorem pcsN_len (steps : List Stp) (w : Int) (n : Nat) : (pcsN steps w n).length ≤ total steps := by
  have h1 := pcs_len_aux w (steps.take n) 0
  have h2 : total (steps.take n) ≤ total steps := by
    have : total steps = total (steps.take n) + total (steps.drop n) := by
      unfold total
      rw [← List.sum_append, ← List.map_append, List.take_append_drop]
    omega
  unfold pcsN
  omega
/-- a triple whose parts can be told -/
def neStep : Stp → Prop
  | none => True
  | some (_, ws) => ws ≠ []
abbrev PartsEq (F : Fun) (i : Nat) : Prop := ∀ {t : PlanT} {h : Hs}, wfH h = true → 0 < t.span → total t.steps ≤ 500 → t.steps.length ≤ 500 → (∀ s ∈ t.steps, neStep s) → F i [.d t.toD] h = .ok (.d (.lst (t.parts.map partD))) h
theorem parts_eq {i iS : Nat} (hs : SplitEq F iS) (hF : F i = run F 3 (Lb.parts iS)) : PartsEq F i := by
  intro t h wf hw ht hn hne
  rw [hF]
  refine eq_of_wp ?_
  rw [wp_run]
  simp -implicitDefEqProofs [Lb.parts, PlanT.toD, y_for, rowsOf_n (show t.steps.length ≤ 1000000 by omega)]
  refine for_inv (fun pre e h' => ∃ u : Option Vl, e = [some (.d t.toD), some (.d (.lst ((pcsN t.steps t.span pre.length).map partD))), u] ∧ h' = h) _ ⟨_, rfl, rfl⟩ ?_ ?_
  · rintro pre k post e h' hk ⟨u, rfl, rfl⟩
    obtain ⟨rfl, hkn⟩ := range_pre hk
    have hg : t.steps[pre.length]? = some t.steps[pre.length] := List.getElem?_eq_getElem hkn
    have hat := atI_k hg
    have hm : t.steps[pre.length] ∈ t.steps := List.getElem_mem _
    rw [List.length_append, List.length_cons, List.length_nil, Nat.zero_add, pcsN_succ hg]
    have hlen := pcsN_len t.steps t.span (pre.length + 1)
    rw [pcsN_succ hg, List.length_append] at hlen
    have hne1 := hne _ hm
    generalize t.steps[pre.length] = s at hat hm hg hlen hne1
    cases s with
    | none => simp -implicitDefEqProofs [PlanT.toD, hat, stepD, pcs1_none]
    | some p =>
      obtain ⟨f, ws⟩ := p
      have hwl : ws.length ≤ 500 := by
        have h2 := sum_mem (List.mem_map.mpr ⟨_, hm, rfl⟩ : wsLen (some (f, ws)) ∈ t.steps.map wsLen)
        unfold total at ht
        have : ws.length = wsLen (some (f, ws)) := rfl
        omega
      have e := hs (ix := pre.length) (f := f) (w := t.span) (ws := ws) wf hw hwl
      rw [lsp_brk _ _ _ hne1] at e
      rw [pcs1_some] at hlen ⊢
      have hl : (pcsN t.steps t.span pre.length).length + (brk pre.length f ws t.span).length ≤ LIM := limE (by omega)
      simp only [stepD] at e
      simp -implicitDefEqProofs [PlanT.toD, hat, stepD, e, hl]
  · rintro e h' ⟨u, rfl, rfl⟩
    rw [List.length_range, pcsN_all]
    simp -implicitDefEqProofs [wp_done_d, lo_self wf, PlanT.parts]
/-! ### plans -/
/-- a drawn plan: at most n writes (of at most three worths each) and n barriers -/
structure Drawn (n : Nat) (t : PlanT) : Prop where
  c0 : t.cells ≠ []
  c1 : t.cells.length ≤ 5
  cw : ∀ w ∈ t.cells, worth w
  s0 : 1 ≤ t.span
  s1 : t.span ≤ 3
  n1 : t.steps.length ≤ 2 * n
  st : ∀ s ∈ t.steps, okStep t.cells.length s
  w3 : ∀ s ∈ t.steps, wsLen s ≤ 3
  tt : total t.steps ≤ 3 * n
abbrev PlanOk (F : Fun) (i : Nat) (n : Nat) (as : List Vl) (k : Int) : Prop := ∀ {h : Hs} {p : Nat} {c : Cell} {b : Int} {Q : Vl → Hs → Prop} {E : D → Hs → Prop}, h[p]? = some c → PenC b c → b < 800000000 → wfH h = true → (∀ t c', Drawn n t → PenC (b + k) c' → Q (.d t.toD) (h.set p c')) → Wp (F i (.r p :: as) h) Q E
theorem okStep_ne {n : Nat} {s : Stp} (h : okStep n s) : neStep s := by
  cases s with
  | none => trivial
  | some p => exact h.2.1
theorem worths_lt {k : Int} (hk : k ≤ 8) {ws : List Int} (h : ∀ w ∈ ws, 0 ≤ w ∧ w < k) : ∀ w ∈ ws, worth w := fun w hw => ⟨(h w hw).1, by have := (h w hw).2; omega⟩
theorem total_snoc (xs : List Stp) (s : Stp) : total (xs ++ [s]) = total xs + wsLen s := by
  unfold total
  rw [List.map_append, List.sum_append]
  simp
structure Dr (cells : List Int) (sp : Int) (m : Nat) (t : PlanT) : Prop where
  ec : t.cells = cells
  es : t.span = sp
  n1 : t.steps.length ≤ 2 * m
  st : ∀ s ∈ t.steps, okStep cells.length s
  w3 : ∀ s ∈ t.steps, wsLen s ≤ 3
  tt : total t.steps ≤ 3 * m
theorem Dr.more {cells : List Int} {sp : Int} {m : Nat} {t : PlanT} (d : Dr cells sp m t) : Dr cells sp (m + 1) t := ⟨d.ec, d.es, by have := d.n1; omega, d.st, d.w3, by have := d.tt; omega⟩
theorem Dr.write {cells : List Int} {sp : Int} {m : Nat} {t : PlanT} (d : Dr cells sp m t) (hm : t.steps.length + 1 ≤ 2 * (m + 1)) {f : Int} {ws : List Int} (h : okStep cells.length (some (f, ws))) (h3 : ws.length ≤ 3) : Dr cells sp (m + 1) ⟨cells, sp, t.steps ++ [some (f, ws)]⟩ := by
  refine ⟨rfl, rfl, by simpa using hm, fun s hs => ?_, fun s hs => ?_, ?_⟩
  · rcases List.mem_append.mp hs with q | q
    · exact d.st s q
    · rw [List.mem_singleton.mp q]; exact h
  · rcases List.mem_append.mp hs with q | q
    · exact d.w3 s q
    · rw [List.mem_singleton.mp q]; exact h3
  · have := d.tt
    show total (t.steps ++ [some (f, ws)]) ≤ _
    rw [total_snoc]
    show _ + ws.length ≤ _
    omega
theorem Dr.bar {cells : List Int} {sp : Int} {m : Nat} {t : PlanT} (d : Dr cells sp m t) (hm : t.steps.length + 1 ≤ 2 * m) : Dr cells sp m ⟨cells, sp, t.steps ++ [none]⟩ := by
  refine ⟨rfl, rfl, by simpa using hm, fun s hs => ?_, fun s hs => ?_, ?_⟩
  · rcases List.mem_append.mp hs with q | q
    · exact d.st s q
    · rw [List.mem_singleton.mp q]; trivial
  · rcases List.mem_append.mp hs with q | q
    · exact d.w3 s q
    · rw [List.mem_singleton.mp q]; exact Nat.zero_le _
  · have := d.tt
    show total (t.steps ++ [none]) ≤ _
    rw [total_snoc]
    exact this
theorem drawn_ok {i iD iW iP : Nat} (hd : DrawOk F iD) (hw : WriteOk F iW) (hp : PartsEq F iP) (hF : F i = run F 9 (Lb.drawn iD iW iP)) {h : Hs} {p : Nat} {c : Cell} {b many kinds : Int} {most : Nat} {Q : Vl → Hs → Prop} {E : D → Hs → Prop} (hc : h[p]? = some c) (pc : PenC b c) (hb : b < 800000000) (wf : wfH h = true) (m0 : 0 < many) (m1 : many ≤ 5) (k0 : 0 < kinds) (k1 : kinds ≤ 8) (hm : most ≤ 100)
    (k : ∀ t c', Drawn most t → (t.cells.length : Int) = many → PenC (b + 1000) c' → Q (.d t.toD) (h.set p c')) : Wp (F i [.r p, .d (.int many), .d (.int most), .d (.int kinds)] h) Q E := by
  rw [hF, wp_run]
  have er := rowsOf_rng1 (j := many) (bigR_nat (by omega) (by omega))
  simp -implicitDefEqProofs [Lb.drawn, x_comp, er, wp_noEx]
  refine draws_wp hd (p := p) (u := kinds) (List.range many.toNat) (fun x h => by simp) hc pc (by rw [List.length_range]; omega) wf k0 (by omega) fun cells c1 l1 r1 p1 => ?_
  rw [List.length_range] at l1 p1
  have hl : cells.length ≤ LIM := limE (by omega)
  simp -implicitDefEqProofs [hl]
  refine hd (get_set_self hc) p1 (by omega) (wf_set wf (p1.low _)) (by omega) (by omega) fun sp c2 s0 s1 p2 => ?_
  simp -implicitDefEqProofs [y_for]
  refine hd (get_set_self hc) p2 (by omega) (wf_set wf (p2.low _)) (by omega) (by omega) fun n c3 n0 n1 p3 => ?_
  have er2 := rowsOf_rng1 (j := n) (bigR_nat (by omega) (by omega))
  simp -implicitDefEqProofs [er2]
  have hcl : (cells.length : Int) = many := by omega
  refine for_inv (fun pre e h' => ∃ t u v c', Dr cells (1 + sp) pre.length t ∧ PenC (b + 10 + 6 * (pre.length : Int)) c' ∧ e = [some (.r p), some (.d (.int many)), some (.d (.int most)), some (.d (.int kinds)), some (.d (intsD cells)), some (.d t.toD), u, v, none] ∧ h' = h.set p c') _ ⟨⟨cells, 1 + sp, []⟩, none, none, c3, ⟨rfl, rfl, by simp, by simp, by simp, by simp [total]⟩, p3.le (by simp; omega), rfl, rfl⟩ ?_ ?_
  · rintro pre j post e h' hk ⟨t, u, v, c4, dr, p4, rfl, rfl⟩
    obtain ⟨hj, hjn⟩ := range_pre hk
    obtain ⟨tc, ts, steps⟩ := t
    have ec : tc = cells := dr.ec
    have es : ts = 1 + sp := dr.es
    subst ec es
    have hn1 : steps.length ≤ 2 * pre.length := dr.n1
    have htt : total steps ≤ 3 * pre.length := dr.tt
    have hs1 : steps.length + 1 ≤ LIM := limE (by omega)
    simp -implicitDefEqProofs [PlanT.toD, intsD]
    refine hw (many := many) (kinds := kinds) (get_set_self hc) p4 (by omega) (wf_set wf (p4.low _)) m0 (by omega) k0 (by omega) fun f ws c5 f0 w0 w1 w2 w3 p5 => ?_
    have hok : okStep tc.length (some (f, ws)) := ⟨f0, w0, by omega, worths_lt k1 w3⟩
    have dr1 := dr.write (show steps.length + 1 ≤ 2 * (pre.length + 1) by omega) hok w2
    have ht1 : total (steps ++ [some (f, ws)]) ≤ 3 * (pre.length + 1) := dr1.tt
    have ht2 : (steps ++ [some (f, ws)]).length ≤ 2 * (pre.length + 1) := dr1.n1
    have ht3 := ht2
    rw [List.length_append, List.length_singleton] at ht3
    have hpe := hp (t := ⟨tc, 1 + sp, steps ++ [some (f, ws)]⟩) (h := h.set p c5) (wf_set wf (p5.low h.length)) (by show 0 < 1 + sp; omega) (Nat.le_trans ht1 (by omega)) (Nat.le_trans ht2 (by omega)) (fun s hs => okStep_ne (dr1.st s hs))
    simp only [PlanT.toD, intsD, List.map_append, List.map_cons, List.map_nil] at hpe
    simp -implicitDefEqProofs [hs1, hpe]
    have dr2 := dr1.bar (show (steps ++ [some (f, ws)]).length + 1 ≤ 2 * (pre.length + 1) by rw [List.length_append, List.length_singleton]; omega)
    have dr3 := dr.more.bar (show steps.length + 1 ≤ 2 * (pre.length + 1) by omega)
    have hs2 : steps.length + 1 + 1 ≤ LIM := limE (by omega)
    split
    · simp -implicitDefEqProofs
      refine hd (get_set_self hc) p5 (by omega) (wf_set wf (p5.low _)) (by omega) (by omega) fun d c6 d0 d1 p6 => ?_
      have p7 : PenC (b + 10 + 6 * ((pre.length + 1 : Nat) : Int)) c6 := p6.le (by omega)
      by_cases hd0 : d = 0
      · simp -implicitDefEqProofs [hd0, hs2]
        exact ⟨_, dr2, _, _, c6, by simpa using p7, ⟨⟨rfl, rfl, by simp [stepD]⟩, rfl, rfl⟩, rfl⟩
      · simp -implicitDefEqProofs [hd0]
        exact ⟨_, dr1, _, _, c6, by simpa using p7, ⟨⟨rfl, rfl, by simp [stepD]⟩, rfl, rfl⟩, rfl⟩
    · simp -implicitDefEqProofs
      refine hd (get_set_self hc) p5 (by omega) (wf_set wf (p5.low _)) (by omega) (by omega) fun d c6 d0 d1 p6 => ?_
      have p7 : PenC (b + 10 + 6 * ((pre.length + 1 : Nat) : Int)) c6 := p6.le (by omega)
      by_cases hd0 : d = 0
      · simp -implicitDefEqProofs [hd0, hs1]
        exact ⟨_, dr3, _, _, c6, by simpa using p7, ⟨⟨rfl, rfl, by simp [stepD]⟩, rfl, rfl⟩, rfl⟩
      · simp -implicitDefEqProofs [hd0]
        exact ⟨_, dr.more, _, _, c6, by simpa using p7, ⟨⟨rfl, rfl, by simp [stepD]⟩, rfl, rfl⟩, rfl⟩
  · rintro e h' ⟨t, u, v, c4, dr, p4, rfl, rfl⟩
    rw [List.length_range] at dr p4
    simp -implicitDefEqProofs [wp_done_d, lo_set (lo_self wf) (p4.low _)]
    have hlt : n.toNat ≤ most := by omega
    refine k t c4 ?_ ?_ (p4.le (by omega))
    · have e1 := dr.ec
      have e2 := dr.es
      refine ⟨?_, ?_, ?_, by omega, by omega, ?_, ?_, dr.w3, ?_⟩
      · rw [e1]; intro z; rw [z] at hcl; simp at hcl; omega
      · rw [e1]; omega
      · rw [e1]; exact worths_lt k1 r1
      · have := dr.n1; omega
      · rw [e1]; exact dr.st
      · have := dr.tt; omega
    · rw [dr.ec]; omega
end
end L3
/-! L3 library: drawn plans, 3. -/
namespace L3
open PySem
section
variable {F : Fun}
theorem Drawn.le {n m : Nat} {t : PlanT} (d : Drawn n t) (h : n ≤ m) : Drawn m t := ⟨d.c0, d.c1, d.cw, d.s0, d.s1, by have := d.n1; omega, d.st, d.w3, by have := d.tt; omega⟩
abbrev LogOk (F : Fun) (i : Nat) (n : Nat) : Prop := ∀ {h : Hs} {p : Nat} {c : Cell} {b : Int} {Q : Vl → Hs → Prop} {E : D → Hs → Prop}, h[p]? = some c → PenC b c → b < 800000000 → wfH h = true → (∀ t c', Drawn n t → PenC (b + 1000) c' → Q (.d t.toD) (h.set p c')) → Wp (F i [.r p, .d (.int 3)] h) Q E
structure LogS (m : Nat) (st : List Stp) : Prop where
  n1 : st.length ≤ 1 + 2 * m
  ok : ∀ s ∈ st, okStep 5 s
  w3 : ∀ s ∈ st, wsLen s ≤ 2
  tt : total st ≤ 2 + 2 * m
theorem LogS.add {m : Nat} {st : List Stp} (l : LogS m st) {s : Stp} (h : okStep 5 s) (h2 : wsLen s ≤ 2) : LogS (m + 1) (st ++ [s]) ∧ LogS (m + 1) (st ++ [none, s]) := by
  have a1 := l.n1
  have a2 := l.tt
  constructor
  · refine ⟨by simp; omega, fun x hx => ?_, fun x hx => ?_, by rw [total_snoc]; omega⟩
    · rcases List.mem_append.mp hx with q | q
      · exact l.ok x q
      · rw [List.mem_singleton.mp q]; exact h
    · rcases List.mem_append.mp hx with q | q
      · exact l.w3 x q
      · rw [List.mem_singleton.mp q]; exact h2
  · have e : st ++ [none, s] = (st ++ [none]) ++ [s] := by simp
    refine ⟨by simp; omega, fun x hx => ?_, fun x hx => ?_, by rw [e, total_snoc, total_snoc, show wsLen none = 0 from rfl]; omega⟩
    · rcases List.mem_append.mp hx with q | q
      · exact l.ok x q
      · rcases List.mem_cons.mp q with q | q
        · rw [q]; trivial
        · rw [List.mem_singleton.mp q]; exact h
    · rcases List.mem_append.mp hx with q | q
      · exact l.w3 x q
      · rcases List.mem_cons.mp q with q | q
        · rw [q]; exact Nat.zero_le _
        · rw [List.mem_singleton.mp q]; exact h2
theorem LogS.drawn {m n : Nat} {st : List Stp} (l : LogS m st) {cells : List Int} {sp : Int} (hc : cells.length = 5) (hw : ∀ w ∈ cells, worth w) (h1 : 1 ≤ sp) (h3 : sp ≤ 3) (hn : 1 + 2 * m ≤ 2 * n) (hn2 : 2 + 2 * m ≤ 3 * n) : Drawn n ⟨cells, sp, st⟩ := by
  refine ⟨fun z => ?_, by rw [hc]; omega, hw, h1, h3, by have := l.n1; show st.length ≤ _; omega, fun s hs => by rw [show (PlanT.mk cells sp st).cells.length = 5 from hc]; exact l.ok s hs, fun s hs => by have := l.w3 s hs; omega, by have := l.tt; show total st ≤ _; omega⟩
  have z' : cells = [] := z
  rw [z'] at hc
  cases hc
theorem worth_lit {i : Int} (h0 : 0 ≤ i) (h1 : i < 8) : worth i := ⟨h0, h1⟩
theorem log_ok {i iD : Nat} (hd : DrawOk F iD) (hF : F i = run F 5 (Lb.log iD)) : LogOk F i 4 := by
  intro h p c b Q E hc pc hb wf k
  rw [hF, wp_run]
  simp -implicitDefEqProofs [Lb.log]
  refine hd hc pc (by omega) wf (by omega) (by omega) fun x c1 x0 x1 p1 => ?_
  simp -implicitDefEqProofs
  refine hd (get_set_self hc) p1 (by omega) (wf_set wf (p1.low _)) (by omega) (by omega) fun y c2 y0 y1 p2 => ?_
  have wx : worth x := ⟨x0, by omega⟩
  have wy : worth y := ⟨y0, by omega⟩
  have o1 : ∀ f : Int, 0 ≤ f → f ≤ 3 → okStep 5 (some (f, [x, y])) := fun f h0 h1 => ⟨h0, by simp, by simp; omega, by
    intro w hw
    simp at hw
    rcases hw with rfl | rfl
    · exact wx
    · exact wy⟩
  have o2 : ∀ z : Int, 0 ≤ z → z < 8 → okStep 5 (some (2, [z])) := fun z h0 h1 => ⟨by omega, by simp, by simp, by
    intro w hw
    simp at hw
    subst hw
    exact ⟨h0, h1⟩⟩
  have hrows : rowsOf .seq [.d (.tup [.tup [.int 2, .tup [.int 1]], .tup [.int 3, .tup [.int x, .int y]], .tup [.int 2, .tup [.int 0]]])] = some (([some (2, [1]), some (3, [x, y]), some (2, [0])] : List Stp).map fun s => [.d (stepD s)]) := by
    simp [rowsOf, stepD, intsD]
  simp -implicitDefEqProofs [y_for, hrows, -List.map_cons]
  refine for_inv (fun pre e h' => ∃ st u c', LogS pre.length st ∧ PenC (b + 2 + (pre.length : Int)) c' ∧ e = [some (.r p), some (.d (.int 3)), some (.d (intsD [x, y])), some (.d (.lst (st.map stepD))), u] ∧ h' = h.set p c') _ ⟨[some (0, [x, y])], none, c2, ⟨by simp, by simpa using o1 0 (by omega) (by omega), by simp [wsLen], by simp [total, wsLen]⟩, p2.le (by simp; omega), by simp [stepD, intsD], rfl⟩ ?_ ?_
  · rintro pre s post e h' hk ⟨st, u, c3, ls, p3, rfl, rfl⟩
    have hs : okStep 5 s ∧ wsLen s ≤ 2 := by
      have : s ∈ ([some (2, [1]), some (3, [x, y]), some (2, [0])] : List Stp) := hk ▸ (by simp)
      simp at this
      rcases this with rfl | rfl | rfl
      · exact ⟨o2 1 (by omega) (by omega), by simp [wsLen]⟩
      · exact ⟨o1 3 (by omega) (by omega), by simp [wsLen]⟩
      · exact ⟨o2 0 (by omega) (by omega), by simp [wsLen]⟩
    have hlen : pre.length < 3 := by
      have := congrArg List.length hk
      simp at this
      omega
    obtain ⟨l1, l2⟩ := ls.add hs.1 hs.2
    have n1 := ls.n1
    have q1 : st.length ≤ LIM := limE (by omega)
    have q2 : st.length + 1 ≤ LIM := limE (by omega)
    have q3 : st.length + 1 + 1 ≤ LIM := limE (by omega)
    simp -implicitDefEqProofs
    refine hd (get_set_self hc) p3 (by omega) (wf_set wf (p3.low _)) (by omega) (by omega) fun d c4 d0 d1 p4 => ?_
    have p5 : PenC (b + 2 + ((pre.length + 1 : Nat) : Int)) c4 := p4.le (by omega)
    by_cases hd0 : 0 < d
    · simp -implicitDefEqProofs [hd0, b2i, q1, q2, q3]
      exact ⟨_, l2, _, c4, by simpa using p5, ⟨by simp [stepD], rfl⟩, rfl⟩
    · simp -implicitDefEqProofs [hd0, b2i, q1, q2, q3]
      exact ⟨_, l1, _, c4, by simpa using p5, ⟨by simp [stepD], rfl⟩, rfl⟩
  · rintro e h' ⟨st, u, c3, ls, p3, rfl, rfl⟩
    simp at p3
    simp -implicitDefEqProofs
    refine hd (get_set_self hc) p3 (by omega) (wf_set wf (p3.low _)) (by omega) (by omega) fun d c4 d0 d1 p4 => ?_
    simp -implicitDefEqProofs
    refine hd (get_set_self hc) p4 (by omega) (wf_set wf (p4.low _)) (by omega) (by omega) fun d' c5 d0' d1' p5 => ?_
    simp -implicitDefEqProofs
    refine hd (get_set_self hc) p5 (by omega) (wf_set wf (p5.low _)) (by omega) (by omega) fun e' c6 e0' e1' p6 => ?_
    simp -implicitDefEqProofs [wp_done_d, lo_set (lo_self wf) (p6.low _)]
    refine k ⟨[0, 0, 0, d, d'], 1 + e', st⟩ c6 (ls.drawn rfl ?_ (by omega) (by omega) (by simp) (by simp)) (p6.le (by omega))
    intro w hw
    simp at hw
    rcases hw with rfl | rfl | rfl
    · exact ⟨by omega, by omega⟩
    · exact ⟨by omega, by omega⟩
    · exact ⟨by omega, by omega⟩
theorem copy_ok {i iD : Nat} (hd : DrawOk F iD) (hF : F i = run F 4 (Lb.copy iD)) : LogOk F i 2 := by
  intro h p c b Q E hc pc hb wf k
  rw [hF, wp_run]
  simp -implicitDefEqProofs [Lb.copy]
  refine hd hc pc (by omega) wf (by omega) (by omega) fun x c1 x0 x1 p1 => ?_
  simp -implicitDefEqProofs
  refine hd (get_set_self hc) p1 (by omega) (wf_set wf (p1.low _)) (by omega) (by omega) fun y c2 y0 y1 p2 => ?_
  have wx : worth x := ⟨x0, by omega⟩
  have wy : worth y := ⟨y0, by omega⟩
  simp -implicitDefEqProofs
  refine hd (get_set_self hc) p2 (by omega) (wf_set wf (p2.low _)) (by omega) (by omega) fun d c3 d0 d1 p3 => ?_
  have ls : ∀ q : Bool, Drawn 2 ⟨[x, y, 0, 0, 0], 1, [some (2, [x, y])] ++ (if q then [none] else []) ++ [some (4, [1])]⟩ := by
    intro q
    refine ⟨by simp, by simp, ?_, by simp, by simp, by cases q <;> simp, ?_, by cases q <;> simp [wsLen], by cases q <;> simp [total, wsLen]⟩
    · intro w hw
      simp at hw
      rcases hw with rfl | rfl | rfl
      · exact wx
      · exact wy
      · exact ⟨by omega, by omega⟩
    · have a1 : okStep 5 (some (2, [x, y])) := ⟨by omega, by simp, by simp, by
        intro w hw
        simp at hw
        rcases hw with rfl | rfl
        · exact wx
        · exact wy⟩
      have a2 : okStep 5 (some (4, [1])) := ⟨by omega, by simp, by simp, by
        intro w hw
        simp at hw
        subst hw
        exact ⟨by omega, by omega⟩⟩
      cases q
      · simpa using ⟨a1, a2⟩
      · simpa using ⟨a1, trivial, a2⟩
  have fin : ∀ (st : List Stp) (c' : Cell) (b' : Int), b' ≤ b + 3 → PenC b' c' → Drawn 2 ⟨[x, y, 0, 0, 0], 1, st⟩ → True := fun _ _ _ _ _ _ => trivial
  have endg : ∀ q : Bool, ∀ (g d e' : Int) (c' : Cell), 0 ≤ g → g < 3 → 0 ≤ d → d < 3 → 0 ≤ e' → e' < 2 → PenC (b + 6) c' → Q (.d (PlanT.mk [g, d, 0, 0, 0] (1 + e') ([some (2, [x, y])] ++ (if q then [none] else []) ++ [some (4, [1])])).toD) (h.set p c') := fun q g d e' c' g0 g1 d0 d1 e0 e1 p' => by
    refine k _ c' ?_ (p'.le (by omega))
    have l := ls q
    refine ⟨by simp, by simp, ?_, by show 1 ≤ 1 + e'; omega, by show 1 + e' ≤ 3; omega, l.n1, ?_, l.w3, l.tt⟩
    · intro w hw
      simp at hw
      rcases hw with rfl | rfl | rfl
      · exact ⟨by omega, by omega⟩
      · exact ⟨by omega, by omega⟩
      · exact ⟨by omega, by omega⟩
    · exact l.st
  by_cases hd0 : 0 < d
  · simp -implicitDefEqProofs [hd0, b2i]
    refine hd (get_set_self hc) p3 (by omega) (wf_set wf (p3.low _)) (by omega) (by omega) fun d c4 d0 d1 p4 => ?_
    simp -implicitDefEqProofs
    refine hd (get_set_self hc) p4 (by omega) (wf_set wf (p4.low _)) (by omega) (by omega) fun d' c5 d0' d1' p5 => ?_
    simp -implicitDefEqProofs
    refine hd (get_set_self hc) p5 (by omega) (wf_set wf (p5.low _)) (by omega) (by omega) fun e' c6 e0' e1' p6 => ?_
    have := endg true d d' e' c6 d0 d1 d0' d1' e0' e1' (p6.le (by omega))
    simpa -implicitDefEqProofs [wp_done_d, lo_set (lo_self wf) (p6.low _), PlanT.toD, stepD, intsD] using this
  · simp -implicitDefEqProofs [hd0, b2i]
    refine hd (get_set_self hc) p3 (by omega) (wf_set wf (p3.low _)) (by omega) (by omega) fun d c4 d0 d1 p4 => ?_
    simp -implicitDefEqProofs
    refine hd (get_set_self hc) p4 (by omega) (wf_set wf (p4.low _)) (by omega) (by omega) fun d' c5 d0' d1' p5 => ?_
    simp -implicitDefEqProofs
    refine hd (get_set_self hc) p5 (by omega) (wf_set wf (p5.low _)) (by omega) (by omega) fun e' c6 e0' e1' p6 => ?_
    have := endg false d d' e' c6 d0 d1 d0' d1' e0' e1' (p6.le (by omega))
    simpa -implicitDefEqProofs [wp_done_d, lo_set (lo_self wf) (p6.low _), PlanT.toD, stepD, intsD] using this
abbrev GenOk (F : Fun) (i : Nat) (n : Nat) : Prop := ∀ {h : Hs} {p : Nat} {c : Cell} {b : Int} {Q : Vl → Hs → Prop} {E : D → Hs → Prop}, h[p]? = some c → PenC b c → b < 700000000 → wfH h = true → (∀ t c', Drawn n t → PenC (b + 1100) c' → Q (.d t.toD) (h.set p c')) → Wp (F i [.r p, .d (.int n)] h) Q E
theorem plan_ok {i iD iW iP iN iL iC : Nat} (hd : DrawOk F iD) (hw : WriteOk F iW) (hp : PartsEq F iP) (hN : F iN = run F 9 (Lb.drawn iD iW iP)) (hL : LogOk F iL 4) (hC : LogOk F iC 2) (hF : F i = run F 3 (Lb.plan iD iN iL iC)) {n : Nat} (n0 : 4 ≤ n) (n1 : n ≤ 100) : GenOk F i n := by
  intro h p c b Q E hc pc hb wf k
  rw [hF, wp_run]
  simp -implicitDefEqProofs [Lb.plan]
  refine hd hc pc (by omega) wf (by omega) (by omega) fun r c1 r0 r1 p1 => ?_
  have drw : ∀ (Q' : Vl → Hs → Prop) (E' : D → Hs → Prop), True := fun _ _ => trivial
  by_cases q0 : r = 0
  · by_cases q5 : (5 : Int) < n
    · simp -implicitDefEqProofs [q0, q5]
      refine hL (get_set_self hc) p1 (by omega) (wf_set wf (p1.low _)) fun t c2 dt p2 => ?_
      simp -implicitDefEqProofs [wp_done_d, lo_set (lo_self wf) (p2.low _)]
      exact k t c2 (dt.le (by omega)) (p2.le (by omega))
    · simp -implicitDefEqProofs [q0, q5]
      refine hd (get_set_self hc) p1 (by omega) (wf_set wf (p1.low _)) (by omega) (by omega) fun m c2 m0 m1 p2 => ?_
      simp -implicitDefEqProofs
      refine hd (get_set_self hc) p2 (by omega) (wf_set wf (p2.low _)) (by omega) (by omega) fun q c3 q0 q1 p3 => ?_
      obtain ⟨kd, hk, k0, k8⟩ : ∃ kd : Int, atI [(2 : Int), 3, 8] q = some kd ∧ 0 < kd ∧ kd ≤ 8 := by
        rcases (by omega : q = 0 ∨ q = 1 ∨ q = 2) with rfl | rfl | rfl
        · exact ⟨2, by simp, by omega, by omega⟩
        · exact ⟨3, by simp, by omega, by omega⟩
        · exact ⟨8, by simp, by omega, by omega⟩
      have hk2 : atI [D.int 2, .int 3, .int 8] q = some (.int kd) := by
        have := congrArg (Option.map D.int) hk
        rw [← atI_map] at this
        exact this
      simp -implicitDefEqProofs [hk2]
      refine drawn_ok hd hw hp hN (get_set_self hc) p3 (by omega) (wf_set wf (p3.low _)) (by omega) (by omega) k0 k8 n1 fun t c4 dt _ p4 => ?_
      simp -implicitDefEqProofs [wp_done_d, lo_set (lo_self wf) (p4.low _)]
      exact k t c4 dt (p4.le (by omega))
  · by_cases q1 : r = 1
    · have q2 : (2 : Int) < n := by omega
      simp -implicitDefEqProofs [q0, q1, q2]
      refine hC (get_set_self hc) p1 (by omega) (wf_set wf (p1.low _)) fun t c2 dt p2 => ?_
      simp -implicitDefEqProofs [wp_done_d, lo_set (lo_self wf) (p2.low _)]
      exact k t c2 (dt.le (by omega)) (p2.le (by omega))
    · simp -implicitDefEqProofs [q0, q1]
      refine hd (get_set_self hc) p1 (by omega) (wf_set wf (p1.low _)) (by omega) (by omega) fun m c2 m0 m1 p2 => ?_
      simp -implicitDefEqProofs
      refine hd (get_set_self hc) p2 (by omega) (wf_set wf (p2.low _)) (by omega) (by omega) fun q c3 q0 q1 p3 => ?_
      obtain ⟨kd, hk, k0, k8⟩ : ∃ kd : Int, atI [(2 : Int), 3, 8] q = some kd ∧ 0 < kd ∧ kd ≤ 8 := by
        rcases (by omega : q = 0 ∨ q = 1 ∨ q = 2) with rfl | rfl | rfl
        · exact ⟨2, by simp, by omega, by omega⟩
        · exact ⟨3, by simp, by omega, by omega⟩
        · exact ⟨8, by simp, by omega, by omega⟩
      have hk2 : atI [D.int 2, .int 3, .int 8] q = some (.int kd) := by
        have := congrArg (Option.map D.int) hk
        rw [← atI_map] at this
        exact this
      simp -implicitDefEqProofs [hk2]
      refine drawn_ok hd hw hp hN (get_set_self hc) p3 (by omega) (wf_set wf (p3.low _)) (by omega) (by omega) k0 k8 n1 fun t c4 dt _ p4 => ?_
      simp -implicitDefEqProofs [wp_done_d, lo_set (lo_self wf) (p4.low _)]
      exact k t c4 dt (p4.le (by omega))
end
end L3
/-! L3 library: falls. -/
namespace L3
open PySem
namespace Lb
def are_pieces (ib : Nat) : List Sm := [
  .ite (.or (.not (.prim (.isi .list) [(.var 1)])) (.not (.prim .all [(.comp false (.call ib [(.var 2), (.prim .len [(.attr 0 3 "parts" (.var 0))])]) (.nm 2) .seq [(.var 1)] [])]))) [.ret (.cst (.bl false))] [],
  .ret (.prim .eq [(.prim .lenset [(.var 1)]), (.prim .len [(.var 1)])])]
def lower_pieces : List Sm := [
  .ret (.comp false (.var 2) (.tup [2, 3]) .enum [(.attr 0 4 "ranks" (.var 0))] [(.prim .lt [(.var 3), (.var 1)])])]
def is_fall (ia il : Nat) : List Sm := [
  .ite (.not (.call ia [(.var 0), (.var 1)])) [.ret (.cst (.bl false))] [],
  .for_ (.tup [2, 3]) .enum [(.var 1)] [.ite (.not (.prim .all [(.comp false (.prim .in_ [(.var 4), (.mk false .slU [(.var 1), (.var 2)])]) (.nm 4) .seq [(.call il [(.var 0), (.prim .item [(.attr 0 4 "ranks" (.var 0)), (.var 3)])])] [])])) [.ret (.cst (.bl false))] []],
  .ret (.cst (.bl true))]
def is_whole : List Sm := [
  .ret (.and (.prim (.isi .int) [(.var 0)]) (.and (.not (.prim (.isi .bool) [(.var 0)])) (.chain .le .lt (.var 1) (.var 0) (.var 2))))]
def law_ranks (iP : Nat) : List Sm := [
  .ret (.comp false (.prim .count [(.mk false .slU [(.prim .item [(.var 0), (.cst (.int 2))]), (.prim .item [(.var 1), (.cst (.int 0))])]), (.cst .non)]) (.nm 1) .seq [(.call iP [(.var 0)])] [])]
def law_is_fall (iR iW : Nat) : List Sm := [
  .asg (.nm 2) (.call iR [(.var 0)]),
  .ite (.or (.not (.prim (.isi .list) [(.var 1)])) (.not (.prim .all [(.comp false (.call iW [(.var 5), (.cst (.int 0)), (.prim .len [(.var 2)])]) (.nm 5) .seq [(.var 1)] [])]))) [.ret (.cst (.bl false))] [],
  .for_ (.nm 3) .rng [(.prim .len [(.var 1)])] [.ite (.prim .in_ [(.prim .item [(.var 1), (.var 3)]), (.mk false .slU [(.var 1), (.var 3)])]) [.ret (.cst (.bl false))] [], .ite (.prim .any [(.comp false (.and (.prim .lt [(.prim .item [(.var 2), (.var 4)]), (.prim .item [(.var 2), (.prim .item [(.var 1), (.var 3)])])]) (.prim .notin [(.var 4), (.mk false .slU [(.var 1), (.var 3)])])) (.nm 4) .rng [(.prim .len [(.var 2)])] [])]) [.ret (.cst (.bl false))] []],
  .ret (.cst (.bl true))]
end Lb
/-! ### different items -/
theorem dd_len : ∀ (is acc : List Int), (is.foldl PyProof.Rows.step_dedup acc).length ≤ acc.length + is.length ∧ ((is.foldl PyProof.Rows.step_dedup acc).length = acc.length + is.length ↔ is.Nodup ∧ ∀ x ∈ is, x ∉ acc)
  | [], acc => by simp
  | k :: r, acc => by
    rw [List.foldl_cons]
    by_cases hk : k ∈ acc
    · have e : PyProof.Rows.step_dedup acc k = acc := by
        unfold PyProof.Rows.step_dedup
        rw [if_pos (List.any_eq_true.mpr ⟨k, hk, by simp⟩)]
      have ih := dd_len r acc
      rw [e]
      refine ⟨by rw [List.length_cons]; omega, ⟨fun h => ?_, fun h => absurd hk (h.2 k List.mem_cons_self)⟩⟩
      rw [List.length_cons] at h
      omega
    · have e : PyProof.Rows.step_dedup acc k = acc ++ [k] := by
        unfold PyProof.Rows.step_dedup
        rw [if_neg]
        intro h
        obtain ⟨y, hy, ey⟩ := List.any_eq_true.mp h
        rw [eq_of_beq ey] at hy
        exact hk hy
      have ih := dd_len r (acc ++ [k])
      rw [e]
      rw [List.length_append, List.length_singleton] at ih
      rw [List.length_cons]
      refine ⟨by omega, ?_⟩
      rw [show acc.length + (r.length + 1) = acc.length + 1 + r.length by omega, ih.2, List.nodup_cons]
      constructor
      · rintro ⟨h1, h2⟩
        refine ⟨⟨fun hm => h2 k hm (by simp), h1⟩, fun x hx => ?_⟩
        rcases List.mem_cons.mp hx with q | q
        · rw [q]; exact hk
        · exact fun z => h2 x q (by simp [z])
      · rintro ⟨⟨h1, h2⟩, h3⟩
        refine ⟨h2, fun x hx z => ?_⟩
        rcases List.mem_append.mp z with q | q
        · exact h3 x (List.mem_cons_of_mem _ hx) q
        · rw [List.mem_singleton.mp q] at hx
          exact h1 hx
theorem dedup_iff (is : List Int) : (dedupI is).length = is.length ↔ is.Nodup := by
  have := (dd_len is []).2
  simp only [List.length_nil, Nat.zero_add] at this
  unfold dedupI
  rw [this]
  simp
/-! ### lists of ints -/
theorem below_ints : ∀ {xs : List D} {n : Int}, (xs.all fun y => isBelow y n) = true → ∃ is : List Int, xs = is.map .int ∧ ∀ i ∈ is, 0 ≤ i ∧ i < n
  | [], n, _ => ⟨[], rfl, by simp⟩
  | x :: r, n, h => by
    rw [List.all_cons, Bool.and_eq_true] at h
    obtain ⟨is, e, hi⟩ := below_ints h.2
    cases x <;> first | (exfalso; have hq := h.1; simp [isBelow] at hq; done) | skip
    rename_i i
    have hb := h.1
    simp only [isBelow, Bool.and_eq_true, decide_eq_true_eq] at hb
    refine ⟨i :: is, by rw [e]; rfl, fun j hj => ?_⟩
    rcases List.mem_cons.mp hj with q | q
    · rw [q]; exact hb
    · exact hi j q
theorem ints_below {is : List Int} {n : Int} (h : ∀ i ∈ is, 0 ≤ i ∧ i < n) : ((is.map D.int).all fun y => isBelow y n) = true := by
  rw [List.all_map, List.all_eq_true]
  intro i hi
  have := h i hi
  simp [isBelow, this.1, this.2]
theorem allI_ints : ∀ is : List Int, allI ((is.map D.int).map Vl.d) = some is
  | [] => rfl
  | i :: r => by
    have := allI_ints r
    simp only [List.map_cons, allI, this, Option.map_some]
theorem p_lenset {is : List Int} {h : Hs} (hl : is.length ≤ 1000) : pr .lenset [.d (.lst (is.map .int))] h = .ok (.d (.int (dedupI is).length)) h := by
  simp only [pr, lview_d, Option.bind_some, allI_ints, if_pos hl, okI]
theorem inL_ints (i : Int) : ∀ is : List Int, inL (.int i) (is.map .int) = is.contains i
  | [] => by simp [inL]
  | j :: r => by
    rw [List.map_cons, inL, inL_ints i r, eqvD, List.contains_cons]
    rw [beq_comm']
theorem plain_ints (is : List Int) : plainDs (is.map D.int) = true ∧ depthDs (is.map D.int) ≤ 48 := by
  have := deps_ok (deps_map (n := 0) (f := D.int) is fun x _ => by rw [dep])
  exact ⟨this.1, by omega⟩
theorem in_ints {i : Int} {is : List Int} {h : Hs} : inV (.d (.int i)) (.d (.lst (is.map .int))) h = some (is.contains i) := by
  obtain ⟨p1, p2⟩ := plain_ints is
  have e1 : sview (.d (.lst (is.map .int))) h = some ((is.map D.int).map .d) := rfl
  have e2 : kview (.d (.lst (is.map .int))) h = none := rfl
  unfold inV
  simp [Vl.toD, e1, e2, plainD, p1, depthD, p2, inL_ints]
theorem in_intsT {i : Int} {is : List Int} {k : Nat} {h : Hs} : inV (.d (.int i)) (.d (.lst ((is.map .int).take k))) h = some (decide (i ∈ is.take k)) := by
  rw [← List.map_take, in_ints, List.contains_eq_mem]
def allQ (bs : List Bool) : Bool := bs.all id
def anyQ (bs : List Bool) : Bool := bs.any id
theorem p_allB {bs : List Bool} {h : Hs} : pr .all [.d (.lst (bs.map .bl))] h = .ok (.d (.bl (allQ bs))) h := p_allM (g := fun b => b) (xs := bs)
theorem p_anyB {bs : List Bool} {h : Hs} : pr .any [.d (.lst (bs.map .bl))] h = .ok (.d (.bl (anyQ bs))) h := p_anyM (g := fun b => b) (xs := bs)
theorem ev_mapB {F : Fun} {x : Ex} {t : Tn} {k : ItK} {its cs : List Ex} {e : Env} {h : Hs} {α : Type} {xs : List α} {r : α → List Vl} (g : α → Bool) (hrows : rowsM F k its e h = .ok (xs.map r) h) (hl : xs.length ≤ LIM) (hf : ∀ y ∈ xs, turnM F x t cs e (r y) h = .ok (some (.d (.bl (g y)))) h) :
    ∃ bs : List Bool, ev F (.comp false x t k its cs) e h = .ok (.d (.lst (bs.map .bl))) h ∧ allQ bs = xs.all g ∧ anyQ bs = xs.any g := by
  refine ⟨xs.map g, ?_, ?_, ?_⟩
  · rw [ev_map (g := fun y => .bl (g y)) hrows hl hf, List.map_map]
    rfl
  · unfold allQ; rw [List.all_map]; rfl
  · unfold anyQ; rw [List.any_map]; rfl
/-- a thing that may be asked -/
def okT (x : D) : Bool := match x with
  | .lst xs => noRos xs && decide (xs.length ≤ 500)
  | .ro _ => false
  | _ => true
/-- pieces: different, in range -/
def PiecesP (n : Nat) (x : D) : Prop := ∃ is : List Int, x = .lst (is.map .int) ∧ (∀ i ∈ is, 0 ≤ i ∧ i < n) ∧ is.Nodup
section
variable {F : Fun}
theorem are_pieces_eq {i ib : Nat} (hb : BelowEq F ib) (hF : F i = run F 3 (Lb.are_pieces ib)) {t : PlanT} {x : D} {h : Hs} (w : wfH h = true) (hx : okT x = true) : ∃ b, F i [.d t.obj, .d x] h = .ok (.d (.bl b)) h ∧ (b = true ↔ PiecesP t.parts.length x) := by
  have no : (∀ xs, x ≠ .lst xs) → F i [.d t.obj, .d x] h = .ok (.d (.bl false)) h → ∃ b, F i [.d t.obj, .d x] h = .ok (.d (.bl b)) h ∧ (b = true ↔ PiecesP t.parts.length x) := fun hn e => ⟨false, e, by
    constructor
    · intro z; cases z
    · rintro ⟨is, z, _⟩
      exact absurd z (hn _)⟩
  by_cases hl : ∃ xs, x = .lst xs
  · obtain ⟨xs, rfl⟩ := hl
    simp only [okT, Bool.and_eq_true, decide_eq_true_eq] at hx
    obtain ⟨bs, hc, hal, _⟩ := ev_mapB (F := F) (x := .call ib [(.var 2), (.prim .len [(.attr 0 3 "parts" (.var 0))])]) (t := .nm 2) (k := .seq) (its := [(.var 1)]) (cs := []) (e := [some (.d t.obj), some (.d (.lst xs)), none]) (h := h) (xs := xs) (r := fun x => [.d x]) (fun x => isBelow x t.parts.length) (rows_seqL (by simp)) (limE (by omega)) fun y hy => by
      have hn : noRo y = true := List.all_eq_true.mp hx.1 y hy
      have e := hb (x := y) (n := t.parts.length) w hn
      simp -implicitDefEqProofs [PlanT.obj, PlanT.flds, objOf, e]
    cases ha : xs.all (fun y => isBelow y t.parts.length) with
    | false =>
      rw [ha] at hal
      refine ⟨false, ?_, ?_⟩
      · rw [hF]
        refine eq_run w ?_
        simp -implicitDefEqProofs [Lb.are_pieces, hc, -p_allM, p_allB, hal]
      · constructor
        · intro z; cases z
        · rintro ⟨is, z, h1, _⟩
          cases z
          rw [ints_below h1] at ha
          cases ha
    | true =>
      rw [ha] at hal
      obtain ⟨is, rfl, hi⟩ := below_ints ha
      rw [List.length_map] at hx
      refine ⟨decide ((dedupI is).length = is.length), ?_, ?_⟩
      · rw [hF]
        refine eq_run w ?_
        have e1 : (((dedupI is).length : Int) == (is.length : Int)) = decide ((dedupI is).length = is.length) := by
          rw [Bool.eq_iff_iff]
          simp only [beq_iff_eq, decide_eq_true_eq]
          omega
        simp -implicitDefEqProofs [Lb.are_pieces, hc, -p_allM, p_allB, hal, p_lenset (is := is) (show is.length ≤ 1000 by omega), e1]
      · rw [decide_eq_true_iff, dedup_iff]
        constructor
        · exact fun z => ⟨is, rfl, hi, z⟩
        · rintro ⟨js, z, _, h2⟩
          have : is = js := by
            have e := D.lst.inj z
            exact (List.map_inj_right (fun a b q => by cases q; rfl)).mp e
          rw [this]
          exact h2
  · refine no (fun xs z => hl ⟨xs, z⟩) ?_
    rw [hF]
    refine eq_run w ?_
    cases x <;> first | (cases hx; done) | (exact absurd ⟨_, rfl⟩ hl) | simp -implicitDefEqProofs [Lb.are_pieces, isTyV, isTy]
/-- a loop that hands back False at the first turn that is not right -/
theorem for_all {E : D → Hs → Prop} {α : Type} {f : List Vl → Env → Hs → Out Fl} {r : α → List Vl} {Q : Fl → Hs → Prop} (ok : List α → α → Bool) (J : List α → Env → Hs → Prop) (R : Hs → Prop) (xs : List α) {e : Env} {h : Hs} (j : J [] e h)
    (hf : ∀ pre x post e h, xs = pre ++ x :: post → J pre e h → Wp (f (r x) e h) (fun fl h' => (ok pre x = true ∧ ∃ e', fl = .nx e' ∧ J (pre ++ [x]) e' h') ∨ (ok pre x = false ∧ fl = .rt (.d (.bl false)) ∧ R h')) E)
    (k1 : (∀ pre x post, xs = pre ++ x :: post → ok pre x = true) → ∀ e' h', J xs e' h' → Q (.nx e') h') (k2 : (∃ pre x post, xs = pre ++ x :: post ∧ ok pre x = false) → ∀ h', R h' → Q (.rt (.d (.bl false))) h') : Wp (forL f (xs.map r) e h) Q E := by
  have key : ∀ (post pre : List α) (e : Env) (h : Hs), xs = pre ++ post → (∀ p x q, xs = p ++ x :: q → p.length < pre.length → ok p x = true) → J pre e h → Wp (forL f (post.map r) e h) Q E := by
    intro post
    induction post with
    | nil =>
      intro pre e h hx hp j
      rw [List.append_nil] at hx
      subst hx
      refine k1 (fun p x q hq => hp p x q hq ?_) e h j
      have := congrArg List.length hq
      rw [List.length_append, List.length_cons] at this
      omega
    | cons x post ih =>
      intro pre e h hx hp j
      rw [List.map_cons, forL, wp_bind]
      refine (hf pre x post e h hx j).mono fun fl h1 j1 => ?_
      rcases j1 with ⟨o, e', rfl, j2⟩ | ⟨o, rfl, j2⟩
      · refine ih (pre ++ [x]) e' h1 (by rw [hx]; simp) (fun p y q hq hl => ?_) j2
        rw [List.length_append, List.length_singleton] at hl
        by_cases hlt : p.length < pre.length
        · exact hp p y q hq hlt
        · have hpl : p.length = pre.length := by omega
          have e1 : pre ++ x :: post = p ++ y :: q := hx.symm.trans hq
          obtain ⟨e2, e3⟩ := List.append_inj e1 hpl.symm
          cases e3
          rw [← e2]
          exact o
      · exact k2 ⟨pre, x, post, hx, o⟩ h1 j2
  exact key xs [] e h rfl (fun _ _ _ _ z => absurd z (Nat.not_lt_zero _)) j
def lowerI (ranks : List Int) (e : Int) : List Int := (ranks.zipIdx.filter fun p => decide (p.1 < e)).map fun p => (p.2 : Int)
theorem mem_lower {ranks : List Int} {e j : Int} : j ∈ lowerI ranks e ↔ ∃ k : Nat, k < ranks.length ∧ ranks.getD k 0 < e ∧ j = k := by
  unfold lowerI
  rw [List.mem_map]
  constructor
  · rintro ⟨⟨r, k⟩, hm, rfl⟩
    rw [List.mem_filter] at hm
    obtain ⟨h1, h2⟩ := hm
    have h3 := List.mem_zipIdx h1
    simp only [Nat.zero_add, Nat.sub_zero] at h3
    refine ⟨k, h3.2.1, ?_, rfl⟩
    rw [List.getD_eq_getElem?_getD, List.getElem?_eq_getElem h3.2.1, Option.getD_some, ← h3.2.2]
    exact of_decide_eq_true h2
  · rintro ⟨k, hk, hr, rfl⟩
    refine ⟨(ranks[k], k), List.mem_filter.mpr ⟨?_, ?_⟩, rfl⟩
    · rw [List.mem_zipIdx_iff_getElem?]
      simp [hk]
    · rw [List.getD_eq_getElem?_getD, List.getElem?_eq_getElem hk, Option.getD_some] at hr
      exact decide_eq_true hr
theorem lower_len {ranks : List Int} {e : Int} : (lowerI ranks e).length ≤ ranks.length := by
  unfold lowerI
  rw [List.length_map]
  refine Nat.le_trans (List.length_filter_le _ _) ?_
  rw [List.length_zipIdx]
  exact Nat.le_refl _
theorem ranks_len (t : PlanT) : t.ranks.length = t.parts.length := by unfold PlanT.ranks; rw [List.length_map]
theorem lower_eq {i : Nat} (hF : F i = run F 4 Lb.lower_pieces) {t : PlanT} (hl : t.parts.length ≤ 500) {e : Int} {h : Hs} (w : wfH h = true) : F i [.d t.obj, .d (.int e)] h = .ok (.d (.lst ((lowerI t.ranks e).map .int))) h := by
  rw [hF]
  refine eq_run w ?_
  have hr : rowsM F .enum [.attr 0 4 "ranks" (.var 0)] [some (.d t.obj), some (.d (.int e)), none, none] h = .ok (t.ranks.zipIdx.map fun p => [.d (.int p.2), .d (.int p.1)]) h := by
    simp -implicitDefEqProofs [PlanT.obj, PlanT.flds, objOf, rowsOf_enum]
  have hc := ev_filter (F := F) (x := .var 2) (t := .tup [2, 3]) (k := .enum) (its := [.attr 0 4 "ranks" (.var 0)]) (cs := [(.prim .lt [(.var 3), (.var 1)])]) (e := [some (.d t.obj), some (.d (.int e)), none, none]) (h := h) (xs := t.ranks.zipIdx) (r := fun p => [.d (.int p.2), .d (.int p.1)]) (fun p => decide (p.1 < e)) (fun p => .int p.2) hr (limE (by rw [List.length_zipIdx, ranks_len]; omega)) fun p hp => by
    by_cases q : p.1 < e <;> simp -implicitDefEqProofs [q]
  simp -implicitDefEqProofs [Lb.lower_pieces, hc, lowerI, Function.comp_def]
/-- a fall -/
def FallP (ranks : List Int) (x : D) : Prop := ∃ is : List Int, x = .lst (is.map .int) ∧ (∀ i ∈ is, 0 ≤ i ∧ i < ranks.length) ∧ is.Nodup ∧ ∀ (k : Nat) (i : Int), is[k]? = some i → ∀ j < ranks.length, ranks.getD j 0 < ranks.getD i.toNat 0 → (j : Int) ∈ is.take k
theorem zip_pre {α : Type} {xs : List α} {pre post : List (α × Nat)} {p : α × Nat} (h : xs.zipIdx = pre ++ p :: post) : p.2 = pre.length ∧ xs[pre.length]? = some p.1 := by
  have h1 : xs.zipIdx[pre.length]? = some p := by rw [h]; simp
  rw [List.getElem?_zipIdx] at h1
  cases q : xs[pre.length]? with
  | none => rw [q] at h1; cases h1
  | some y =>
    rw [q] at h1
    have := Option.some.inj h1
    rw [← this]
    simp
theorem take_cut {is : List Int} {k : Nat} (h : k ≤ is.length) : cutD (is.map D.int) 0 (slOf is.length (k : Int)) = (is.take k).map .int := by
  rw [slOf_nat, Nat.min_eq_left h, cutD_map]
  rfl
theorem is_fall_eq {i ia il : Nat} {t : PlanT} (ha : ∀ {x : D} {h : Hs}, wfH h = true → okT x = true → ∃ b, F ia [.d t.obj, .d x] h = .ok (.d (.bl b)) h ∧ (b = true ↔ PiecesP t.parts.length x)) (hl : ∀ {e : Int} {h : Hs}, wfH h = true → F il [.d t.obj, .d (.int e)] h = .ok (.d (.lst ((lowerI t.ranks e).map .int))) h)
    (hF : F i = run F 5 (Lb.is_fall ia il)) (ht : t.parts.length ≤ 500) {x : D} {h : Hs} (w : wfH h = true) (hx : okT x = true) : ∃ b, F i [.d t.obj, .d x] h = .ok (.d (.bl b)) h ∧ (b = true ↔ FallP t.ranks x) := by
  obtain ⟨b, e1, e2⟩ := ha w hx
  cases b with
  | false =>
    refine ⟨false, ?_, ⟨fun z => (by cases z), fun ⟨is, z1, z2, z3, _⟩ => ?_⟩⟩
    · rw [hF]
      refine eq_run w ?_
      simp -implicitDefEqProofs [Lb.is_fall, e1]
    · exact absurd (e2.mpr ⟨is, z1, by rw [← ranks_len]; exact z2, z3⟩) (by simp)
  | true =>
    obtain ⟨is, rfl, hi, hnd⟩ := e2.mp rfl
    simp only [okT, Bool.and_eq_true, decide_eq_true_eq, List.length_map] at hx
    have main : Wp (F i [.d t.obj, .d (.lst (is.map .int))] h) (fun v h' => h' = h ∧ ∃ b, v = .d (.bl b) ∧ (b = true ↔ FallP t.ranks (.lst (is.map .int)))) NoX := by
      rw [hF, wp_run]
      simp -implicitDefEqProofs [Lb.is_fall, e1, y_for, rowsOf_enum]
      refine for_all (fun pre p => (lowerI t.ranks (t.ranks.getD p.1.toNat 0)).all fun o => (is.take pre.length).contains o) (fun pre e h' => ∃ a b c, e = [some (.d t.obj), some (.d (.lst (is.map .int))), a, b, c] ∧ h' = h) (fun h' => h' = h) _ ⟨_, _, _, rfl, rfl⟩ ?_ ?_ ?_
      · rintro pre ⟨p, n⟩ post e h' hk ⟨a, b, c, rfl, rfl⟩
        obtain ⟨hn, hg⟩ := zip_pre hk
        simp only at hn
        subst hn
        obtain ⟨hlt, hge⟩ := List.getElem?_eq_some_iff.mp hg
        have hpi := hi p (by have hm := List.getElem_mem hlt; rw [hge] at hm; exact hm)
        have hat : atI t.ranks p = some (t.ranks.getD p.toNat 0) := by
          have hb : p.toNat < t.ranks.length := by rw [ranks_len]; omega
          rw [atI_nat hpi.1 (by rw [ranks_len]; exact hpi.2), List.getD_eq_getElem?_getD, List.getElem?_eq_getElem hb]
          rfl
        have hlow := hl (e := t.ranks.getD p.toNat 0) w
        have hcut := take_cut (is := is) (k := pre.length) (by omega)
        have hlen := lower_len (ranks := t.ranks) (e := t.ranks.getD p.toNat 0)
        rw [ranks_len] at hlen
        obtain ⟨bs, hc, hal, _⟩ := ev_mapB (F := F) (x := .prim .in_ [(.var 4), (.mk false .slU [(.var 1), (.var 2)])]) (t := .nm 4) (k := .seq) (its := [(.call il [(.var 0), (.prim .item [(.attr 0 4 "ranks" (.var 0)), (.var 3)])])]) (cs := []) (e := [some (.d t.obj), some (.d (.lst (is.map .int))), some (.d (.int pre.length)), some (.d (.int p)), c]) (h := h') (xs := lowerI t.ranks (t.ranks.getD p.toNat 0)) (r := fun o => [.d (.int o)]) (fun o => (is.take pre.length).contains o) (rows_mapL (by
          simp -implicitDefEqProofs [PlanT.obj, PlanT.flds, objOf, hat] at hlow ⊢
          exact hlow)) (limE (by omega)) fun o ho => by
          have hle : min pre.length is.length ≤ LIM := limE (by omega)
          simp -implicitDefEqProofs [hcut, in_intsT, hle]
        cases hb : (lowerI t.ranks (t.ranks.getD p.toNat 0)).all fun o => (is.take pre.length).contains o with
        | true =>
          rw [hb] at hal
          simp -implicitDefEqProofs [hc, -p_allM, p_allB, hal]
        | false =>
          rw [hb] at hal
          simp -implicitDefEqProofs [hc, -p_allM, p_allB, hal]
      · rintro hall e' h' ⟨a, b, c, rfl, rfl⟩
        simp -implicitDefEqProofs [wp_done_d, lo_self w]
        refine ⟨is, rfl, by rw [ranks_len]; exact hi, hnd, fun k i hk j hj hr => ?_⟩
        obtain ⟨hlt, hge⟩ := List.getElem?_eq_some_iff.mp hk
        have hz : is.zipIdx[k]? = some (i, k) := by rw [List.getElem?_zipIdx, hk]; simp
        obtain ⟨hzl, hze⟩ := List.getElem?_eq_some_iff.mp hz
        have hsp : is.zipIdx = is.zipIdx.take k ++ (i, k) :: is.zipIdx.drop (k + 1) := by
          rw [← hze, ← List.drop_eq_getElem_cons hzl, List.take_append_drop]
        have := hall _ _ _ hsp
        rw [List.length_take, Nat.min_eq_left (by omega)] at this
        have := List.all_eq_true.mp this (j : Int) (mem_lower.mpr ⟨j, hj, hr, rfl⟩)
        simpa using this
      · rintro ⟨pre, ⟨p, n⟩, post, hk, ho⟩ h' rfl
        simp -implicitDefEqProofs [wp_done_d, lo_self w]
        rintro ⟨js, z, _, _, hq⟩
        have hjs : is = js := (List.map_inj_right (fun a b q => by cases q; rfl)).mp (D.lst.inj z)
        subst hjs
        obtain ⟨hn, hg⟩ := zip_pre hk
        have : ((lowerI t.ranks (t.ranks.getD p.toNat 0)).all fun o => (is.take pre.length).contains o) = true := by
          refine List.all_eq_true.mpr fun o hm => ?_
          obtain ⟨j, hj, hr, rfl⟩ := mem_lower.mp hm
          simpa using hq pre.length p hg j hj hr
        rw [this] at ho
        cases ho
    cases q : F i [.d t.obj, .d (.lst (is.map .int))] h with
    | ok v h' =>
      rw [q] at main
      obtain ⟨rfl, b, rfl, hb⟩ := main
      exact ⟨b, rfl, hb⟩
    | ex _ _ => rw [q] at main; exact main.elim
    | bad => rw [q] at main; exact main.elim
end
end L3
/-! L3 library: what laws share. -/
namespace L3
open PySem
section
variable {F : Fun}
theorem plan_of_eq {i iI : Nat} (hI : InitEq F iI) (hF : F i = run F 1 (Lb.plan_of iI)) {t : PlanT} (ok : t.ok) {h : Hs} (wf : wfH h = true) : F i [.d t.toD] h = .ok (.d t.obj) h := by
  rw [hF]
  refine eq_of_wp ?_
  rw [wp_run]
  have e := hI ok wf
  simp -implicitDefEqProofs [Lb.plan_of, PlanT.toD, e, wp_done_d, lo_self wf, PlanT.obj]
theorem slOf_lt {n k : Nat} (h : k ≤ n) : slOf n (k : Int) = k := by rw [slOf_nat, Nat.min_eq_left h]
theorem slOf_lt1 {n k : Nat} (h : k + 1 ≤ n) : slOf n ((k : Int) + 1) = k + 1 := slOf_lt (k := k + 1) h
theorem slOf_neg1 {n : Nat} : slOf n (-1) = n - 1 := by
  unfold slOf
  rw [if_neg (by decide)]
  omega
theorem cut_take {α : Type} {xs : List α} {k : Nat} : cutD xs 0 k = xs.take k := rfl
theorem cut_drop {α : Type} {xs : List α} {k : Nat} : cutD xs k xs.length = xs.drop k := by
  unfold cutD
  rw [List.take_length]
theorem atI_neg1 {α : Type} {xs : List α} (h : xs ≠ []) : ∃ x, atI xs (-1) = some x ∧ x ∈ xs := by
  have hl := List.length_pos_iff.mpr h
  unfold atI ixOf
  rw [if_neg (by decide), if_pos (by omega)]
  have : (-1 + (xs.length : Int)).toNat < xs.length := by omega
  refine ⟨xs[(-1 + (xs.length : Int)).toNat], ?_, List.getElem_mem _⟩
  simp [List.getElem?_eq_getElem this]
theorem pen_eq {i : Nat} (hF : F i = run F 1 Lb.pen) {ns : List Int} (hn : ns.length ≤ 63) : ∃ c, PenC 0 c ∧ F i [.d (.ro ns)] [] = .ok (.r 0) [c] := by
  refine ⟨.lst [.d (.lst ((ns.take 60).map .int)), .d (.int 0), .d (.int 0)], ⟨ns.take 60, 0, 0, rfl, by omega, by omega, by simp; omega⟩, ?_⟩
  rw [hF]
  refine eq_of_wp ?_
  rw [wp_run]
  have e1 : mk false .slU [.d (.ro ns), .d (.int 60)] ([] : Hs) = .ok (.d (.lst ((ns.take 60).map .int))) [] := by
    have h60 : slOf ns.length 60 = min 60 ns.length := slOf_nat ns.length 60
    have ht : ns.take (min 60 ns.length) = ns.take 60 := by
      by_cases q : 60 ≤ ns.length
      · rw [Nat.min_eq_left q]
      · rw [Nat.min_eq_right (by omega), List.take_of_length_le (Nat.le_refl _), List.take_of_length_le (by omega)]
    show mkL false (cutD (ns.map fun i => .d (.int i)) 0 (slOf (ns.map fun i => Vl.d (.int i)).length 60)) [] = _
    rw [List.length_map, h60, cutD_map, cut_take, ht, mkLF_m, if_pos (limE (by simp; omega))]
  have hl : min 60 ns.length ≤ LIM := limE (by omega)
  simp -implicitDefEqProofs [Lb.pen, e1, hl]
  rw [wp_done_r (c := .lst [.d (.lst ((ns.take 60).map .int)), .d (.int 0), .d (.int 0)]) (by simp) rfl (by simp) rfl rfl]
  simp
theorem eqV_BB (a b : Bool) (h : Hs) : eqV (.d (.bl a)) (.d (.bl b)) h = some (a == b) := by rw [eqV_d (by simp [dep]) (by simp [dep]), eqvD]
theorem isObj_plan {t : PlanT} {h : Hs} : isObj 0 (.d t.obj) h = true := rfl
theorem isCV_plan {t : PlanT} {h : Hs} : isCV [0] (.d t.obj) h = some true := rfl
theorem isCV_no {x : D} (hx : noObj x = true) {h : Hs} : isCV [0] (.d x) h = some false := by cases x <;> first | (cases hx; done) | rfl
abbrev OfEq (F : Fun) (i : Nat) : Prop := ∀ {t : PlanT} {h : Hs}, t.ok → wfH h = true → F i [.d t.toD] h = .ok (.d t.obj) h
theorem Drawn.ok {n : Nat} {t : PlanT} (d : Drawn n t) (hn : n ≤ 13) : t.ok := by
  refine ⟨d.c0, by have := d.c1; omega, d.cw, d.s0, by have := d.s1; omega, by have := d.n1; omega, d.st, ?_⟩
  have := pcs_len t.steps t.span
  have := d.tt
  show (pcs t.steps t.span).length ≤ 40
  omega
/-- a law that answers true -/
theorem law_of {i : Nat} {as : List Vl} (h : Wp (F i as []) (fun v _ => v = .d (.bl true)) NoX) : ∃ h', F i as [] = .ok (.d (.bl true)) h' := by
  cases q : F i as [] with
  | ok v h' =>
    rw [q] at h
    have e : v = .d (.bl true) := h
    exact ⟨h', by rw [e]⟩
  | ex x h' => rw [q] at h; exact h.elim
  | bad => rw [q] at h; exact h.elim
/-! ### the epochs -/
theorem take_min {α : Type} {xs : List α} {k : Nat} : xs.take (min k xs.length) = xs.take k := by
  by_cases q : k ≤ xs.length
  · rw [Nat.min_eq_left q]
  · rw [Nat.min_eq_right (by omega), List.take_of_length_le (Nat.le_refl _), List.take_of_length_le (by omega)]
theorem cut_map {α : Type} {f : α → D} {xs : List α} {i : Int} (h0 : 0 ≤ i) : cutD (xs.map f) 0 (slOf xs.length i) = (xs.take i.toNat).map f := by
  rw [cutD_map, slOf_nn h0, cut_take, take_min]
theorem count_non {steps : List Stp} {h : Hs} : pr .count [.d (.lst (steps.map stepD)), .d .non] h = .ok (.d (.int (nones steps))) h := by
  have hds := deps_ok (deps_map (n := 47) (f := stepD) steps fun x _ => dep_up dep_step)
  have hds2 : depthDs (steps.map stepD) ≤ 48 := by omega
  have q1 : plainD .non = true := by simp [plainD]
  have q2 : depthD .non ≤ 48 := by simp [depthD]
  simp -implicitDefEqProofs only [p_count, q1, q2, hds.1, hds2, decide_true, Bool.and_self, if_true, nones_filter]
abbrev RanksEq (F : Fun) (i : Nat) : Prop := ∀ {t : PlanT} {h : Hs}, t.ok → total t.steps ≤ 500 → wfH h = true → F i [.d t.toD] h = .ok (.d (.lst (t.ranks.map .int))) h
theorem law_ranks_eq {i iP : Nat} (hp : PartsEq F iP) (hF : F i = run F 2 (Lb.law_ranks iP)) : RanksEq F i := by
  intro t h ok htot wf
  rw [hF]
  refine eq_run wf ?_
  have e1 := hp (t := t) wf (by have := ok.s0; omega) htot (by have := ok.n1; omega) fun s hs => okStep_ne (ok.st s hs)
  have e5 := ev_map (F := F) (x := .prim .count [(.mk false .slU [(.prim .item [(.var 0), (.cst (.int 2))]), (.prim .item [(.var 1), (.cst (.int 0))])]), (.cst .non)]) (t := .nm 1) (k := .seq) (its := [(.call iP [(.var 0)])]) (cs := []) (e := [some (.d t.toD), none]) (h := h) (xs := t.parts) (r := fun p => [.d (partD p)]) (fun p => .int (rankOf t.steps p)) (rows_mapL (by simp [e1])) (limE (by have := ok.p1; omega)) fun p hp => by
    have hp0 := pcs_ix hp
    have hl2 : (t.steps.take p.1.toNat).length ≤ LIM := limE (by rw [List.length_take]; have := ok.n1; omega)
    have hc := count_non (steps := t.steps.take p.1.toNat) (h := h)
    have hcut := cut_map (f := stepD) (xs := t.steps) hp0
    simp only [x_turn, nm_names, wipe_cons, wipe_nil, bind_nm, x_tests0, bind_ok, if_true, x_prim, x_cons, x_nil, x_mk, x_var, x_cst]
    simp -implicitDefEqProofs only [List.set_cons_succ, List.set_cons_zero, List.getElem?_cons_succ, List.getElem?_cons_zero, bind_ok, PlanT.toD, partD, p_itemT, atI_0, atI_2, Option.map_some, optO_some, f_slU, List.length_map, hcut, if_pos hl2, hc]
    rfl
  simp -implicitDefEqProofs [Lb.law_ranks, e5]
  simp [PlanT.ranks]
/-! ### whole numbers -/
def isW (x : D) (lo hi : Int) : Bool := match x with
  | .int i => decide (lo ≤ i) && decide (i < hi)
  | _ => false
theorem is_whole_eq {i : Nat} (hF : F i = run F 3 Lb.is_whole) {x : D} {lo hi : Int} {h : Hs} (w : wfH h = true) (hx : noRo x = true) : F i [.d x, .d (.int lo), .d (.int hi)] h = .ok (.d (.bl (isW x lo hi))) h := by
  rw [hF]
  refine eq_run w ?_
  by_cases q : ∃ j, x = .int j
  · obtain ⟨j, rfl⟩ := q
    by_cases q : lo ≤ j <;> simp -implicitDefEqProofs [Lb.is_whole, isTyV, isTy, isW, q]
  · cases x <;> first | (cases hx; done) | (exact absurd ⟨_, rfl⟩ q) | simp -implicitDefEqProofs [Lb.is_whole, isTyV, isTy, isW]
abbrev WholeEq (F : Fun) (i : Nat) : Prop := ∀ {x : D} {lo hi : Int} {h : Hs}, wfH h = true → noRo x = true → F i [.d x, .d (.int lo), .d (.int hi)] h = .ok (.d (.bl (isW x lo hi))) h
theorem isW_below (x : D) (n : Int) : isW x 0 n = isBelow x n := by cases x <;> rfl
/-! ### falls -/
theorem range_split {n k : Nat} (h : k < n) : ∃ post, List.range n = List.range k ++ k :: post := by
  obtain ⟨m, rfl⟩ : ∃ m, n = k + (m + 1) := ⟨n - k - 1, by omega⟩
  refine ⟨(List.range m).map fun i => k + (i + 1), ?_⟩
  rw [List.range_add, List.range_succ_eq_map, List.map_cons, List.map_map]
  rfl
theorem nodup_take {is : List Int} : is.Nodup ↔ ∀ (k : Nat) (i : Int), is[k]? = some i → i ∉ is.take k := by
  constructor
  · intro h k i hk hm
    obtain ⟨hl, he⟩ := List.getElem?_eq_some_iff.mp hk
    have hs := List.take_append_drop k is
    rw [← hs, List.drop_eq_getElem_cons hl] at h
    rw [List.nodup_append] at h
    exact h.2.2 _ hm _ List.mem_cons_self he.symm
  · intro h
    refine List.pairwise_iff_getElem.mpr fun a b ha hb hab hq => ?_
    refine h b is[b] (List.getElem?_eq_getElem hb) ?_
    rw [← hq]
    exact List.mem_take_iff_getElem.mpr ⟨a, by omega, rfl⟩
theorem law_is_fall_eq {i iR iW : Nat} (hr : RanksEq F iR) (hw : WholeEq F iW) (hF : F i = run F 6 (Lb.law_is_fall iR iW)) {t : PlanT} (ok : t.ok) (ht : total t.steps ≤ 500) {x : D} {h : Hs} (w : wfH h = true) (hx : okT x = true) : ∃ b, F i [.d t.toD, .d x] h = .ok (.d (.bl b)) h ∧ (b = true ↔ FallP t.ranks x) := by
  have e1 := hr ok ht w
  have rl := ranks_len t
  have no : (∀ xs, x ≠ .lst xs) → F i [.d t.toD, .d x] h = .ok (.d (.bl false)) h → ∃ b, F i [.d t.toD, .d x] h = .ok (.d (.bl b)) h ∧ (b = true ↔ FallP t.ranks x) := fun hn e => ⟨false, e, by
    constructor
    · intro z; cases z
    · rintro ⟨is, z, _⟩
      exact absurd z (hn _)⟩
  by_cases hl : ∃ xs, x = .lst xs
  · obtain ⟨xs, rfl⟩ := hl
    simp only [okT, Bool.and_eq_true, decide_eq_true_eq] at hx
    obtain ⟨bs, hc, hal, _⟩ := ev_mapB (F := F) (x := .call iW [(.var 5), (.cst (.int 0)), (.prim .len [(.var 2)])]) (t := .nm 5) (k := .seq) (its := [(.var 1)]) (cs := []) (e := [some (.d t.toD), some (.d (.lst xs)), some (.d (.lst (t.ranks.map .int))), none, none, none]) (h := h) (xs := xs) (r := fun x => [.d x]) (fun x => isBelow x t.ranks.length) (rows_seqL (by simp)) (limE (by omega)) fun y hy => by
      have hn : noRo y = true := List.all_eq_true.mp hx.1 y hy
      have e := hw (x := y) (lo := 0) (hi := t.ranks.length) w hn
      rw [isW_below] at e
      simp -implicitDefEqProofs [e]
    cases ha : xs.all (fun y => isBelow y t.ranks.length) with
    | false =>
      rw [ha] at hal
      refine ⟨false, ?_, ?_⟩
      · rw [hF]
        refine eq_run w ?_
        simp -implicitDefEqProofs [Lb.law_is_fall, e1, hc, -p_allM, p_allB, hal]
      · constructor
        · intro z; cases z
        · rintro ⟨is, z, h1, _⟩
          cases z
          rw [ints_below h1] at ha
          cases ha
    | true =>
      rw [ha] at hal
      obtain ⟨is, rfl, hi⟩ := below_ints ha
      rw [List.length_map] at hx
      have main : Wp (F i [.d t.toD, .d (.lst (is.map .int))] h) (fun v h' => h' = h ∧ ∃ b, v = .d (.bl b) ∧ (b = true ↔ FallP t.ranks (.lst (is.map .int)))) NoX := by
        rw [hF, wp_run]
        simp -implicitDefEqProofs [Lb.law_is_fall, e1, hc, -p_allM, p_allB, hal, y_for, rowsOf_n (show is.length ≤ 1000000 by omega)]
        refine for_all (fun pre k => !((is.take k).contains (is.getD k 0)) && !((List.range t.ranks.length).any fun j => decide (t.ranks.getD j 0 < t.ranks.getD (is.getD k 0).toNat 0) && !(is.take k).contains (j : Int))) (fun pre e h' => ∃ a b c, e = [some (.d t.toD), some (.d (.lst (is.map .int))), some (.d (.lst (t.ranks.map .int))), a, b, c] ∧ h' = h) (fun h' => h' = h) _ ⟨_, _, _, rfl, rfl⟩ ?_ ?_ ?_
        · rintro pre k post e h' hk ⟨a, b, c, rfl, rfl⟩
          obtain ⟨hn, hkl⟩ := range_pre hk
          subst hn
          have hge : is.getD pre.length 0 = is[pre.length] := by rw [List.getD_eq_getElem?_getD, List.getElem?_eq_getElem hkl]; rfl
          have hat0 : atI is (pre.length : Int) = some (is.getD pre.length 0) := by rw [hge]; exact atI_k (List.getElem?_eq_getElem hkl)
          have hpi := hi (is.getD pre.length 0) (by rw [hge]; exact List.getElem_mem hkl)
          have atR : ∀ j : Int, 0 ≤ j → j < t.ranks.length → atI t.ranks j = some (t.ranks.getD j.toNat 0) := fun j h0 h1 => by
            have hb : j.toNat < t.ranks.length := by omega
            rw [atI_nat h0 h1, List.getD_eq_getElem?_getD, List.getElem?_eq_getElem hb]
            rfl
          have hat := atR _ hpi.1 hpi.2
          have hcut := take_cut (is := is) (k := pre.length) (by omega)
          have hle : min pre.length is.length ≤ LIM := limE (by omega)
          generalize is.getD pre.length 0 = p at hat0 hpi hat ⊢
          obtain ⟨cs, hc2, _, han⟩ := ev_mapB (F := F) (x := (.and (.prim .lt [(.prim .item [(.var 2), (.var 4)]), (.prim .item [(.var 2), (.prim .item [(.var 1), (.var 3)])])]) (.prim .notin [(.var 4), (.mk false .slU [(.var 1), (.var 3)])]))) (t := .nm 4) (k := .rng) (its := [(.prim .len [(.var 2)])]) (cs := []) (e := [some (.d t.toD), some (.d (.lst (is.map .int))), some (.d (.lst (t.ranks.map .int))), some (.d (.int pre.length)), b, c]) (h := h') (xs := List.range t.ranks.length) (r := fun k => [.d (.int ((k : Nat) : Int))]) (fun j => decide (t.ranks.getD j 0 < t.ranks.getD p.toNat 0) && !(is.take pre.length).contains (j : Int)) (by simp -implicitDefEqProofs [rowsOf_n (show t.ranks.length ≤ 1000000 by rw [rl]; have := ok.p1; omega)]) (limE (by rw [List.length_range, rl]; have := ok.p1; omega)) fun j hj => by
            have hj2 := List.mem_range.mp hj
            have hat2 := atR j (by omega) (by omega)
            rw [Int.toNat_natCast] at hat2
            generalize t.ranks.getD j 0 = u at hat2 ⊢
            generalize t.ranks.getD p.toNat 0 = v at hat ⊢
            by_cases q : u < v <;> simp -implicitDefEqProofs [hat0, hat, hat2, hcut, in_intsT, hle, q]
          cases q1 : (is.take pre.length).contains p with
          | true =>
            have q2 : p ∈ is.take pre.length := by simpa using q1
            simp -implicitDefEqProofs [hat0, hcut, in_intsT, hle, q2]
          | false =>
            have q2 : ¬ p ∈ is.take pre.length := by simpa using q1
            cases hb : (List.range t.ranks.length).any fun j => decide (t.ranks.getD j 0 < t.ranks.getD p.toNat 0) && !(is.take pre.length).contains (j : Int) with
            | true =>
              rw [hb] at han
              simp -implicitDefEqProofs [hat0, hcut, in_intsT, hle, q2, hc2, -p_anyM, p_anyB, han]
            | false =>
              rw [hb] at han
              simp -implicitDefEqProofs [hat0, hcut, in_intsT, hle, q2, hc2, -p_anyM, p_anyB, han]
        · rintro hall e' h' ⟨a, b, c, rfl, rfl⟩
          simp -implicitDefEqProofs [wp_done_d, lo_self w]
          have ho : ∀ (k : Nat) (i : Int), is[k]? = some i → i ∉ is.take k ∧ ∀ j < t.ranks.length, t.ranks.getD j 0 < t.ranks.getD i.toNat 0 → (j : Int) ∈ is.take k := by
            intro k i hk
            obtain ⟨hlt, hge⟩ := List.getElem?_eq_some_iff.mp hk
            obtain ⟨post, hp⟩ := range_split hlt
            have ho := hall _ _ _ hp
            have hg : is.getD k 0 = i := by rw [List.getD_eq_getElem?_getD, hk]; rfl
            rw [hg] at ho
            simp only [Bool.and_eq_true, Bool.not_eq_true', List.contains_eq_mem, decide_eq_false_iff_not, List.any_eq_false, List.mem_range, decide_eq_true_eq, not_and] at ho
            exact ⟨ho.1, fun j hj hr => Decidable.byContradiction fun z => ho.2 j hj hr z⟩
          exact ⟨is, rfl, hi, nodup_take.mpr fun k i hk => (ho k i hk).1, fun k i hk => (ho k i hk).2⟩
        · rintro ⟨pre, k, post, hk, ho⟩ h' rfl
          simp -implicitDefEqProofs [wp_done_d, lo_self w]
          rintro ⟨js, z, _, hnd, hq⟩
          have hjs : is = js := (List.map_inj_right (fun a b q => by cases q; rfl)).mp (D.lst.inj z)
          subst hjs
          obtain ⟨hn, hkl⟩ := range_pre hk
          have hg : is[k]? = some (is.getD k 0) := by rw [List.getD_eq_getElem?_getD, List.getElem?_eq_getElem hkl]; rfl
          have h1 := nodup_take.mp hnd k _ hg
          have h2 := hq k _ hg
          have : (!((is.take k).contains (is.getD k 0)) && !((List.range t.ranks.length).any fun j => decide (t.ranks.getD j 0 < t.ranks.getD (is.getD k 0).toNat 0) && !(is.take k).contains (j : Int))) = true := by
            simp only [Bool.and_eq_true, Bool.not_eq_true', List.contains_eq_mem, decide_eq_false_iff_not, List.any_eq_false, List.mem_range, decide_eq_true_eq, not_and]
            exact ⟨h1, fun j hj hr z => z (h2 j hj hr)⟩
          rw [this] at ho
          cases ho
      cases q : F i [.d t.toD, .d (.lst (is.map .int))] h with
      | ok v h' =>
        rw [q] at main
        obtain ⟨rfl, b, rfl, hb⟩ := main
        exact ⟨b, rfl, hb⟩
      | ex _ _ => rw [q] at main; exact main.elim
      | bad => rw [q] at main; exact main.elim
  · refine no (fun xs z => hl ⟨xs, z⟩) ?_
    rw [hF]
    refine eq_run w ?_
    cases x <;> first | (cases hx; done) | (exact absurd ⟨_, rfl⟩ hl) | simp -implicitDefEqProofs [Lb.law_is_fall, e1, isTyV, isTy]
end
end L3
/-! L3 library: drawn falls. -/
namespace L3
open PySem
namespace Lb
def law_nexts : List Sm := [
  .asg (.nm 2) (.comp false (.var 3) (.nm 3) .rng [(.prim .len [(.var 0)])] [(.prim .notin [(.var 3), (.var 1)])]),
  .ret (.comp false (.var 3) (.nm 3) .seq [(.var 2)] [(.prim .eq [(.prim .item [(.var 0), (.var 3)]), (.prim .minL [(.comp false (.prim .item [(.var 0), (.var 4)]) (.nm 4) .seq [(.var 2)] [])])])])]
def law_fall (iD iR iN : Nat) : List Sm := [
  .par [2, 3] [(.call iR [(.var 1)]), (.mk true .lst [])],
  .for_ (.nm 4) .rng [(.call iD [(.var 0), (.prim .add [(.prim .len [(.var 2)]), (.cst (.int 1))])])] [.asg (.nm 5) (.call iN [(.var 2), (.var 3)]), .app (.var 3) (.prim .item [(.var 5), (.call iD [(.var 0), (.prim .len [(.var 5)])])])],
  .ret (.frz (.var 3))]
end Lb
def restI (n : Nat) (is : List Int) : List Nat := (List.range n).filter fun k => !decide ((k : Int) ∈ is)
def minR : List Int → Int
  | [] => 0
  | i :: r => r.foldl min i
theorem minR_mem : ∀ {is : List Int}, is ≠ [] → minR is ∈ is
  | [], h => absurd rfl h
  | i :: r, _ => by
    show r.foldl min i ∈ i :: r
    have key : ∀ (r : List Int) (i : Int), r.foldl min i = i ∨ r.foldl min i ∈ r := by
      intro r
      induction r with
      | nil => intro i; exact .inl rfl
      | cons j r ih =>
        intro i
        rw [List.foldl_cons]
        rcases ih (min i j) with q | q
        · rw [q]
          by_cases hij : i ≤ j
          · left; omega
          · right; rw [show min i j = j by omega]; exact List.mem_cons_self
        · exact .inr (List.mem_cons_of_mem _ q)
    rcases key r i with q | q
    · rw [q]; exact List.mem_cons_self
    · exact List.mem_cons_of_mem _ q
theorem nodup_len : ∀ (xs ys : List Int), xs.Nodup → (∀ x ∈ xs, x ∈ ys) → xs.length ≤ ys.length
  | [], ys, _, _ => Nat.zero_le _
  | x :: xs, ys, hn, hs => by
    rw [List.nodup_cons] at hn
    have hx := hs x List.mem_cons_self
    have ih := nodup_len xs (ys.erase x) hn.2 fun y hy => by
      refine (List.mem_erase_of_ne fun z => hn.1 ?_).mpr (hs y (List.mem_cons_of_mem _ hy))
      rw [← z]
      exact hy
    rw [List.length_erase_of_mem hx] at ih
    have := List.length_pos_of_mem hx
    rw [List.length_cons]
    omega
def nextsI (ranks is : List Int) : List Nat := (restI ranks.length is).filter fun k => ranks.getD k 0 == minR ((restI ranks.length is).map fun k => ranks.getD k 0)
theorem nexts_mem {ranks is : List Int} {k : Nat} (h : k ∈ nextsI ranks is) : k < ranks.length ∧ (k : Int) ∉ is := by
  have := (List.mem_filter.mp h).1
  have := List.mem_filter.mp this
  exact ⟨List.mem_range.mp this.1, by simpa using this.2⟩
theorem minR_le {x : Int} : ∀ {is : List Int}, x ∈ is → minR is ≤ x
  | [], h => by cases h
  | i :: r, h => by
    show r.foldl min i ≤ x
    have key : ∀ (r : List Int) (i : Int), r.foldl min i ≤ i ∧ ∀ y ∈ r, r.foldl min i ≤ y := by
      intro r
      induction r with
      | nil => intro i; exact ⟨Int.le_refl _, by simp⟩
      | cons j r ih =>
        intro i
        rw [List.foldl_cons]
        obtain ⟨h1, h2⟩ := ih (min i j)
        refine ⟨by omega, fun y hy => ?_⟩
        rcases List.mem_cons.mp hy with q | q
        · rw [q]; omega
        · exact h2 y q
    rcases List.mem_cons.mp h with q | q
    · rw [q]; exact (key r i).1
    · exact (key r i).2 x q
theorem nexts_low {ranks is : List Int} {k : Nat} (h : k ∈ nextsI ranks is) : ∀ j < ranks.length, (j : Int) ∉ is → ranks.getD k 0 ≤ ranks.getD j 0 := by
  intro j hj hn
  have h1 := (List.mem_filter.mp h).2
  rw [eq_of_beq h1]
  exact minR_le (List.mem_map.mpr ⟨j, List.mem_filter.mpr ⟨List.mem_range.mpr hj, by simpa using hn⟩, rfl⟩)
theorem nexts_len {ranks is : List Int} : (nextsI ranks is).length ≤ ranks.length := by
  refine Nat.le_trans (List.length_filter_le _ _) ?_
  refine Nat.le_trans (List.length_filter_le _ _) ?_
  rw [List.length_range]
  exact Nat.le_refl _
theorem nexts_ne {ranks is : List Int} (h : is.length < ranks.length) : nextsI ranks is ≠ [] := by
  obtain ⟨k, hk, hn⟩ : ∃ k < ranks.length, (k : Int) ∉ is := by
    refine Decidable.byContradiction fun z => ?_
    have hs : ∀ x ∈ (List.range ranks.length).map fun k : Nat => (k : Int), x ∈ is := by
      intro x hx
      obtain ⟨k, hk, rfl⟩ := List.mem_map.mp hx
      exact Decidable.byContradiction fun q => z ⟨k, List.mem_range.mp hk, q⟩
    have hnd : ((List.range ranks.length).map fun k : Nat => (k : Int)).Nodup := by
      refine List.Pairwise.map _ (fun a b hab => ?_) List.nodup_range
      omega
    have := nodup_len _ _ hnd hs
    rw [List.length_map, List.length_range] at this
    omega
  have hr : k ∈ restI ranks.length is := List.mem_filter.mpr ⟨List.mem_range.mpr hk, by simpa using hn⟩
  have hne : ((restI ranks.length is).map fun k => ranks.getD k 0) ≠ [] := by
    intro z
    rw [List.map_eq_nil_iff] at z
    rw [z] at hr
    cases hr
  obtain ⟨j, hj, he⟩ := List.mem_map.mp (minR_mem hne)
  intro z
  have : j ∈ nextsI ranks is := List.mem_filter.mpr ⟨hj, by simpa using he⟩
  rw [z] at this
  cases this
section
variable {F : Fun}
theorem p_minL {is : List Int} {h : Hs} (hne : is ≠ []) : pr .minL [.d (.lst (is.map .int))] h = .ok (.d (.int (minR is))) h := by
  cases is with
  | nil => exact absurd rfl hne
  | cons i r =>
    simp only [pr, lview_d, Option.bind_some, allI_ints, okI, minR]
abbrev NextsEq (F : Fun) (i : Nat) : Prop := ∀ {ranks is : List Int} {v : Vl} {h : Hs}, wfH h = true → ranks.length ≤ 500 → (∀ k : Int, inV (.d (.int k)) v h = some (decide (k ∈ is))) → F i [.d (.lst (ranks.map .int)), v] h = .ok (.d (.lst ((nextsI ranks is).map fun k => .int (k : Nat)))) h
theorem nexts_eq {i : Nat} (hF : F i = run F 5 Lb.law_nexts) : NextsEq F i := by
  intro ranks is v h wf hl hv
  rw [hF]
  refine eq_run wf ?_
  have c1 := ev_filter (F := F) (x := .var 3) (t := .nm 3) (k := .rng) (its := [(.prim .len [(.var 0)])]) (cs := [(.prim .notin [(.var 3), (.var 1)])]) (e := [some (.d (.lst (ranks.map .int))), some v, none, none, none]) (h := h) (xs := List.range ranks.length) (r := fun k => [.d (.int ((k : Nat) : Int))]) (fun k => !decide ((k : Int) ∈ is)) (fun k => .int (k : Nat)) (by simp -implicitDefEqProofs [rowsOf_n (show ranks.length ≤ 1000000 by omega)]) (limE (by rw [List.length_range]; omega)) fun k hk => by
    have := hv k
    by_cases q : (k : Int) ∈ is <;> simp -implicitDefEqProofs [this, q]
  have hrl : (restI ranks.length is).length ≤ 500 := by
    refine Nat.le_trans (List.length_filter_le _ _) ?_
    rw [List.length_range]
    exact hl
  have atR : ∀ j : Nat, j < ranks.length → atI ranks (j : Int) = some (ranks.getD j 0) := fun j hb => by
    rw [List.getD_eq_getElem?_getD, List.getElem?_eq_getElem hb]
    exact atI_k (List.getElem?_eq_getElem hb)
  have hmr : ∀ j ∈ restI ranks.length is, j < ranks.length := fun j hj => List.mem_range.mp (List.mem_filter.mp hj).1
  have c2 := fun a => ev_map (F := F) (x := (.prim .item [(.var 0), (.var 4)])) (t := .nm 4) (k := .seq) (its := [(.var 2)]) (cs := []) (e := [some (.d (.lst (ranks.map .int))), some v, some (.d (.lst ((restI ranks.length is).map fun k => .int (k : Nat)))), a, none]) (h := h) (xs := restI ranks.length is) (r := fun k => [.d (.int ((k : Nat) : Int))]) (fun k => .int (ranks.getD k 0)) (rows_mapL (by simp)) (limE (by omega)) fun k hk => by
    have := atR k (hmr k hk)
    generalize ranks.getD k 0 = u at this ⊢
    simp -implicitDefEqProofs [this]
  have c3 := ev_filter (F := F) (x := .var 3) (t := .nm 3) (k := .seq) (its := [(.var 2)]) (cs := [(.prim .eq [(.prim .item [(.var 0), (.var 3)]), (.prim .minL [(.comp false (.prim .item [(.var 0), (.var 4)]) (.nm 4) .seq [(.var 2)] [])])])]) (e := [some (.d (.lst (ranks.map .int))), some v, some (.d (.lst ((restI ranks.length is).map fun k => .int (k : Nat)))), none, none]) (h := h) (xs := restI ranks.length is) (r := fun k => [.d (.int ((k : Nat) : Int))]) (fun k => ranks.getD k 0 == minR ((restI ranks.length is).map fun k => ranks.getD k 0)) (fun k => .int (k : Nat)) (rows_mapL (by simp)) (limE (by omega)) fun k hk => by
    have ha := atR k (hmr k hk)
    have hne : ((restI ranks.length is).map fun k => ranks.getD k 0) ≠ [] := by
      intro z
      rw [List.map_eq_nil_iff] at z
      rw [z] at hk
      cases hk
    have hm := p_minL (h := h) hne
    rw [List.map_map] at hm
    have c2' := c2 (some (.d (.int (k : Nat))))
    simp only [Function.comp_def] at hm c2'
    generalize hM : minR ((restI ranks.length is).map fun k => ranks.getD k 0) = M at hm ⊢
    generalize (restI ranks.length is).map (fun k => D.int (ranks.getD k 0)) = ms at hm c2'
    generalize ranks.getD k 0 = u at ha ⊢
    by_cases q : u = M <;> simp -implicitDefEqProofs [ha, c2', hm, q]
  unfold restI at c3 c1 c2
  simp -implicitDefEqProofs [Lb.law_nexts, c1, c3, nextsI, restI]
theorem in_cell {h : Hs} {n : Nat} {is : List Int} (hn : h[n]? = some (.lst (is.map fun i => .d (.int i)))) (i : Int) : inV (.d (.int i)) (.r n) h = some (decide (i ∈ is)) := by
  obtain ⟨p1, p2⟩ := plain_ints is
  have e1 : sview (.r n) h = some ((is.map D.int).map .d) := by simp [hn, Function.comp_def]
  have e2 : kview (.r n) h = none := by simp only [kview, hn]
  unfold inV
  simp only [Vl.toD, e1, e2, allD_map]
  simp [plainD, p1, depthD, p2, inL_ints]
/-- a drawn fall -/
structure FallI (n : Nat) (is : List Int) : Prop where
  r : ∀ i ∈ is, 0 ≤ i ∧ i < n
  d : is.Nodup
/-- .. each behind all of lower rank -/
structure FallR (ranks is : List Int) : Prop extends FallI ranks.length is where
  e : ∀ (k : Nat) (i : Int), is[k]? = some i → ∀ j < ranks.length, ranks.getD j 0 < ranks.getD i.toNat 0 → (j : Int) ∈ is.take k
theorem FallR.fall {ranks is : List Int} (f : FallR ranks is) : FallP ranks (.lst (is.map .int)) := ⟨is, rfl, f.r, f.d, f.e⟩
theorem FallR.nil {ranks : List Int} : FallR ranks [] := ⟨⟨by simp, by simp⟩, by simp⟩
theorem FallR.snoc {ranks is : List Int} (f : FallR ranks is) {q : Nat} (h : q ∈ nextsI ranks is) : FallR ranks (is ++ [(q : Int)]) := by
  have hm := nexts_mem h
  refine ⟨⟨fun i hi => ?_, ?_⟩, fun k i hk j hj hr => ?_⟩
  · rcases List.mem_append.mp hi with z | z
    · exact f.r i z
    · rw [List.mem_singleton.mp z]
      omega
  · refine List.nodup_append.mpr ⟨f.d, by simp, fun a ha b hb => ?_⟩
    rw [List.mem_singleton.mp hb]
    intro z
    rw [z] at ha
    exact hm.2 ha
  · by_cases hlt : k < is.length
    · rw [List.getElem?_append_left hlt] at hk
      rw [List.take_append_of_le_length (by omega)]
      exact f.e k i hk j hj hr
    · have hkl : k = is.length := by
        have := (List.getElem?_eq_some_iff.mp hk).1
        rw [List.length_append, List.length_singleton] at this
        omega
      subst hkl
      rw [List.getElem?_append_right (Nat.le_refl _), Nat.sub_self] at hk
      cases hk
      rw [List.take_append_of_le_length (Nat.le_refl _), List.take_of_length_le (Nat.le_refl _)]
      refine Decidable.byContradiction fun z => ?_
      have := nexts_low h j hj z
      rw [Int.toNat_natCast] at hr
      omega
theorem FallI.len {n : Nat} {is : List Int} (f : FallI n is) : is.length ≤ n := by
  have := nodup_len is ((List.range n).map fun k : Nat => (k : Int)) f.d fun x hx => by
    obtain ⟨h0, h1⟩ := f.r x hx
    exact List.mem_map.mpr ⟨x.toNat, List.mem_range.mpr (by omega), by omega⟩
  rw [List.length_map, List.length_range] at this
  exact this
abbrev FallOk (F : Fun) (i : Nat) : Prop := ∀ {t : PlanT}, t.ok → total t.steps ≤ 500 → ∀ {h : Hs} {p : Nat} {c : Cell} {b : Int} {Q : Vl → Hs → Prop} {E : D → Hs → Prop}, h[p]? = some c → PenC b c → b < 800000000 → wfH h = true → (∀ is c', FallR t.ranks is → PenC (b + 50) c' → Q (.d (.lst (is.map .int))) (h.set p c')) → Wp (F i [.r p, .d t.toD] h) Q E
theorem fall_ok {i iD iR iN : Nat} (hd : DrawOk F iD) (hr : RanksEq F iR) (hN : NextsEq F iN) (hF : F i = run F 6 (Lb.law_fall iD iR iN)) : FallOk F i := by
  intro t ok htot h p c b Q E hc pc hb wf k
  have rl := ranks_len t
  have r40 : t.ranks.length ≤ 40 := by rw [rl]; exact ok.p1
  have hp : p < h.length := (List.getElem?_eq_some_iff.mp hc).1
  have e1 := hr ok htot wf
  have wfa : ∀ {h : Hs} (is : List Int), wfH h = true → wfH (h ++ [.lst (is.map fun i => .d (.int i))]) = true := fun is w => wf_app w (by simp [flatC])
  rw [hF, wp_run]
  simp -implicitDefEqProofs [Lb.law_fall, e1, y_for]
  have hc0 : (h ++ [.lst []])[p]? = some c := by rw [List.getElem?_append_left hp]; exact hc
  refine hd hc0 pc (by omega) (wfa [] wf) (by omega) (by omega) fun d c1 d0 d1 p1 => ?_
  obtain ⟨j, rfl⟩ := Int.eq_ofNat_of_zero_le d0
  have es : ∀ (c' : Cell) (x : Cell), (h ++ [x]).set p c' = h.set p c' ++ [x] := fun c' x => List.set_append_left _ _ hp
  simp -implicitDefEqProofs [rowsOf_n (show j ≤ 1000000 by omega), es]
  refine for_inv (fun pre e h' => ∃ (is : List Int) (c' : Cell) (u v : Option Vl), FallR t.ranks is ∧ is.length = pre.length ∧ PenC (b + 1 + pre.length) c' ∧ e = [some (.r p), some (.d t.toD), some (.d (.lst (t.ranks.map .int))), some (.r h.length), u, v] ∧ h' = h.set p c' ++ [.lst (is.map fun i => .d (.int i))]) _ ⟨[], c1, _, _, .nil, rfl, by simpa using p1, rfl, rfl⟩ ?_ ?_
  · rintro pre n post e h' hk ⟨is, c2, u, v, fi, fl, p2, rfl, rfl⟩
    obtain ⟨rfl, hn⟩ := range_pre hk
    have w2 : wfH (h.set p c2) = true := wf_set wf (p2.low _)
    have hl2 : (h.set p c2)[p]? = some c2 := List.getElem?_set_self hp
    have hcell : (h.set p c2 ++ [.lst (is.map fun i => .d (.int i))])[h.length]? = some (.lst (is.map fun i => .d (.int i))) := by
      rw [List.getElem?_append_right (by simp)]
      simp
    have e2 := hN (ranks := t.ranks) (is := is) (v := .r h.length) (wfa is w2) (by omega) (in_cell hcell)
    have nl := nexts_len (ranks := t.ranks) (is := is)
    have nn : 0 < (nextsI t.ranks is).length := List.length_pos_iff.mpr (nexts_ne (by omega))
    simp -implicitDefEqProofs [e2]
    have hc2 : (h.set p c2 ++ [.lst (is.map fun i => .d (.int i))])[p]? = some c2 := by rw [List.getElem?_append_left (by simpa using hp)]; exact hl2
    refine hd hc2 p2 (by omega) (wfa is w2) (by omega) (by omega) fun d c3 d0 d1 p3 => ?_
    obtain ⟨m, rfl⟩ := Int.eq_ofNat_of_zero_le d0
    have hm : m < (nextsI t.ranks is).length := by omega
    have hat : atI (nextsI t.ranks is) (m : Int) = some (nextsI t.ranks is)[m] := atI_k (List.getElem?_eq_getElem hm)
    have hmem := List.getElem_mem hm
    generalize (nextsI t.ranks is)[m] = q at hat hmem
    have lq : is.length < LIM := limL (by omega)
    have es2 : ∀ (c' : Cell) (x : Cell), (h.set p c2 ++ [x]).set p c' = h.set p c' ++ [x] := fun c' x => by rw [List.set_append_left _ _ (by simpa using hp), List.set_set]
    simp -implicitDefEqProofs [es2, hat, lq]
    exact ⟨is ++ [(q : Int)], fi.snoc hmem, by simp [fl], c3, p3.le (by omega), rfl, by simp⟩
  · rintro e h' ⟨is, c2, u, v, fi, fl, p2, rfl, rfl⟩
    rw [List.length_range] at fl
    have := k is c2 fi (p2.le (by rw [List.length_range]; omega))
    simp -implicitDefEqProofs [wp_done_d, lo_set (lo_self wf) (p2.low _)] at this ⊢
    exact this
end
end L3
/-! L3 library: things that are asked. -/
namespace L3
open PySem
def At (x : D) : Prop := noRo x = true ∧ (∃ n, reprSz x = some n ∧ n ≤ 2100) ∧ depthD x ≤ 3
def Th (x : D) : Prop := okT x = true ∧ (∃ n, reprSz x = some n ∧ n ≤ LIM) ∧ depthD x ≤ 48
theorem sz_list : ∀ {xs : List D}, (∀ x ∈ xs, At x) → ∃ n, reprSzs xs = some n ∧ n ≤ 2102 * xs.length
  | [], _ => ⟨0, by rw [reprSzs], by simp⟩
  | x :: r, h => by
    obtain ⟨_, ⟨a, ea, ha⟩, _⟩ := h x List.mem_cons_self
    obtain ⟨b, eb, hb⟩ := sz_list (xs := r) fun y hy => h y (List.mem_cons_of_mem _ hy)
    refine ⟨a + b + 2, by rw [reprSzs, ea, eb], ?_⟩
    rw [List.length_cons]
    omega
theorem depthDs_le : ∀ {xs : List D}, (∀ x ∈ xs, depthD x ≤ 3) → depthDs xs ≤ 3
  | [], _ => by rw [depthDs]; omega
  | x :: r, h => by
    rw [depthDs]
    have := h x List.mem_cons_self
    have := depthDs_le (xs := r) fun y hy => h y (List.mem_cons_of_mem _ hy)
    omega
theorem th_list {xs : List D} (h : ∀ x ∈ xs, At x) (hl : xs.length ≤ 200) : Th (.lst xs) := by
  obtain ⟨n, en, hn⟩ := sz_list h
  refine ⟨?_, ⟨n + 3, by rw [reprSz, en]; rfl, ?_⟩, ?_⟩
  · simp only [okT, Bool.and_eq_true, decide_eq_true_eq]
    exact ⟨List.all_eq_true.mpr fun x hx => (h x hx).1, by omega⟩
  · unfold LIM
    omega
  · rw [depthD]
    have := depthDs_le fun x hx => (h x hx).2.2
    omega
theorem th_tup {xs : List D} (h : ∀ x ∈ xs, At x) (hl : xs.length ≤ 200) : Th (.tup xs) := by
  obtain ⟨n, en, hn⟩ := sz_list h
  refine ⟨rfl, ⟨n + 3, by rw [reprSz, en]; rfl, ?_⟩, ?_⟩
  · unfold LIM
    omega
  · rw [depthD]
    have := depthDs_le fun x hx => (h x hx).2.2
    omega
theorem th_at {x : D} (h : At x) (hx : ∀ xs, x ≠ .lst xs) : Th x := by
  obtain ⟨h1, ⟨n, en, hn⟩, h3⟩ := h
  refine ⟨?_, ⟨n, en, by unfold LIM; omega⟩, by omega⟩
  cases x <;> first | rfl | (cases h1; done) | exact absurd rfl (hx _)
theorem at_int {i : Int} (h0 : -1 ≤ i) (h1 : i ≤ 1000) : At (.int i) := by
  refine ⟨rfl, ⟨13, ?_, by omega⟩, by rw [depthD]; omega⟩
  rw [reprSz, if_pos (by omega)]
theorem at_bl {b : Bool} : At (.bl b) := ⟨rfl, ⟨5, by rw [reprSz], by omega⟩, by rw [depthD]; omega⟩
theorem at_non : At .non := ⟨rfl, ⟨4, by rw [reprSz], by omega⟩, by rw [depthD]; omega⟩
theorem at_str0 : At (.str "0") := ⟨rfl, ⟨12, rfl, by omega⟩, by rw [depthD]; omega⟩
theorem at_str : At (.str "") := ⟨rfl, ⟨2, rfl, by omega⟩, by rw [depthD]; omega⟩
theorem at_pow : At (.int (10 ^ 39)) := ⟨rfl, ⟨2000, by rw [reprSz]; decide, by omega⟩, by rw [depthD]; omega⟩
theorem at_lst {is : List Int} (h : ∀ i ∈ is, -1 ≤ i ∧ i ≤ 1000) (hl : is.length ≤ 40) : At (.lst (is.map .int)) := by
  have key : ∀ is : List Int, (∀ i ∈ is, -1 ≤ i ∧ i ≤ 1000) → reprSzs (is.map .int) = some (15 * is.length) ∧ depthDs (is.map .int) = 0 := by
    intro is
    induction is with
    | nil => intro _; exact ⟨by rw [List.map_nil, reprSzs]; rfl, by rw [List.map_nil, depthDs]⟩
    | cons i r ih =>
      intro h
      obtain ⟨e1, e2⟩ := ih fun j hj => h j (List.mem_cons_of_mem _ hj)
      have hi := h i List.mem_cons_self
      constructor
      · rw [List.map_cons, reprSzs, e1, reprSz, if_pos (by omega)]
        show some (13 + 15 * r.length + 2) = _
        rw [List.length_cons]
        congr 1
        omega
      · rw [List.map_cons, depthDs, e2, depthD]
        rfl
  obtain ⟨e1, e2⟩ := key is h
  refine ⟨rfl, ⟨15 * is.length + 3, by rw [reprSz, e1]; rfl, by omega⟩, by rw [depthD, e2]; omega⟩
theorem at_tup0 : At (.tup [.int 0]) := ⟨rfl, ⟨18, rfl, by omega⟩, by simp [depthD, depthDs]⟩
theorem at_tupE : At (.tup []) := ⟨rfl, ⟨3, rfl, by omega⟩, by simp [depthD, depthDs]⟩
theorem at_dic : At (.dic []) := ⟨rfl, ⟨3, rfl, by omega⟩, by simp [depthD, depthDk]⟩
theorem at_dic1 : At (.dic [(.int 0, .int 1)]) := ⟨rfl, ⟨33, rfl, by omega⟩, by simp [depthD, depthDk]⟩
theorem mem_cutD {α : Type} {xs : List α} {a b : Nat} {x : α} (h : x ∈ cutD xs a b) : x ∈ xs := List.mem_of_mem_take (List.mem_of_mem_drop h)
theorem len_cutD {α : Type} {xs : List α} {a b : Nat} : (cutD xs a b).length ≤ xs.length := by
  unfold cutD
  rw [List.length_drop, List.length_take]
  omega
theorem atI_some {α : Type} {xs : List α} {i : Int} (h0 : 0 ≤ i) (h1 : i < xs.length) : ∃ x ∈ xs, atI xs i = some x := by
  have hb : i.toNat < xs.length := by omega
  exact ⟨xs[i.toNat], List.getElem_mem hb, by rw [atI_nat h0 h1, List.getElem?_eq_getElem hb]⟩
theorem mk_range {n : Nat} {h : Hs} (hn : n ≤ 1000) : mk false .listRange [.d (.int (n : Nat))] h = .ok (.d (.lst ((List.range n).map fun k => .int (k : Nat)))) h := by
  have e : (rngI 0 (n : Int)).map (fun i => Vl.d (.int i)) = (List.range n).map fun k => Vl.d (.int (k : Nat)) := by
    unfold rngI
    rw [List.map_map]
    simp [Function.comp_def]
  rw [mk, if_pos (Int.natCast_nonneg n), e]
  rw [mkLF_any, allD_map']
  simp [limE hn]
theorem p_repr {a : D} {h : Hs} (ht : Th a) : pr .repr [.d a] h = .ok (.d (.str (reprD a))) h := by
  obtain ⟨_, ⟨n, en, hn⟩, hd⟩ := ht
  have : snap (.d a) h = some a := rfl
  simp only [pr, this, en]
  simp [hn, hd]
namespace Lb
def law_things (iD : Nat) : List Sm := [
  .asg (.nm 3) (.mk false .lst [(.var 2), (.prim .neg [(.cst (.int 1))]), (.cst (.bl true)), (.cst (.bl false)), (.cst .non), (.cst (.str "0")), (.prim .pow [(.cst (.int 10)), (.cst (.int 39))]), (.mk false .lst [(.cst (.int 0))]), (.prim .tup [(.cst (.int 0))])]),
  .asg (.nm 4) (.mk true .lst [(.var 1), (.mk false .rev [(.var 1)]), (.mk false .slU [(.var 1), (.prim .neg [(.cst (.int 1))])]), (.mk false .slL [(.var 1), (.cst (.int 1))]), (.mk false .mulL [(.var 1), (.cst (.int 2))]), (.prim .tuple [(.var 1)]), (.mk false .lst [(.var 1)]), (.mk false .cat [(.var 1), (.mk false .lst [(.call iD [(.var 0), (.prim .add [(.var 2), (.cst (.int 1))])])])])]),
  .for_ (.nm 5) .rng [(.cst (.int 4))] [.asg (.nm 6) (.call iD [(.var 0), (.prim .add [(.prim .len [(.var 1)]), (.cst (.int 1))])]), .asg (.nm 7) (.ite (.prim .eq [(.call iD [(.var 0), (.cst (.int 2))]), (.cst (.int 0))]) (.prim .item [(.var 3), (.call iD [(.var 0), (.cst (.int 9))])]) (.call iD [(.var 0), (.prim .add [(.var 2), (.cst (.int 1))])])), .asg (.nm 4) (.mk true .cat [(.var 4), (.mk false .lst [(.mk false .cat [(.mk false .cat [(.mk false .slU [(.var 1), (.var 6)]), (.mk false .lst [(.var 7)])]), (.mk false .slL [(.var 1), (.var 6)])]), (.mk false .cat [(.mk false .cat [(.mk false .slU [(.var 1), (.var 6)]), (.mk false .lst [(.var 7)])]), (.mk false .slL [(.var 1), (.prim .add [(.var 6), (.cst (.int 1))])])]), (.mk false .cat [(.mk false .slU [(.var 1), (.var 6)]), (.mk false .slL [(.var 1), (.prim .add [(.var 6), (.cst (.int 1))])])])])]), .asg (.nm 8) (.call iD [(.var 0), (.prim .add [(.prim .len [(.var 1)]), (.cst (.int 1))])]), .app (.var 4) (.ite (.prim .lt [(.var 8), (.var 6)]) (.mk false .cat [(.mk false .slL [(.var 1), (.var 6)]), (.mk false .slU [(.var 1), (.var 6)])]) (.mk false .cat [(.mk false .cat [(.mk false .slU [(.var 1), (.var 6)]), (.mk false .rev [(.mk false .slLU [(.var 1), (.var 6), (.var 8)])])]), (.mk false .slL [(.var 1), (.var 8)])]))],
  .ret (.mk false .cat [(.var 4), (.mk false .lst [(.mk false .listRange [(.var 2)]), (.mk false .rev [(.mk false .listRange [(.var 2)])]), (.cst .non), (.cst (.int 0)), (.cst (.bl true)), (.cst (.str "")), (.cst (.str "0")), (.prim .tup []), (.dict false [] []), (.dict false [(.cst (.int 0))] [(.cst (.int 1))]), (.prim .pow [(.cst (.int 10)), (.cst (.int 39))]), (.mk false .lst [(.mk false .lst [])])])])]
end Lb
theorem wf_apps {R h : Hs} (w : wfH h = true) (f : ∀ a ∈ R, flatC a = true) : wfH (h ++ R) = true := wf_app w (List.all_eq_true.mpr f)
theorem flat_ds {vs : List D} : flatC (.lst (vs.map .d)) = true := by simp [flatC]
section
variable {F : Fun}
abbrev ThingsOk (F : Fun) (i : Nat) : Prop := ∀ {is : List Int} {n : Nat}, n ≤ 40 → FallI n is → ∀ {h : Hs} {p : Nat} {c : Cell} {b : Int} {Q : Vl → Hs → Prop} {E : D → Hs → Prop}, h[p]? = some c → PenC b c → b < 800000000 → wfH h = true → (∀ (xs : List D) c', (∀ x ∈ xs, Th x) → xs.length ≤ 100 → PenC (b + 20) c' → Q (.d (.lst xs)) (h.set p c')) → Wp (F i [.r p, .d (.lst (is.map .int)), .d (.int n)] h) Q E
theorem things_ok {i iD : Nat} (hd : DrawOk F iD) (hF : F i = run F 9 (Lb.law_things iD)) : ThingsOk F i := by
  intro is n hn fi h p c b Q E hc pc hb wf k
  have fl := fi.len
  have hx : ∀ x ∈ is.map D.int, At x := fun x hx => by
    obtain ⟨j, hj, rfl⟩ := List.mem_map.mp hx
    have := fi.r j hj
    exact at_int (by omega) (by omega)
  have hat : At (.lst (is.map .int)) := at_lst (fun j hj => by have := fi.r j hj; omega) (by omega)
  have hl : (is.map D.int).length ≤ 40 := by rw [List.length_map]; omega
  generalize is.map D.int = xs at hx hat hl
  have hp : p < h.length := (List.getElem?_eq_some_iff.mp hc).1
  have k1 : ∀ m : Nat, m ≤ 100 → m ≤ LIM := fun m hm => limE (by omega)
  have z1 : ∀ a b : Nat, (cutD xs a b).length ≤ LIM := fun a b => limE (by have := len_cutD (xs := xs) (a := a) (b := b); omega)
  have z2 : xs.length ≤ LIM := limE (by omega)
  have z3 : xs.length + 1 ≤ LIM := limE (by omega)
  have z4 : xs.length + xs.length ≤ LIM := limE (by omega)
  have z6 : 8 ≤ LIM := limE (by omega)
  have s10 : smallI 10 = true := by decide
  have z5 : 9 ≤ LIM := limE (by omega)
  rw [hF, wp_run]
  have er := rowsOf_rng1 (j := 4) (by decide)
  simp -implicitDefEqProofs [Lb.law_things, z1, z2, z3, z4, z5, z6, s10, y_for, er]
  refine hd hc pc (by omega) wf (by omega) (by omega) fun d c1 d0 d1 p1 => ?_
  simp -implicitDefEqProofs [z2, z3]
  generalize ho : ([D.int n, D.int (-1), D.bl true, D.bl false, D.non, D.str "0", D.int 1000000000000000000000000000000000000000, D.lst [D.int 0], D.tup [D.int 0]] : List D) = odd
  have hodd : ∀ x ∈ odd, At x := by
    subst ho
    intro x hx
    simp only [List.mem_cons, List.not_mem_nil, or_false] at hx
    rcases hx with rfl | rfl | rfl | rfl | rfl | rfl | rfl | rfl | rfl
    · exact at_int (by omega) (by omega)
    · exact at_int (by omega) (by omega)
    · exact at_bl
    · exact at_bl
    · exact at_non
    · exact at_str0
    · exact at_pow
    · exact at_lst (is := [0]) (by simp) (by simp)
    · exact at_tup0
  have lodd : odd.length = 9 := by subst ho; rfl
  clear ho
  have tl : ∀ {ys : List D}, (∀ x ∈ ys, x ∈ xs ∨ At x) → ys.length ≤ 200 → Th (.lst ys) := fun hm hn => th_list (fun x hq => (hm x hq).elim (hx x) id) hn
  have cm : ∀ {a b : Nat} {x : D}, x ∈ cutD xs a b → x ∈ xs ∨ At x := fun h => .inl (mem_cutD h)
  have cl : ∀ a b : Nat, (cutD xs a b).length ≤ 40 := fun a b => Nat.le_trans len_cutD hl
  refine for_inv (fun pre e h' => ∃ (vs : List D) (A : Hs) (c' : Cell) (u v w x : Option Vl), (∀ x ∈ vs, Th x) ∧ vs.length = 8 + 4 * pre.length ∧ (∀ a ∈ A, flatC a = true) ∧ A.length = pre.length ∧ PenC (b + 1 + 4 * pre.length) c' ∧ e = [some (.r p), some (.d (.lst xs)), some (.d (.int n)), some (.d (.lst odd)), some (.r (h.length + pre.length)), u, v, w, x] ∧ h' = h.set p c' ++ (A ++ [.lst (vs.map .d)])) _ ⟨[.lst xs, .lst xs.reverse, .lst (cutD xs 0 (slOf xs.length (-1))), .lst (cutD xs (slOf xs.length 1) xs.length), .lst (xs ++ xs), .tup xs, .lst [.lst xs], .lst (xs ++ [.int d])], [], c1, _, _, _, _, ?_, rfl, by simp, rfl, by simpa using p1, rfl, by simp⟩ ?_ ?_
  · intro x hq
    simp only [List.mem_cons, List.not_mem_nil, or_false] at hq
    rcases hq with rfl | rfl | rfl | rfl | rfl | rfl | rfl | rfl
    · exact tl (fun x h => .inl h) (by omega)
    · exact tl (fun x h => .inl (List.mem_reverse.mp h)) (by rw [List.length_reverse]; omega)
    · exact tl (fun x h => cm h) (by have := cl 0 (slOf xs.length (-1)); omega)
    · exact tl (fun x h => cm h) (by have := cl (slOf xs.length 1) xs.length; omega)
    · exact tl (fun x h => .inl ((List.mem_append.mp h).elim id id)) (by rw [List.length_append]; omega)
    · exact th_tup hx (by omega)
    · exact tl (fun x h => .inr (by rw [List.mem_singleton.mp h]; exact hat)) (by simp)
    · exact tl (fun x h => (List.mem_append.mp h).elim .inl fun z => .inr (by rw [List.mem_singleton.mp z]; exact at_int (by omega) (by omega))) (by rw [List.length_append, List.length_singleton]; omega)
  · rintro pre m post e h' hk ⟨vs, A, c2, u, v, w, x, hvs, hvl, hAf, hA, p2, rfl, rfl⟩
    obtain ⟨rfl, hm⟩ := range_pre hk
    have hm4 : pre.length < 4 := hm
    have wfs : ∀ {c : Cell} {b : Int} {R : Hs}, PenC b c → (∀ a ∈ R, flatC a = true) → wfH (h.set p c ++ R) = true := fun pc f => wf_apps (wf_set wf (pc.low _)) f
    have hcs : ∀ (c : Cell) (R : Hs), (h.set p c ++ R)[p]? = some c := fun c R => by
      rw [List.getElem?_append_left (by simpa using hp)]
      exact List.getElem?_set_self hp
    have es : ∀ (c c' : Cell) (R : Hs), (h.set p c ++ R).set p c' = h.set p c' ++ R := fun c c' R => by rw [List.set_append_left _ _ (by simpa using hp), List.set_set]
    have f1 : ∀ a ∈ A ++ [.lst (vs.map .d)], flatC a = true := fun a ha => (List.mem_append.mp ha).elim (hAf a) fun z => by rw [List.mem_singleton.mp z]; exact flat_ds
    have hcell : ∀ (c : Cell) (x : Cell) (R : Hs), (h.set p c ++ (A ++ (x :: R)))[h.length + pre.length]? = some x := fun c x R => by
      rw [List.getElem?_append_right (by simp), List.length_set, show h.length + pre.length - h.length = pre.length by omega, List.getElem?_append_right (by omega), hA, Nat.sub_self]
      rfl
    simp -implicitDefEqProofs
    refine hd (hcs _ _) p2 (by omega) (wfs p2 f1) (by omega) (by omega) fun d2 c3 e0 e1 p3 => ?_
    obtain ⟨m1, rfl⟩ := Int.eq_ofNat_of_zero_le e0
    rw [es]
    refine hd (hcs _ _) p3 (by omega) (wfs p3 f1) (by omega) (by omega) fun d3 c4 e2 e3 p4 => ?_
    rw [es]
    simp -implicitDefEqProofs
    refine Wp.mono (Q := fun a h' => ∃ th c', At th ∧ a = .d th ∧ PenC (b + 1 + 4 * pre.length + 3) c' ∧ h' = h.set p c' ++ (A ++ [.lst (vs.map .d)])) ?_ ?_
    · by_cases q : d3 = 0
      · simp -implicitDefEqProofs [q]
        refine hd (hcs _ _) p4 (by omega) (wfs p4 f1) (by omega) (by omega) fun d4 c5 e4 e5 p5 => ?_
        obtain ⟨th, hth, eth⟩ := atI_some (xs := odd) e4 (by omega)
        simp -implicitDefEqProofs [eth, es]
        exact ⟨th, hodd _ hth, rfl, c5, p5.le (by omega), rfl⟩
      · simp -implicitDefEqProofs [q]
        refine hd (hcs _ _) p4 (by omega) (wfs p4 f1) (by omega) (by omega) fun d4 c5 e4 e5 p5 => ?_
        exact ⟨.int d4, at_int (by omega) (by omega), rfl, c5, p5.le (by omega), es _ _ _⟩
    · rintro a h' ⟨th, c5, hth, rfl, p5, rfl⟩
      have y1 : ∀ a b : Nat, (cutD xs a b).length + 1 ≤ LIM := fun a b => limE (by have := cl a b; omega)
      have y2 : ∀ a b c d : Nat, (cutD xs a b).length + 1 + (cutD xs c d).length ≤ LIM := fun a b c d => limE (by have := cl a b; have := cl c d; omega)
      have y3 : ∀ a b c d : Nat, (cutD xs a b).length + (cutD xs c d).length ≤ LIM := fun a b c d => limE (by have := cl a b; have := cl c d; omega)
      have y4 : vs.length + 3 ≤ LIM := limE (by omega)
      have y5 : 3 ≤ LIM := limE (by omega)
      have y6 : vs.length + 3 < LIM := limL (by omega)
      have y7 : vs.length + 4 ≤ LIM := limE (by omega)
      simp -implicitDefEqProofs [z1, y1, y2, y3, y4, y5, hcell]
      have t1 : Th (.lst (cutD xs 0 (slOf xs.length m1) ++ th :: cutD xs (slOf xs.length m1) xs.length)) := tl (fun x h => (List.mem_append.mp h).elim cm fun z => (List.mem_cons.mp z).elim (fun z => .inr (by rw [z]; exact hth)) cm) (by have := cl 0 (slOf xs.length m1); have := cl (slOf xs.length m1) xs.length; simp only [List.length_append, List.length_cons]; omega)
      have t2 : Th (.lst (cutD xs 0 (slOf xs.length m1) ++ th :: cutD xs (slOf xs.length (m1 + 1)) xs.length)) := tl (fun x h => (List.mem_append.mp h).elim cm fun z => (List.mem_cons.mp z).elim (fun z => .inr (by rw [z]; exact hth)) cm) (by have := cl 0 (slOf xs.length m1); have := cl (slOf xs.length (m1 + 1)) xs.length; simp only [List.length_append, List.length_cons]; omega)
      have t3 : Th (.lst (cutD xs 0 (slOf xs.length m1) ++ cutD xs (slOf xs.length (m1 + 1)) xs.length)) := tl (fun x h => (List.mem_append.mp h).elim cm cm) (by have := cl 0 (slOf xs.length m1); have := cl (slOf xs.length (m1 + 1)) xs.length; simp only [List.length_append]; omega)
      have t4 : Th (.lst (cutD xs (slOf xs.length m1) xs.length ++ cutD xs 0 (slOf xs.length m1))) := tl (fun x h => (List.mem_append.mp h).elim cm cm) (by have := cl 0 (slOf xs.length m1); have := cl (slOf xs.length m1) xs.length; simp only [List.length_append]; omega)
      generalize D.lst (cutD xs 0 (slOf xs.length m1) ++ th :: cutD xs (slOf xs.length m1) xs.length) = D1 at t1 ⊢
      generalize D.lst (cutD xs 0 (slOf xs.length m1) ++ th :: cutD xs (slOf xs.length (m1 + 1)) xs.length) = D2 at t2 ⊢
      generalize D.lst (cutD xs 0 (slOf xs.length m1) ++ cutD xs (slOf xs.length (m1 + 1)) xs.length) = D3 at t3 ⊢
      generalize D.lst (cutD xs (slOf xs.length m1) xs.length ++ cutD xs 0 (slOf xs.length m1)) = D4 at t4 ⊢
      have f2 : ∀ a ∈ A ++ [.lst (vs.map .d), .lst (vs.map .d ++ [.d D1, .d D2, .d D3])], flatC a = true := fun a ha => (List.mem_append.mp ha).elim (hAf a) fun z => by
        simp only [List.mem_cons, List.not_mem_nil, or_false] at z
        rcases z with rfl | rfl
        · exact flat_ds
        · simp [flatC]
      have hcell2 : ∀ (c : Cell) (x y : Cell), (h.set p c ++ (A ++ [x, y]))[h.length + (A.length + 1)]? = some y := fun c x y => by
        rw [List.getElem?_append_right (by simp), List.length_set, show h.length + (A.length + 1) - h.length = A.length + 1 by omega, List.getElem?_append_right (by omega), show A.length + 1 - A.length = 1 by omega]
        rfl
      have hset2 : ∀ (c : Cell) (x y z : Cell), (h.set p c ++ (A ++ [x, y])).set (h.length + (A.length + 1)) z = h.set p c ++ (A ++ [x, z]) := fun c x y z => by
        rw [List.set_append_right _ _ (by simp), List.length_set, show h.length + (A.length + 1) - h.length = A.length + 1 by omega, List.set_append_right _ _ (by omega), show A.length + 1 - A.length = 1 by omega]
        rfl
      refine hd (hcs _ _) p5 (by omega) (wfs p5 f2) (by omega) (by omega) fun d5 c6 e6 e7 p6 => ?_
      obtain ⟨m2, rfl⟩ := Int.eq_ofNat_of_zero_le e6
      rw [es]
      have f3 : ∀ a ∈ A ++ [.lst (vs.map .d)], flatC a = true := f1
      have fin : ∀ D5, Th D5 → ∀ x ∈ vs ++ [D1, D2, D3, D5], Th x := fun D5 t5 x hx => by
        rcases List.mem_append.mp hx with q | q
        · exact hvs x q
        · simp only [List.mem_cons, List.not_mem_nil, or_false] at q
          rcases q with rfl | rfl | rfl | rfl
          · exact t1
          · exact t2
          · exact t3
          · exact t5
      by_cases q : (m2 : Int) < m1
      · simp -implicitDefEqProofs [hcell2, hset2, q, y6, z1, y3]
        exact ⟨vs ++ [D1, D2, D3, D4], fin _ t4, by simp; omega, A ++ [.lst (vs.map .d)], f1, by simp [hA], c6, p6.le (by omega), hA, by simp⟩
      · have y8 : ∀ a b c d e f : Nat, (cutD xs a b).length + (cutD xs c d).length + (cutD xs e f).length ≤ LIM := fun a b c d e f => limE (by have := cl a b; have := cl c d; have := cl e f; omega)
        simp -implicitDefEqProofs [hcell2, hset2, q, y6, z1, y3, y8]
        have t5 : Th (.lst (cutD xs 0 (slOf xs.length m1) ++ ((cutD xs (slOf xs.length m1) (slOf xs.length m2)).reverse ++ cutD xs (slOf xs.length m2) xs.length))) := tl (fun x h => (List.mem_append.mp h).elim cm fun z => (List.mem_append.mp z).elim (fun z => cm (List.mem_reverse.mp z)) cm) (by have := cl 0 (slOf xs.length m1); have := cl (slOf xs.length m1) (slOf xs.length m2); have := cl (slOf xs.length m2) xs.length; simp only [List.length_append, List.length_reverse]; omega)
        exact ⟨vs ++ [D1, D2, D3, _], fin _ t5, by simp; omega, A ++ [.lst (vs.map .d)], f1, by simp [hA], c6, p6.le (by omega), hA, by simp⟩
  · rintro e h' ⟨vs, A, c2, u, v, w, x, hvs, hvl, hAf, hA, p2, rfl, rfl⟩
    have l4 : (List.range 4).length = 4 := rfl
    rw [l4] at hvl hA p2 ⊢
    have hcell : ∀ (c : Cell) (x : Cell) (R : Hs), (h.set p c ++ (A ++ (x :: R)))[h.length + 4]? = some x := fun c x R => by
      rw [List.getElem?_append_right (by simp), List.length_set, show h.length + 4 - h.length = 4 by omega, List.getElem?_append_right (by omega), hA, Nat.sub_self]
      rfl
    have hd0 : ∀ (e : Env) (h : Hs), ev F (.dict false [] []) e h = .ok (.d (.dic [])) h := fun e h => by
      simp only [ev, evs, bind_ok]
      rfl
    have hd1 : ∀ (e : Env) (h : Hs), ev F (.dict false [.cst (.int 0)] [.cst (.int 1)]) e h = .ok (.d (.dic [(.int 0, .int 1)])) h := fun e h => by
      simp only [ev, evs, bind_ok]
      rfl
    have hr := fun h => mk_range (n := n) (h := h) (by omega)
    have y1 : n ≤ LIM := limE (by omega)
    have y2 : 12 ≤ LIM := limE (by omega)
    have y3 : vs.length + 12 ≤ LIM := limE (by omega)
    have tr : ∀ {ys : List D}, (∀ x ∈ ys, x ∈ (List.range n).map fun k => D.int (k : Nat)) → ys.length ≤ 200 → Th (.lst ys) := fun hm hn => th_list (fun x hq => by
      obtain ⟨k, hk, rfl⟩ := List.mem_map.mp (hm x hq)
      have := List.mem_range.mp hk
      exact at_int (by omega) (by omega)) hn
    have kk := k (vs ++ [.lst ((List.range n).map fun k => .int (k : Nat)), .lst ((List.range n).map fun k => D.int (k : Nat)).reverse, .non, .int 0, .bl true, .str "", .str "0", .tup [], .dic [], .dic [(.int 0, .int 1)], .int 1000000000000000000000000000000000000000, .lst [.lst []]]) c2 (fun x hx => by
      rcases List.mem_append.mp hx with q | q
      · exact hvs x q
      · simp only [List.mem_cons, List.not_mem_nil, or_false] at q
        rcases q with rfl | rfl | rfl | rfl | rfl | rfl | rfl | rfl | rfl | rfl | rfl | rfl
        · exact tr (fun x h => h) (by simp; omega)
        · exact tr (fun x h => List.mem_reverse.mp h) (by simp; omega)
        · exact th_at at_non (fun _ z => by cases z)
        · exact th_at (at_int (by omega) (by omega)) (fun _ z => by cases z)
        · exact th_at at_bl (fun _ z => by cases z)
        · exact th_at at_str (fun _ z => by cases z)
        · exact th_at at_str0 (fun _ z => by cases z)
        · exact th_at at_tupE (fun _ z => by cases z)
        · exact th_at at_dic (fun _ z => by cases z)
        · exact th_at at_dic1 (fun _ z => by cases z)
        · exact th_at at_pow (fun _ z => by cases z)
        · exact th_list (fun x h => by rw [List.mem_singleton.mp h]; exact at_lst (is := []) (by simp) (by simp)) (by simp)) (by simp; omega) (p2.le (by omega))
    simp -implicitDefEqProofs [hcell, hd0, hd1, hr, s10, y1, y2, y3, wp_done_d, lo_set (lo_self wf) (p2.low _)] at kk ⊢
    exact kk
end
end L3
/-! L3: more for simp: properties, methods, dicts, raise, try, while. -/
namespace L3
open PySem

section
variable {F : Fun} {e : Env} {h : Hs}
@[simp] theorem x_pro {c f : Nat} {n : Str} {o : Ex} : ev F (.pro c n f o) e h = (ev F o e h).bind fun v h1 => if isObj c v h1 = true then noEx (F f [v] h1) else .bad := by first | (rw [ev]; done) | (rw [ev]; rfl)
theorem x_dcomp {m : Bool} {kx vx : Ex} {t : Tn} {k : ItK} {its cs : List Ex} : ev F (.dcomp m kx vx t k its cs) e h = (rowsM F k its e h).bind fun rows h1 => (noEx (compL (turnD F kx vx t cs e) rows h1)).bind fun us h2 => mkPs m us h2 := by rw [ev_dcomp]
@[simp] theorem x_turnD {kx vx : Ex} {t : Tn} {cs : List Ex} {row : List Vl} : turnD F kx vx t cs e row h = match bindT t row (wipeE e t.names) with
        | some e1 => (tests F cs e1 h).bind fun b h1 => if b = true then (ev F kx e1 h1).bind fun q h2 => (ev F vx e1 h2).bind fun v h3 => pairV q v h3 else .ok none h1
        | none => .bad := (rfl)
@[simp] theorem pairV_dd {x y : D} : pairV (.d x) (.d y) h = .ok (some (.d (.tup [x, y]))) h := (rfl)
@[simp] theorem noEx_k {α : Type} {a : α} {h : Hs} : noEx (.ok a h) = .ok a h := (rfl)
@[simp] theorem x_dict {m : Bool} {ks vs : List Ex} : ev F (.dict m ks vs) e h = (noEx (evs F ks e h)).bind fun as h1 => (noEx (evs F vs e h1)).bind fun bs h2 => match allD as, allD bs with
    | some xs, some ys => match zipK xs ys [] with
      | some kvs => mkK m kvs h2
      | none => .bad
    | _, _ => .bad := by first | (rw [ev]; done) | (rw [ev]; rfl)
def whileT (F : Fun) (c : Ex) (b : List Sm) : Env → Hs → Out (Option Fl) := fun e h => (ev F c e h).bind fun v h1 => match v with
    | .d (.bl k) => if k = true then (execs F b e h1).bind fun fl h2 => .ok (some fl) h2 else .ok none h1
    | _ => .bad
theorem y_while {c : Ex} {b : List Sm} : exec F (.while_ c b) e h = whileL (whileT F c b) WMAX e h := by
  rw [exec]
  rfl
@[simp] theorem x_whileT {c : Ex} {b : List Sm} : whileT F c b e h = (ev F c e h).bind fun v h1 => match v with
    | .d (.bl k) => if k = true then (execs F b e h1).bind fun fl h2 => .ok (some fl) h2 else .ok none h1
    | _ => .bad := (rfl)
@[simp] theorem y_raise {c : Nat} {as : List Ex} : exec F (.raise c as) e h = (evs F as e h).bind fun vs h1 => match allD vs with
    | some ds => .ex (.exc c ds) h1
    | none => .bad := by first | (rw [exec]; done) | (rw [exec]; rfl)
theorem y_try {b : List Sm} {cs : List Nat} {i j : Nat} : exec F (.tryAs b cs i j) e h = match execs F b e h with
    | .ex x h1 => match x with
      | .exc c fs => if cs.contains c then .ok (.nx (setE e j (.d (.exc c fs)))) h1 else .ex x h1
      | _ => .bad
    | o => o := by first | (rw [exec]; done) | (rw [exec]; rfl)
end
/-- a while loop, by a measure -/
theorem while_wp {f : Env → Hs → Out (Option Fl)} {Q : Fl → Hs → Prop} {E : D → Hs → Prop} (J : Nat → Env → Hs → Prop) (hf : ∀ m e h, J m e h → Wp (f e h) (fun o h' => match o with
      | none => Q (.nx e) h'
      | some (.nx e') => ∃ m', m' < m ∧ J m' e' h'
      | some (.ct e') => ∃ m', m' < m ∧ J m' e' h'
      | some (.bk e') => Q (.nx e') h'
      | some (.rt v) => Q (.rt v) h') E) : ∀ (n m : Nat) {e : Env} {h : Hs}, m < n → J m e h → Wp (whileL f n e h) Q E
  | 0, m, e, h, l, _ => absurd l (Nat.not_lt_zero _)
  | n + 1, m, e, h, l, j => by
    rw [whileL, wp_bind]
    refine (hf m e h j).mono fun o h1 q => ?_
    cases o with
    | none => exact q
    | some fl =>
      cases fl with
      | nx e1 =>
        obtain ⟨m', hm, q⟩ := q
        exact while_wp J hf n m' (by omega) q
      | ct e1 =>
        obtain ⟨m', hm, q⟩ := q
        exact while_wp J hf n m' (by omega) q
      | bk e1 => exact q
      | rt v => exact q
section
variable {h : Hs} {n : Nat} {i : Int} {xs : List D} {vs : List Vl}
@[simp] theorem p_itemD {kvs : List (D × D)} {k : D} : pr .item [.d (.dic kvs), .d k] h = if keyS k = true then optO ((getK kvs k).map .d) h else .bad := by
  simp only [pr, kview]
  cases getK kvs k <;> rfl
def popC (o : Option Cell) (n : Nat) (i : Int) (h : Hs) : Out Vl := match o with
  | some (.lst xs) => match ixOf xs.length i with
    | some k => match xs[k]? with
      | some v => if xs.length ≤ LIM then .ok v (h.set n (.lst (xs.eraseIdx k))) else .bad
      | none => .bad
    | none => .bad
  | _ => .bad
@[simp] theorem popL_r : popL [.r n, .d (.int i)] h = popC h[n]? n i h := by
  unfold popL popC
  rfl
theorem popC_at {k : Nat} {v : Vl} (e : vs[k]? = some v) (hl : vs.length ≤ LIM) : popC (some (.lst vs)) n (k : Int) h = .ok v (h.set n (.lst (vs.eraseIdx k))) := by
  have hk := (List.getElem?_eq_some_iff.mp e).1
  have e1 : ixOf vs.length (k : Int) = some k := by
    unfold ixOf
    rw [if_pos (by omega), if_pos (by omega)]
    rfl
  simp only [popC, e1, e, if_pos hl]
theorem p_maxL {is : List Int} {j : Int} : pr .maxL [.d (.lst (.int j :: is.map .int))] h = .ok (.d (.int (is.foldl max j))) h := by
  have e : allI ((D.int j :: is.map D.int).map Vl.d) = some (j :: is) := by
    have key : ∀ is : List Int, allI ((is.map D.int).map Vl.d) = some is := by
      intro is
      induction is with
      | nil => rfl
      | cons i r ih => simp only [List.map_cons, allI, ih, Option.map_some]
    exact key (j :: is)
  simp only [pr, lview_d, Option.bind_some, e, okI]
/-- list[j] = x of a cell -/
theorem setV_at {k : Nat} {v : Vl} (e : h[n]? = some (.lst vs)) (hk : k < vs.length) : setV (.r n) (.d (.int (k : Int))) v h = .ok () (h.set n (.lst (vs.set k v))) := by
  have e1 : ixOf vs.length (k : Int) = some k := by
    unfold ixOf
    rw [if_pos (by omega), if_pos (by omega)]
    rfl
  simp only [setV, e, e1]
theorem setV_dic {kvs : List (D × D)} {k x : D} (e : h[n]? = some (.dic kvs)) (hk : keyS k = true) (hl : kvs.length < LIM) : setV (.r n) (.d k) (.d x) h = .ok () (h.set n (.dic (putK kvs k x))) := by
  simp only [setV, e, hk, hl, decide_true, Bool.and_self, if_true]
@[simp] theorem star_LL {vs : List Vl} : starK 0 vs h = mkL false vs h := (rfl)
@[simp] theorem star_L1 {vs : List Vl} : starK 1 vs h = mkL true vs h := (rfl)
@[simp] theorem star_T {vs : List Vl} : starK 2 vs h = pr .tup vs h := (rfl)
@[simp] theorem spread_nil : spread [] [] = some [] := (rfl)
@[simp] theorem spread_f {bs : List Bool} {v : Vl} : spread (false :: bs) (v :: vs) = (spread bs vs).map (v :: ·) := by
  simp only [spread, spr1]
  cases spread bs vs <;> rfl
@[simp] theorem spread_tL {bs : List Bool} : spread (true :: bs) (.d (.lst xs) :: vs) = (spread bs vs).map (xs.map .d ++ ·) := by
  simp only [spread, spr1]
  rfl
@[simp] theorem spread_tT {bs : List Bool} : spread (true :: bs) (.d (.tup xs) :: vs) = (spread bs vs).map (xs.map .d ++ ·) := by
  simp only [spread, spr1]
  rfl
end
end L3
/-! L3 library: patterns, what is found after a fall. -/
namespace L3
open PySem
namespace Lb
def is_choice (iw : Nat) : List Sm := [
  .ret (.and (.call iw [(.var 0)]) (.prim .eq [(.mk false .list [(.var 0)]), (.mk false .sortedSet [(.var 0)])]))]
def is_pattern (ib ic : Nat) : List Sm := [
  .ite (.not (.prim (.isi .dict) [(.var 1)])) [.ret (.cst (.bl false))] [],
  .ret (.prim .all [(.comp false (.and (.call ib [(.var 2), (.var 0)]) (.call ic [(.var 3)])) (.tup [2, 3]) .items [(.var 1)] [])])]
/-- a check of two arguments: w where it fails -/
def check2 (ip : Nat) (w : Sm) : List Sm := [
  .ite (.not (.call ip [(.var 0), (.var 1)])) [w] []]
def is_matched : List Sm := [
  .ret (.prim .all [(.comp false (.prim .in_ [(.prim .item [(.var 1), (.var 2)]), (.var 3)]) (.tup [2, 3]) .items [(.var 0)] [])])]
def plan_base : List Sm := [
  .ret (.attr 0 0 "start" (.var 0))]
def cells_in : List Sm := [
  .asg (.tup [2, 3, 4]) (.prim .item [(.attr 0 3 "parts" (.var 0)), (.var 1)]),
  .ret (.dcomp false (.prim .add [(.var 3), (.var 5)]) (.var 6) (.tup [5, 6]) .enum [(.var 4)] [])]
def overwritten (ic : Nat) : List Sm := [
  .asg (.nm 3) (.mk true .list [(.var 1)]),
  .for_ (.nm 4) .seq [(.var 2)] [.for_ (.tup [5, 6]) .items [(.call ic [(.var 0), (.var 4)])] [.sub (.var 3) (.var 5) (.var 6)]],
  .ret (.prim .tuple [(.var 3)])]
def content_after (ik ib io : Nat) : List Sm := [
  .expr (.call ik [(.var 0), (.var 1)]),
  .ret (.call io [(.var 0), (.pro 0 "base" ib (.var 0)), (.var 1)])]
def epoch_in (ik : Nat) : List Sm := [
  .expr (.call ik [(.var 0), (.var 1)]),
  .ret (.prim .maxL [(.star 0 [false, true] [(.cst (.int 0)), (.comp false (.prim .item [(.attr 0 4 "ranks" (.var 0)), (.var 2)]) (.nm 2) .seq [(.var 1)] [])])])]
def is_found (ia ik im : Nat) : List Sm := [
  .asg (.nm 3) (.call ia [(.var 0), (.var 1)]),
  .expr (.call ik [(.prim .len [(.var 3)]), (.var 2)]),
  .ret (.call im [(.var 2), (.var 3)])]
end Lb
/-! ### ints in lists -/
theorem eqvDs_ints : ∀ is js : List Int, eqvDs (is.map .int) (js.map .int) = (is == js)
  | [], [] => by simp [eqvDs]
  | [], j :: js => by simp [eqvDs]
  | i :: is, [] => by simp [eqvDs]
  | i :: is, j :: js => by
    rw [List.map_cons, List.map_cons, eqvDs, eqvDs_ints is js, eqvD]
    rfl
theorem eqV_lints {is js : List Int} {h : Hs} : eqV (.d (.lst (is.map .int))) (.d (.lst (js.map .int))) h = some (is == js) := by
  rw [eqV_d (dep_ints 47 is) (dep_ints 47 js), eqvD, eqvDs_ints]
theorem in_intsU {i : Int} {is : List Int} {h : Hs} : inV (.d (.int i)) (.d (.tup (is.map .int))) h = some (is.contains i) := by
  obtain ⟨p1, p2⟩ := plain_ints is
  have e1 : sview (.d (.tup (is.map .int))) h = some ((is.map D.int).map .d) := rfl
  have e2 : kview (.d (.tup (is.map .int))) h = none := rfl
  unfold inV
  simp [Vl.toD, e1, e2, plainD, p1, depthD, p2, inL_ints]
theorem in_intsU' {i : Int} {is : List Int} {h : Hs} : inV (.d (.int i)) (.d (intsD is)) h = some (is.contains i) := in_intsU
/-! ### ascending -/
theorem insU_len (i : Int) : ∀ is : List Int, (insU i is).length ≤ is.length + 1
  | [] => Nat.le_refl _
  | j :: r => by
    unfold insU
    have := insU_len i r
    split
    · simp
    · split
      · simp
      · simp only [List.length_cons]; omega
theorem sortU_len : ∀ is : List Int, (sortU is).length ≤ is.length
  | [] => Nat.le_refl _
  | i :: r => by
    show (insU i (sortU r)).length ≤ r.length + 1
    have := insU_len i (sortU r)
    have := sortU_len r
    omega
theorem sortU_id : ∀ {is : List Int}, is.Pairwise (· < ·) → sortU is = is
  | [], _ => rfl
  | i :: r, h => by
    rw [List.pairwise_cons] at h
    show insU i (sortU r) = i :: r
    rw [sortU_id h.2]
    cases r with
    | nil => rfl
    | cons j s =>
      unfold insU
      rw [if_pos (h.1 j List.mem_cons_self)]
theorem insI_mem {x y : Int} : ∀ {is : List Int}, y ∈ insI x is ↔ y = x ∨ y ∈ is
  | [] => by simp [insI]
  | j :: r => by
    unfold insI
    split
    · simp
    · rw [List.mem_cons, insI_mem (is := r), List.mem_cons]
      constructor
      · rintro (h | h | h)
        · exact .inr (.inl h)
        · exact .inl h
        · exact .inr (.inr h)
      · rintro (h | h | h)
        · exact .inr (.inl h)
        · exact .inl h
        · exact .inr (.inr h)
theorem insI_asc {x : Int} : ∀ {is : List Int}, is.Pairwise (· < ·) → x ∉ is → (insI x is).Pairwise (· < ·)
  | [], _, _ => by simp [insI]
  | j :: r, h, hn => by
    unfold insI
    rw [List.pairwise_cons] at h
    split
    · rename_i hle
      have hne : x ≠ j := fun z => hn (by rw [z]; exact List.mem_cons_self)
      rw [List.pairwise_cons, List.pairwise_cons]
      refine ⟨fun y hy => ?_, h⟩
      rcases List.mem_cons.mp hy with q | q
      · omega
      · have := h.1 y q; omega
    · rw [List.pairwise_cons]
      refine ⟨fun y hy => ?_, insI_asc h.2 fun z => hn (List.mem_cons_of_mem _ z)⟩
      rcases insI_mem.mp hy with q | q
      · omega
      · exact h.1 y q
theorem sortI_mem {y : Int} : ∀ {is : List Int}, y ∈ sortI is ↔ y ∈ is
  | [] => Iff.rfl
  | i :: r => by
    show y ∈ insI i (sortI r) ↔ _
    rw [insI_mem, sortI_mem (is := r), List.mem_cons]
theorem sortI_asc : ∀ {is : List Int}, is.Nodup → (sortI is).Pairwise (· < ·)
  | [], _ => .nil
  | i :: r, h => by
    rw [List.nodup_cons] at h
    exact insI_asc (sortI_asc h.2) fun z => h.1 (sortI_mem.mp z)
theorem insI_len (x : Int) : ∀ is : List Int, (insI x is).length = is.length + 1
  | [] => rfl
  | j :: r => by
    unfold insI
    split
    · rfl
    · rw [List.length_cons, insI_len x r, List.length_cons]
theorem sortI_len : ∀ is : List Int, (sortI is).length = is.length
  | [] => rfl
  | i :: r => by
    show (insI i (sortI r)).length = _
    rw [insI_len, sortI_len r, List.length_cons]
/-! ### patterns -/
def choiceI (is : List Int) : Bool := is == sortU is
def isChoice (x : D) : Bool := match x with
  | .tup xs => areW (.tup xs) && (match allI (xs.map .d) with
    | some is => choiceI is
    | none => false)
  | _ => false
def isPat (n : Int) (x : D) : Bool := match x with
  | .dic kvs => kvs.all fun p => isBelow p.1 n && isChoice p.2
  | _ => false
def seenC (x : D) : Bool := seen1 x && (match x with
  | .tup xs => decide (xs.length < 64)
  | _ => true)
def okPat (x : D) : Bool := match x with
  | .dic kvs => (kvs.all fun p => noRo p.1 && seenC p.2) && decide (kvs.length ≤ 1000)
  | .ro _ => false
  | _ => true
abbrev Pat := List (Int × List Int)
def patD (p : Pat) : D := .dic (p.map fun q => (.int q.1, intsD q.2))
structure PatOk (n : Nat) (p : Pat) : Prop where
  r : ∀ q ∈ p, 0 ≤ q.1 ∧ q.1 < n
  w0 : ∀ q ∈ p, q.2 ≠ []
  ww : ∀ q ∈ p, ∀ w ∈ q.2, worth w
  wc : ∀ q ∈ p, choiceI q.2 = true
  wl : ∀ q ∈ p, q.2.length ≤ 8
  l : p.length ≤ 24
  d : (p.map (·.1)).Nodup
def met (p : Pat) (c : List Int) : Bool := p.all fun q => q.2.contains (c.getD q.1.toNat 0)
theorem allI_intsC (is : List Int) : allI (is.map (Vl.d ∘ D.int)) = some is := by
  have := allI_ints is
  rw [List.map_map] at this
  exact this
theorem k_sortedSet {m : Bool} {is : List Int} {h : Hs} : mk m .sortedSet [.d (.tup (is.map .int))] h = if is.length < 64 then mkL m ((sortU is).map fun i => .d (.int i)) h else .bad := by
  simp only [mk, allI_ints]
section
variable {F : Fun}
abbrev ChoiceEq (F : Fun) (i : Nat) : Prop := ∀ {x : D} {h : Hs}, wfH h = true → seenC x = true → F i [.d x] h = .ok (.d (.bl (isChoice x))) h
theorem is_choice_eq {i iw : Nat} (hw : WorthsEq F iw) (hF : F i = run F 1 (Lb.is_choice iw)) : ChoiceEq F i := by
  intro x h wf hx
  obtain ⟨h1, h2⟩ := Bool.and_eq_true_iff.mp hx
  rw [hF]
  refine eq_run wf ?_
  have e0 := hw wf h1
  cases x <;> first | (cases h1; done) | (simp [Lb.is_choice, e0, areW, isChoice]; done) | skip
  rename_i xs
  cases q : areW (.tup xs) with
  | false => simp -implicitDefEqProofs [Lb.is_choice, e0, isChoice, q]
  | true =>
    have q' := q
    unfold areW at q'
    rw [Bool.and_eq_true] at q'
    obtain ⟨is, rfl, hi⟩ := below_ints q'.2
    have hl : is.length < 64 := by simpa using of_decide_eq_true h2
    have hl2 : is.length ≤ LIM := limE (by omega)
    have hl3 : (sortU is).length ≤ LIM := limE (by have := sortU_len is; omega)
    have e1 := eqV_lints (is := is) (js := sortU is) (h := h)
    simp -implicitDefEqProofs [Lb.is_choice, e0, isChoice, q, k_sortedSet, hl, hl2, hl3, e1, allI_intsC, choiceI]
abbrev PatEq (F : Fun) (i : Nat) : Prop := ∀ {x : D} {n : Int} {h : Hs}, wfH h = true → okPat x = true → F i [.d (.int n), .d x] h = .ok (.d (.bl (isPat n x))) h
theorem is_pattern_eq {i ib ic : Nat} (hb : BelowEq F ib) (hc : ChoiceEq F ic) (hF : F i = run F 4 (Lb.is_pattern ib ic)) : PatEq F i := by
  intro x n h wf hx
  rw [hF]
  refine eq_run wf ?_
  cases x <;> first | (cases hx; done) | (simp [Lb.is_pattern, isPat, isTyV, isTy]; done) | skip
  rename_i kvs
  simp only [okPat, Bool.and_eq_true, decide_eq_true_eq] at hx
  obtain ⟨bs, e, hal, _⟩ := ev_mapB (F := F) (x := (.and (.call ib [(.var 2), (.var 0)]) (.call ic [(.var 3)]))) (t := .tup [2, 3]) (k := .items) (its := [(.var 1)]) (cs := []) (e := [some (.d (.int n)), some (.d (.dic kvs)), none, none]) (h := h) (xs := kvs) (r := fun p => [.d p.1, .d p.2]) (fun p => isBelow p.1 n && isChoice p.2) (by simp [rowsOf]) (limE hx.2) fun p hp => by
    have hq := List.all_eq_true.mp hx.1 p hp
    rw [Bool.and_eq_true] at hq
    have e1 := hb (x := p.1) (n := n) wf hq.1
    have e2 := hc (x := p.2) wf hq.2
    cases q : isBelow p.1 n <;> simp -implicitDefEqProofs [e1, e2, q]
  simp -implicitDefEqProofs [Lb.is_pattern, e, isPat, -p_allM, p_allB, hal]
theorem okPat_pat {n : Nat} {p : Pat} (o : PatOk n p) : okPat (patD p) = true := by
  unfold patD okPat
  rw [Bool.and_eq_true, List.all_map, List.length_map]
  refine ⟨List.all_eq_true.mpr fun q hq => ?_, decide_eq_true (by have := o.l; omega)⟩
  have hl := o.wl q hq
  simp only [Function.comp, noRo, Bool.true_and, seenC, Bool.and_eq_true]
  exact ⟨seen1_ints (by omega), by simp [intsD]; omega⟩
theorem isChoice_ints {ws : List Int} (h0 : ws ≠ []) (h : ∀ w ∈ ws, worth w) (c : choiceI ws = true) : isChoice (intsD ws) = true := by
  have := areW_ints h0 h
  unfold intsD at this ⊢
  simp only [isChoice, this, allI_ints, c, Bool.and_self]
theorem isPat_pat {n : Nat} {p : Pat} (o : PatOk n p) : isPat n (patD p) = true := by
  show ((p.map fun q => ((.int q.1 : D), intsD q.2)).all fun p => isBelow p.1 n && isChoice p.2) = true
  rw [List.all_map]
  refine List.all_eq_true.mpr fun q hq => ?_
  have h1 := o.r q hq
  simp only [Function.comp, isBelow_int, isChoice_ints (o.w0 q hq) (o.ww q hq) (o.wc q hq), Bool.and_true, Bool.and_eq_true, decide_eq_true_eq]
  exact h1
theorem check_eq {i ip : Nat} {w : Sm} (hF : F i = run F 2 (Lb.check2 ip w)) {a b : Vl} {h : Hs} (wf : wfH h = true) (e : F ip [a, b] h = .ok (.d (.bl true)) h) : F i [a, b] h = .ok (.d .non) h := by
  rw [hF]
  refine eq_of_wp ?_
  rw [wp_run]
  simp -implicitDefEqProofs [Lb.check2, e, wp_done_d, lo_self wf]
theorem is_matched_eq {i : Nat} (hF : F i = run F 4 Lb.is_matched) {p : Pat} {c : List Int} (o : PatOk c.length p) {h : Hs} (wf : wfH h = true) : F i [.d (patD p), .d (intsD c)] h = .ok (.d (.bl (met p c))) h := by
  rw [hF]
  refine eq_run wf ?_
  obtain ⟨bs, e, hal, _⟩ := ev_mapB (F := F) (x := (.prim .in_ [(.prim .item [(.var 1), (.var 2)]), (.var 3)])) (t := .tup [2, 3]) (k := .items) (its := [(.var 0)]) (cs := []) (e := [some (.d (patD p)), some (.d (intsD c)), none, none]) (h := h) (xs := p) (r := fun q => [.d (.int q.1), .d (intsD q.2)]) (fun q => q.2.contains (c.getD q.1.toNat 0)) (by simp [rowsOf, patD]) (limE (by have := o.l; omega)) fun q hq => by
    have hr := o.r q hq
    have ha : atI c q.1 = some (c.getD q.1.toNat 0) := by
      rw [atI_nat hr.1 hr.2, List.getD_eq_getElem?_getD, List.getElem?_eq_getElem (by omega)]
      rfl
    have e2 := in_intsU' (i := c.getD q.1.toNat 0) (is := q.2) (h := h)
    generalize c.getD q.1.toNat 0 = u at ha e2 ⊢
    generalize intsD q.2 = ws at e2 ⊢
    simp -implicitDefEqProofs [intsD, ha, e2]
  simp -implicitDefEqProofs [Lb.is_matched, e, met, -p_allM, p_allB, hal]
/-! ### the cells of a piece -/
theorem brk_in (ix f : Int) (ws : List Int) (w : Int) : ∀ (ks : List Nat) (s : List Part × Nat), s.2 ≤ ws.length → (∀ k ∈ ks, k < ws.length) → (∀ p ∈ s.1, f ≤ p.2.1 ∧ p.2.1 + p.2.2.length ≤ f + ws.length ∧ ∀ x ∈ p.2.2, x ∈ ws) → ∀ p ∈ (ks.foldl (brkSt ix f ws w) s).1, f ≤ p.2.1 ∧ p.2.1 + p.2.2.length ≤ f + ws.length ∧ ∀ x ∈ p.2.2, x ∈ ws
  | [], s, _, _, h => h
  | k :: ks, s, hs, hk, h => by
    rw [List.foldl_cons]
    have hk0 := hk k List.mem_cons_self
    refine brk_in ix f ws w ks _ ?_ (fun k' h' => hk k' (List.mem_cons_of_mem _ h')) ?_
    · unfold brkSt
      split
      · show k + 1 ≤ ws.length; omega
      · exact hs
    · unfold brkSt
      split
      · intro p hp
        rcases List.mem_append.mp hp with q | q
        · exact h p q
        · rw [List.mem_singleton.mp q]
          have hl := cutD_len (ws := ws) (a := s.2) (k := k + 1) (by omega)
          refine ⟨by show f ≤ f + (s.2 : Int); omega, ?_, fun x hx => mem_cutD hx⟩
          show f + (s.2 : Int) + ((cutD ws s.2 (k + 1)).length : Int) ≤ _
          rw [hl]
          omega
      · exact h
theorem parts_in {t : PlanT} (ok : t.ok) {p : Part} (hp : p ∈ t.parts) : 0 ≤ p.2.1 ∧ p.2.1 + p.2.2.length ≤ t.cells.length ∧ ∀ x ∈ p.2.2, worth x := by
  obtain ⟨⟨s, n⟩, hs, hp⟩ := List.mem_flatMap.mp hp
  cases s with
  | none => cases hp
  | some q =>
    obtain ⟨f, ws⟩ := q
    have hm : some (f, ws) ∈ t.steps := (List.mem_zipIdx' hs).2 ▸ (List.getElem_mem _)
    obtain ⟨h0, h1, h2, h3⟩ := ok.st _ hm
    have := brk_in n f ws t.span (List.range ws.length) ([], 0) (Nat.zero_le _) (fun k hk => List.mem_range.mp hk) (by simp) p hp
    exact ⟨by omega, by omega, fun x hx => h3 x (this.2.2 x hx)⟩
def cellsK (p : Part) : List (D × D) := p.2.2.zipIdx.map fun w => (.int (p.2.1 + (w.2 : Int)), .int w.1)
def cellsD (p : Part) : D := .dic (cellsK p)
theorem any_no {α : Type} {kvs : List (D × α)} {k : Int} (h : ∀ p ∈ kvs, ∃ j, p.1 = .int j ∧ j ≠ k) : (kvs.any fun p => eqvD p.1 (.int k)) = false := by
  rw [List.any_eq_false]
  intro p hp
  obtain ⟨j, e, hj⟩ := h p hp
  rw [e, eqvD]
  simpa using hj
theorem putK_new {α : Type} {kvs : List (D × α)} {k : Int} {v : α} (h : ∀ p ∈ kvs, ∃ j, p.1 = .int j ∧ j ≠ k) : putK kvs (.int k) v = kvs ++ [(.int k, v)] := by
  unfold putK
  rw [any_no h]
  rfl
theorem fromPairs_new {α : Type} (f : α → Int) (g : α → D) : ∀ (xs : List α) (acc : List (D × D)), (xs.map f).Nodup → (∀ p ∈ acc, ∃ j, p.1 = .int j ∧ j ∉ xs.map f) → fromPairs (xs.map fun x => .tup [.int (f x), g x]) (some acc) = some (acc ++ xs.map fun x => (.int (f x), g x))
  | [], acc, _, _ => by simp [fromPairs]
  | x :: xs, acc, hn, ha => by
    rw [List.map_cons, List.nodup_cons] at hn
    rw [List.map_cons, fromPairs]
    simp only [keyS, if_true]
    rw [putK_new (fun p hp => by
      obtain ⟨j, e, hj⟩ := ha p hp
      exact ⟨j, e, fun z => hj (by rw [z]; exact List.mem_cons_self)⟩)]
    rw [fromPairs_new f g xs _ hn.2 fun p hp => by
      rcases List.mem_append.mp hp with q | q
      · obtain ⟨j, e, hj⟩ := ha p q
        exact ⟨j, e, fun z => hj (List.mem_cons_of_mem _ z)⟩
      · rw [List.mem_singleton.mp q]
        exact ⟨_, rfl, hn.1⟩]
    simp
theorem zipIdx_nodup {ws : List Int} {f : Int} : (ws.zipIdx.map fun w => f + (w.2 : Int)).Nodup := by
  have e : (ws.zipIdx.map fun w => f + (w.2 : Int)) = (ws.zipIdx.map (·.2)).map fun n : Nat => f + (n : Int) := by rw [List.map_map]; rfl
  rw [e]
  refine List.Pairwise.map _ (fun a b hab => ?_) (show (ws.zipIdx.map (·.2)).Nodup from ?_)
  · omega
  · have : ws.zipIdx.map (·.2) = List.range' 0 ws.length := by
      rw [List.zipIdx_map_snd]
    rw [this]
    exact List.nodup_range' 
theorem rowsOf_enumT {α : Type} (f : α → D) (xs : List α) : rowsOf .enum [.d (.tup (xs.map f))] = some (xs.zipIdx.map fun p => [.d (.int p.2), .d (f p.1)]) := rowsOf_enum f xs
theorem mkPs_ok {us : List Vl} {ds : List D} {kvs : List (D × D)} {h : Hs} (e1 : allD us = some ds) (e2 : fromPairs ds (some []) = some kvs) : mkPs false us h = if kvs.length ≤ LIM then .ok (.d (.dic kvs)) h else .bad := by
  simp only [mkPs, e1, e2, mkK, Bool.false_eq_true, if_false]
abbrev CellsEq (F : Fun) (i : Nat) : Prop := ∀ {t : PlanT} {k : Nat} {p : Part} {h : Hs}, wfH h = true → t.parts[k]? = some p → p.2.2.length ≤ 1000 → F i [.d t.obj, .d (.int (k : Int))] h = .ok (.d (cellsD p)) h
theorem cells_in_eq {i : Nat} (hF : F i = run F 7 Lb.cells_in) : CellsEq F i := by
  intro t k p h wf hp hl
  rw [hF]
  refine eq_run wf ?_
  obtain ⟨ix, f, ws⟩ := p
  have ha : atI (t.parts.map partD) (k : Int) = some (partD (ix, f, ws)) := by rw [atI_map, atI_k hp]; rfl
  have hc : ∀ o : Option Vl, ev F (.dcomp false (.prim .add [(.var 3), (.var 5)]) (.var 6) (.tup [5, 6]) .enum [(.var 4)] []) [o, some (.d (.int (k : Int))), some (.d (.int ix)), some (.d (.int f)), some (.d (intsD ws)), none, none] h = .ok (.d (cellsD (ix, f, ws))) h := by
    intro o
    have hr : rowsM F .enum [(.var 4)] [o, some (.d (.int (k : Int))), some (.d (.int ix)), some (.d (.int f)), some (.d (intsD ws)), none, none] h = .ok (ws.zipIdx.map fun w => [.d (.int w.2), .d (.int w.1)]) h := by
      simp -implicitDefEqProofs [intsD, rowsOf_enumT]
    rw [x_dcomp, hr, bind_ok, comp_plain (g := fun w : Int × Nat => .d (.tup [.int (f + (w.2 : Int)), .int w.1])) fun w hw => by simp -implicitDefEqProofs]
    rw [noEx_k, bind_ok, mkPs_ok (ds := ws.zipIdx.map fun w => .tup [.int (f + (w.2 : Int)), .int w.1]) (kvs := cellsK (ix, f, ws)) (by simp) ?_]
    · rw [if_pos (limE (by simp [cellsK]; exact hl))]
      rfl
    · have := fromPairs_new (fun w : Int × Nat => f + (w.2 : Int)) (fun w => .int w.1) ws.zipIdx [] zipIdx_nodup (by simp)
      simpa [cellsK] using this
  simp -implicitDefEqProofs [Lb.cells_in, PlanT.obj, PlanT.flds, objOf, ha, partD, hc]
end
end L3
/-! L3 library: what is found after a fall: the walks. -/
namespace L3
open PySem
/-- a content with some cells overwritten -/
def over1 (c : List Int) (p : Part) : List Int := p.2.2.zipIdx.foldl (fun c w => c.set (p.2.1.toNat + w.2) w.1) c
def overs (parts : List Part) (c : List Int) (is : List Int) : List Int := is.foldl (fun c i => over1 c (parts.getD i.toNat (0, 0, []))) c
theorem setf_len (f : Nat) (l : List (Int × Nat)) (c : List Int) : (l.foldl (fun c w => c.set (f + w.2) w.1) c).length = c.length := by
  induction l generalizing c with
  | nil => rfl
  | cons w r ih => rw [List.foldl_cons, ih, List.length_set]
theorem over1_len (c : List Int) (p : Part) : (over1 c p).length = c.length := setf_len _ _ _
theorem overs_len (parts : List Part) : ∀ (is : List Int) (c : List Int), (overs parts c is).length = c.length
  | [], _ => rfl
  | i :: r, c => by
    show (overs parts (over1 c _) r).length = _
    rw [overs_len parts r, over1_len]
theorem setf_worth {f : Nat} {l : List (Int × Nat)} {c : List Int} (hc : ∀ w ∈ c, worth w) (hl : ∀ w ∈ l, worth w.1) : ∀ w ∈ l.foldl (fun c w => c.set (f + w.2) w.1) c, worth w := by
  induction l generalizing c with
  | nil => exact hc
  | cons w r ih =>
    rw [List.foldl_cons]
    refine ih (fun x hx => ?_) fun x hx => hl x (List.mem_cons_of_mem _ hx)
    rcases List.mem_or_eq_of_mem_set hx with q | q
    · exact hc x q
    · rw [q]; exact hl w List.mem_cons_self
theorem overs_worth {t : PlanT} (ok : t.ok) : ∀ {is : List Int} {c : List Int}, (∀ i ∈ is, 0 ≤ i ∧ i < t.parts.length) → (∀ w ∈ c, worth w) → ∀ w ∈ overs t.parts c is, worth w
  | [], _, _, hc => hc
  | i :: r, c, hi, hc => by
    show ∀ w ∈ overs t.parts (over1 c _) r, worth w
    refine overs_worth ok (fun j hj => hi j (List.mem_cons_of_mem _ hj)) ?_
    have h1 := hi i List.mem_cons_self
    have hg : t.parts.getD i.toNat (0, 0, []) ∈ t.parts := by
      rw [List.getD_eq_getElem?_getD, List.getElem?_eq_getElem (by omega)]
      exact List.getElem_mem _
    exact setf_worth hc fun w hw => (parts_in ok hg).2.2 w.1 (List.fst_mem_of_mem_zipIdx hw)
abbrev IsEq (F : Fun) (i : Nat) : Prop := ∀ {t : PlanT}, t.ok → ∀ {x : D} {h : Hs}, wfH h = true → okT x = true → ∃ b, F i [.d t.obj, .d x] h = .ok (.d (.bl b)) h ∧ (b = true ↔ FallP t.ranks x)
abbrev LawEq (F : Fun) (i : Nat) : Prop := ∀ {t : PlanT}, t.ok → total t.steps ≤ 500 → ∀ {x : D} {h : Hs}, wfH h = true → okT x = true → ∃ b, F i [.d t.toD, .d x] h = .ok (.d (.bl b)) h ∧ (b = true ↔ FallP t.ranks x)
section
variable {F : Fun}
theorem parts_at {t : PlanT} {i : Int} (h : 0 ≤ i ∧ i < t.parts.length) : ∃ k : Nat, i = k ∧ t.parts[k]? = some (t.parts.getD i.toNat (0, 0, [])) := by
  obtain ⟨k, rfl⟩ := Int.eq_ofNat_of_zero_le h.1
  refine ⟨k, rfl, ?_⟩
  rw [Int.toNat_natCast, List.getD_eq_getElem?_getD, List.getElem?_eq_getElem (by omega)]
  rfl
theorem rows_seqI {x : Ex} {e : Env} {h : Hs} {is : List Int} (hx : ev F x e h = .ok (.d (.lst (is.map .int))) h) : rowsM F .seq [x] e h = .ok (is.map fun i => [.d (.int i)]) h := rows_mapL hx
abbrev OverEq (F : Fun) (i : Nat) : Prop := ∀ {t : PlanT} {c is : List Int} {h : Hs}, t.ok → c.length = t.cells.length → (∀ i ∈ is, 0 ≤ i ∧ i < t.parts.length) → wfH h = true → F i [.d t.obj, .d (intsD c), .d (.lst (is.map .int))] h = .ok (.d (intsD (overs t.parts c is))) h
theorem over_eq {i ic : Nat} (hc : CellsEq F ic) (hF : F i = run F 7 (Lb.overwritten ic)) : OverEq F i := by
  intro t c is h ok hl hi wf
  have hcl : c.length ≤ LIM := limE (by have := ok.c1; omega)
  rw [hF]
  refine eq_of_wp ?_
  rw [wp_run]
  simp -implicitDefEqProofs [Lb.overwritten, y_for, intsD, hcl, rowsOf]
  have e1 : (is.map fun x => [Vl.d (D.int x)]) = is.map ((fun x => [Vl.d x]) ∘ D.int) := rfl
  rw [← e1]
  refine for_inv (fun pre e h' => ∃ u v w : Option Vl, e = [some (.d t.obj), some (.d (.tup (c.map .int))), some (.d (.lst (is.map .int))), some (.r h.length), u, v, w] ∧ h' = h ++ [.lst ((overs t.parts c pre).map fun x => .d (.int x))]) is ⟨none, none, none, rfl, by simp [overs, Function.comp_def]⟩ ?_ ?_
  · rintro pre x post e h' hk ⟨u, v, w, rfl, rfl⟩
    have hx : x ∈ is := hk ▸ (by simp)
    obtain ⟨k, rfl, hp⟩ := parts_at (hi x hx)
    have hov : overs t.parts c (pre ++ [(k : Int)]) = over1 (overs t.parts c pre) (t.parts.getD (k : Int).toNat (0, 0, [])) := by
      unfold overs
      rw [List.foldl_append]
      rfl
    rw [hov]
    have hlen := overs_len t.parts pre c
    generalize overs t.parts c pre = c0 at hlen
    generalize hpp : t.parts.getD (k : Int).toNat (0, 0, []) = p at hp
    have hin := parts_in ok (List.mem_of_getElem? hp)
    have wf1 : ∀ c : List Int, wfH (h ++ [.lst (c.map fun x => .d (.int x))]) = true := fun c => wf_app wf (by simp [flatC])
    have e2 := hc (wf1 c0) hp (by have := ok.c1; omega)
    have er : rowsOf .items [.d (cellsD p)] = some (p.2.2.zipIdx.map fun w => [.d (.int (p.2.1 + (w.2 : Int))), .d (.int w.1)]) := by simp [rowsOf, cellsD, cellsK]
    simp -implicitDefEqProofs [e2, er, y_for]
    refine for_inv (fun pre2 e h' => ∃ v w : Option Vl, e = [some (.d t.obj), some (.d (.tup (c.map .int))), some (.d (.lst (is.map .int))), some (.r h.length), some (.d (.int (k : Int))), v, w] ∧ h' = h ++ [.lst ((pre2.foldl (fun c w => c.set (p.2.1.toNat + w.2) w.1) c0).map fun x => .d (.int x))]) p.2.2.zipIdx ⟨_, _, rfl, rfl⟩ ?_ ?_
    · rintro pre2 ⟨y, j⟩ post2 e h' hk2 ⟨v, w, rfl, rfl⟩
      have hm : (y, j) ∈ p.2.2.zipIdx := hk2 ▸ (by simp)
      have hj : j < p.2.2.length := by
        have := List.mem_zipIdx hm
        omega
      rw [List.foldl_append, List.foldl_cons, List.foldl_nil]
      have hl3 := setf_len p.2.1.toNat pre2 c0
      generalize pre2.foldl (fun c w => c.set (p.2.1.toNat + w.2) w.1) c0 = c1 at hl3
      have ej : p.2.1 + (j : Int) = ((p.2.1.toNat + j : Nat) : Int) := by omega
      have hq : p.2.1.toNat + j < c1.length := by omega
      generalize p.2.1.toNat + j = q at ej hq ⊢
      have es := setV_at (h := h ++ [.lst (c1.map fun x => .d (.int x))]) (n := h.length) (vs := c1.map fun x => .d (.int x)) (k := q) (v := .d (.int y)) (by simp) (by rw [List.length_map]; omega)
      simp -implicitDefEqProofs [ej, es, List.map_set]
    · rintro e h' ⟨v, w, rfl, rfl⟩
      simp [over1]
  · rintro e h' ⟨u, v, w, rfl, rfl⟩
    have e9 : ∀ xs : List Int, allD (xs.map fun x => Vl.d (.int x)) = some (xs.map .int) := fun xs => allD_map' xs .int
    simp -implicitDefEqProofs [e9, wp_done_d, lo_self wf]
theorem base_eq {i : Nat} (hF : F i = run F 1 Lb.plan_base) {t : PlanT} {h : Hs} (wf : wfH h = true) : F i [.d t.obj] h = .ok (.d (intsD t.cells)) h := by
  rw [hF]
  refine eq_run wf ?_
  simp -implicitDefEqProofs [Lb.plan_base, PlanT.obj, PlanT.flds, objOf]
/-- a check of falls -/
abbrev CheckOk (F : Fun) (i : Nat) : Prop := ∀ {t : PlanT} {is : List Int} {h : Hs}, t.ok → FallR t.ranks is → wfH h = true → F i [.d t.obj, .d (.lst (is.map .int))] h = .ok (.d .non) h
theorem okT_ints {is : List Int} (h : is.length ≤ 500) : okT (.lst (is.map .int)) = true := by
  simp only [okT, Bool.and_eq_true, decide_eq_true_eq, List.length_map]
  exact ⟨by unfold noRos; rw [List.all_map, List.all_eq_true]; intro x _; rfl, h⟩
theorem check_fall_ok {i ip : Nat} {w : Sm} (hI : ∀ {t : PlanT}, t.ok → ∀ {x : D} {h : Hs}, wfH h = true → okT x = true → ∃ b, F ip [.d t.obj, .d x] h = .ok (.d (.bl b)) h ∧ (b = true ↔ FallP t.ranks x)) (hF : F i = run F 2 (Lb.check2 ip w)) : CheckOk F i := by
  intro t is h ok f wf
  have hlen := f.toFallI.len
  have r40 : t.ranks.length ≤ 40 := by rw [ranks_len]; exact ok.p1
  obtain ⟨b, e, hb⟩ := hI ok wf (okT_ints (is := is) (by omega))
  have : b = true := hb.mpr f.fall
  subst this
  exact check_eq hF wf e
/-- what is found -/
def PlanT.left (t : PlanT) (is : List Int) : List Int := overs t.parts t.cells is
abbrev AfterEq (F : Fun) (i : Nat) : Prop := ∀ {t : PlanT} {is : List Int} {h : Hs}, t.ok → FallR t.ranks is → wfH h = true → F i [.d t.obj, .d (.lst (is.map .int))] h = .ok (.d (intsD (t.left is))) h
theorem FallR.rp {t : PlanT} {is : List Int} (f : FallR t.ranks is) : ∀ i ∈ is, 0 ≤ i ∧ i < t.parts.length := fun i hi => by
  have := f.r i hi
  rw [ranks_len] at this
  exact this
theorem content_after_eq {i ik ib io : Nat} (hk : CheckOk F ik) (hb : F ib = run F 1 Lb.plan_base) (ho : OverEq F io) (hF : F i = run F 2 (Lb.content_after ik ib io)) : AfterEq F i := by
  intro t is h ok f wf
  rw [hF]
  refine eq_run wf ?_
  have e1 := hk ok f wf
  have e2 := base_eq hb (t := t) wf
  have e3 := ho (c := t.cells) ok rfl f.rp wf
  simp -implicitDefEqProofs [Lb.content_after, e1, isObj_plan, e2, e3, PlanT.left]
/-- the least epoch -/
def epI (ranks is : List Int) : Int := (is.map fun i => ranks.getD i.toNat 0).foldl max 0
theorem ranks_at {ranks : List Int} {i : Int} (h : 0 ≤ i ∧ i < ranks.length) : atI ranks i = some (ranks.getD i.toNat 0) := by
  rw [atI_nat h.1 h.2, List.getD_eq_getElem?_getD, List.getElem?_eq_getElem (by omega)]
  rfl
abbrev EpochEq (F : Fun) (i : Nat) : Prop := ∀ {t : PlanT} {is : List Int} {h : Hs}, t.ok → FallR t.ranks is → wfH h = true → F i [.d t.obj, .d (.lst (is.map .int))] h = .ok (.d (.int (epI t.ranks is))) h
theorem rank_map {o : Option Vl} {x : Ex} {ix iy ez : Nat} {e : Env} {h : Hs} {ranks is : List Int} (hr : ∀ i ∈ is, 0 ≤ i ∧ i < ranks.length) (hl : is.length ≤ 500) (hx : ∀ i : Int, i ∈ is → turnM F x (.nm iy) [] e [.d (.int i)] h = .ok (some (.d (.int (ranks.getD i.toNat 0)))) h) (hz : ev F (.var ez) e h = .ok (.d (.lst (is.map .int))) h) :
    ev F (.comp false x (.nm iy) .seq [.var ez] []) e h = .ok (.d (.lst ((is.map fun i => ranks.getD i.toNat 0).map .int))) h := by
  rw [List.map_map]
  exact ev_map (F := F) (xs := is) (r := fun i => [.d (.int i)]) (fun i => .int (ranks.getD i.toNat 0)) (rows_seqI hz) (limE (by omega)) fun i hi => hx i hi
theorem epoch_in_eq {i ik : Nat} (hk : CheckOk F ik) (hF : F i = run F 3 (Lb.epoch_in ik)) : EpochEq F i := by
  intro t is h ok f wf
  rw [hF]
  refine eq_run wf ?_
  have e1 := hk ok f wf
  have r40 : t.ranks.length ≤ 40 := by rw [ranks_len]; exact ok.p1
  have hlen := f.toFallI.len
  have e2 := rank_map (F := F) (o := none) (x := (.prim .item [(.attr 0 4 "ranks" (.var 0)), (.var 2)])) (ix := 0) (iy := 2) (ez := 1) (e := [some (.d t.obj), some (.d (.lst (is.map .int))), none]) (h := h) f.r (by omega) (fun i hi => by
    have ha := ranks_at (f.r i hi)
    generalize t.ranks.getD i.toNat 0 = u at ha ⊢
    simp -implicitDefEqProofs [PlanT.obj, PlanT.flds, objOf, ha]) (by simp)
  have hl : (is.map fun i => t.ranks.getD i.toNat 0).length = is.length := List.length_map ..
  have hu : epI t.ranks is = (is.map fun i => t.ranks.getD i.toNat 0).foldl max 0 := rfl
  rw [hu]
  generalize (is.map fun i => t.ranks.getD i.toNat 0) = rs at e2 hl
  have l1 : rs.length + 1 ≤ LIM := limE (by omega)
  have e3 := p_maxL (is := rs) (j := 0) (h := h)
  simp -implicitDefEqProofs [Lb.epoch_in, e1, e2, l1, e3, mkLF_cons, Function.comp_def]
abbrev FoundEq (F : Fun) (i : Nat) : Prop := ∀ {t : PlanT} {is : List Int} {p : Pat} {h : Hs}, t.ok → FallR t.ranks is → PatOk t.cells.length p → wfH h = true → F i [.d t.obj, .d (.lst (is.map .int)), .d (patD p)] h = .ok (.d (.bl (met p (t.left is)))) h
theorem left_len (t : PlanT) (is : List Int) : (t.left is).length = t.cells.length := overs_len _ _ _
theorem is_found_eq {i ia ik ip im : Nat} {w : Sm} (ha : AfterEq F ia) (hp : PatEq F ip) (hk : F ik = run F 2 (Lb.check2 ip w)) (hm : F im = run F 4 Lb.is_matched) (hF : F i = run F 4 (Lb.is_found ia ik im)) : FoundEq F i := by
  intro t is p h ok f po wf
  rw [hF]
  refine eq_run wf ?_
  have e1 := ha ok f wf
  have hl := left_len t is
  have e2 := hp (n := (t.left is).length) wf (okPat_pat po)
  rw [hl, isPat_pat po] at e2
  have e3 := check_eq hk wf e2
  have e4 := is_matched_eq hm (p := p) (c := t.left is) (by rw [hl]; exact po) wf
  generalize t.left is = c at e1 hl e4
  have hl2 : (intsD c) = .tup (c.map .int) := rfl
  rw [hl2] at e1 e4
  simp -implicitDefEqProofs [Lb.is_found, e1, hl, e3, e4]
end
end L3
/-! L3 library: the law's contents, patterns. -/
namespace L3
open PySem
namespace Lb
def law_left (iP : Nat) : List Sm := [
  .par [2, 3] [(.call iP [(.var 0)]), (.mk true .list [(.prim .item [(.var 0), (.cst (.int 0))])])],
  .for_ (.nm 4) .seq [(.var 1)] [.asg (.tup [5, 6, 7]) (.prim .item [(.var 2), (.var 4)]), .for_ (.nm 8) .rng [(.prim .len [(.var 7)])] [.sub (.var 3) (.prim .add [(.var 6), (.var 8)]) (.prim .item [(.var 7), (.var 8)])]],
  .ret (.prim .tuple [(.var 3)])]
def law_is_met : List Sm := [
  .ret (.prim .all [(.comp false (.prim .in_ [(.prim .item [(.var 1), (.var 2)]), (.prim .item [(.var 0), (.var 2)])]) (.nm 2) .seq [(.var 0)] [])])]
def law_some (iD : Nat) : List Sm := [
  .asg (.nm 3) (.mk true .list [(.var 1)]),
  .ret (.comp false (.popc (.var 3) [(.call iD [(.var 0), (.prim .len [(.var 3)])])]) (.nm 4) .rng [(.call iD [(.var 0), (.prim .add [(.prim .min2 [(.var 2), (.prim .len [(.var 3)])]), (.cst (.int 1))])])] [])]
def law_pattern (iL iF iS iD : Nat) : List Sm := [
  .par [2, 3] [(.call iL [(.var 1), (.call iF [(.var 0), (.var 1)])]), (.dict true [] [])],
  .for_ (.nm 4) .seq [(.call iS [(.var 0), (.mk false .listRange [(.prim .len [(.var 2)])]), (.cst (.int 4))])] [.asg (.nm 5) (.dict true [(.prim .item [(.var 2), (.var 4)])] [(.cst (.bl true))]), .ite (.prim .eq [(.call iD [(.var 0), (.cst (.int 3))]), (.cst (.int 0))]) [.asg (.nm 5) (.dict true [(.call iD [(.var 0), (.cst (.int 8))])] [(.cst (.bl true))])] [], .for_ (.nm 6) .rng [(.call iD [(.var 0), (.cst (.int 3))])] [.sub (.var 5) (.call iD [(.var 0), (.cst (.int 8))]) (.cst (.bl true))], .sub (.var 3) (.var 4) (.prim .tuple [(.mk false .sorted [(.var 5)])])],
  .ret (.frz (.var 3))]
end Lb
theorem zipIdx_range (ws : List Int) : ws.zipIdx = (List.range ws.length).map fun k => (ws.getD k 0, k) := by
  refine List.ext_getElem? fun i => ?_
  rw [List.getElem?_zipIdx, List.getElem?_map]
  by_cases hi : i < ws.length
  · rw [List.getElem?_range hi, List.getElem?_eq_getElem hi]
    simp [List.getD_eq_getElem?_getD, hi]
  · rw [List.getElem?_eq_none (by omega), List.getElem?_eq_none (by rw [List.length_range]; omega)]
    rfl
theorem over1_range (c : List Int) (p : Part) : over1 c p = (List.range p.2.2.length).foldl (fun c k => c.set (p.2.1.toNat + k) (p.2.2.getD k 0)) c := by
  unfold over1
  rw [zipIdx_range, List.foldl_map]
theorem setr_len (f : Nat) (ws : List Int) (l : List Nat) (c : List Int) : (l.foldl (fun c k => c.set (f + k) (ws.getD k 0)) c).length = c.length := by
  induction l generalizing c with
  | nil => rfl
  | cons w r ih => rw [List.foldl_cons, ih, List.length_set]
section
variable {F : Fun}
abbrev LeftEq (F : Fun) (i : Nat) : Prop := ∀ {t : PlanT} {is : List Int} {h : Hs}, t.ok → total t.steps ≤ 500 → (∀ i ∈ is, 0 ≤ i ∧ i < t.parts.length) → wfH h = true → F i [.d t.toD, .d (.lst (is.map .int))] h = .ok (.d (intsD (t.left is))) h
theorem law_left_eq {i iP : Nat} (hP : PartsEq F iP) (hF : F i = run F 9 (Lb.law_left iP)) : LeftEq F i := by
  intro t is h ok ht hi wf
  have hcl : t.cells.length ≤ LIM := limE (by have := ok.c1; omega)
  have s0 := ok.s0
  have n1 := ok.n1
  have eP := hP (t := t) wf (by omega) ht (by omega) fun s hs => okStep_ne (ok.st s hs)
  rw [hF]
  refine eq_of_wp ?_
  rw [wp_run]
  simp -implicitDefEqProofs [Lb.law_left, y_for, eP]
  have eP2 : ev F (.prim .item [(.var 0), (.cst (.int 0))]) [some (.d t.toD), some (.d (.lst (is.map .int))), none, none, none, none, none, none, none] h = .ok (.d (intsD t.cells)) h := by simp -implicitDefEqProofs [PlanT.toD]
  simp -implicitDefEqProofs [PlanT.toD, intsD, hcl, rowsOf]
  have e1 : (is.map fun x => [Vl.d (D.int x)]) = is.map ((fun x => [Vl.d x]) ∘ D.int) := rfl
  rw [← e1]
  have e3 : (Vl.d ∘ D.int) = fun x => Vl.d (D.int x) := rfl
  rw [e3]
  generalize hD : D.tup [D.tup (List.map D.int t.cells), D.int t.span, D.lst (List.map stepD t.steps)] = dD
  refine for_inv (fun pre e h' => ∃ u v w x y : Option Vl, e = [some (.d dD), some (.d (.lst (is.map .int))), some (.d (.lst (t.parts.map partD))), some (.r h.length), u, v, w, x, y] ∧ h' = h ++ [.lst ((overs t.parts t.cells pre).map fun x => .d (.int x))]) is ⟨none, none, none, none, none, rfl, by simp [overs]⟩ ?_ ?_
  · rintro pre x post e h' hk ⟨u, v, w, y, z, rfl, rfl⟩
    have hx : x ∈ is := hk ▸ (by simp)
    obtain ⟨k, rfl, hp⟩ := parts_at (hi x hx)
    have hov : overs t.parts t.cells (pre ++ [(k : Int)]) = over1 (overs t.parts t.cells pre) (t.parts.getD (k : Int).toNat (0, 0, [])) := by
      unfold overs
      rw [List.foldl_append]
      rfl
    rw [hov]
    have hlen := overs_len t.parts pre t.cells
    generalize overs t.parts t.cells pre = c0 at hlen
    generalize hpp : t.parts.getD (k : Int).toNat (0, 0, []) = p at hp
    have hin := parts_in ok (List.mem_of_getElem? hp)
    have ha : atI (t.parts.map partD) (k : Int) = some (partD p) := by rw [atI_map, atI_k hp]; rfl
    have ha2 := atI_k hp
    obtain ⟨ix, f, ws⟩ := p
    have c1 := ok.c1
    obtain ⟨in1', in2', _⟩ : 0 ≤ f ∧ f + (ws.length : Int) ≤ t.cells.length ∧ ∀ x ∈ ws, worth x := hin
    have hwl : ws.length ≤ 24 := by omega
    simp -implicitDefEqProofs [ha2, partD, intsD, y_for, rowsOf_n (show ws.length ≤ 1000000 by omega)]
    refine for_inv (fun pre2 e h' => ∃ y : Option Vl, e = [some (.d dD), some (.d (.lst (is.map .int))), some (.d (.lst (t.parts.map partD))), some (.r h.length), some (.d (.int (k : Int))), some (.d (.int ix)), some (.d (.int f)), some (.d (.tup (ws.map .int))), y] ∧ h' = h ++ [.lst ((pre2.foldl (fun c k => c.set (f.toNat + k) (ws.getD k 0)) c0).map fun x => .d (.int x))]) (List.range ws.length) ⟨_, rfl, rfl⟩ ?_ ?_
    · rintro pre2 j post2 e h' hk2 ⟨y, rfl, rfl⟩
      obtain ⟨_, hj⟩ := range_pre hk2
      rw [List.foldl_append, List.foldl_cons, List.foldl_nil]
      have hl3 := setr_len f.toNat ws pre2 c0
      generalize pre2.foldl (fun c k => c.set (f.toNat + k) (ws.getD k 0)) c0 = c1 at hl3
      have ej : f + (j : Int) = ((f.toNat + j : Nat) : Int) := by omega
      have hq : f.toNat + j < c1.length := by omega
      generalize f.toNat + j = q at ej hq ⊢
      have haw : atI ws (j : Int) = some (ws.getD j 0) := by
        rw [List.getD_eq_getElem?_getD, List.getElem?_eq_getElem hj]
        exact atI_k (List.getElem?_eq_getElem hj)
      generalize ws.getD j 0 = y1 at haw ⊢
      have es := setV_at (h := h ++ [.lst (c1.map fun x => .d (.int x))]) (n := h.length) (vs := c1.map fun x => .d (.int x)) (k := q) (v := .d (.int y1)) (by simp) (by rw [List.length_map]; omega)
      simp -implicitDefEqProofs [haw, ej, es, List.map_set]
    · rintro e h' ⟨y, rfl, rfl⟩
      simp [over1_range]
  · rintro e h' ⟨u, v, w, x, y, rfl, rfl⟩
    have e9 : ∀ xs : List Int, allD (xs.map fun x => Vl.d (.int x)) = some (xs.map .int) := fun xs => allD_map' xs .int
    simp -implicitDefEqProofs [e9, wp_done_d, lo_self wf, PlanT.left]
theorem getK_at {α : Type} {f : Int → α} : ∀ {p : Pat} {q : Int × List Int} {g : List Int → α}, (p.map (·.1)).Nodup → q ∈ p → getK (p.map fun q => (D.int q.1, g q.2)) (.int q.1) = some (g q.2)
  | [], _, _, _, h => by cases h
  | r :: p, q, g, hn, h => by
    rw [List.map_cons, List.nodup_cons] at hn
    unfold getK
    rw [List.map_cons, List.find?_cons]
    simp only [eqvD]
    rcases List.mem_cons.mp h with z | z
    · subst z
      simp
    · have hne : r.1 ≠ q.1 := fun w => hn.1 (by rw [w]; exact List.mem_map.mpr ⟨q, z, rfl⟩)
      have hb : (r.1 == q.1) = false := by simpa using hne
      rw [hb]
      have := getK_at (f := f) (g := g) hn.2 z
      unfold getK at this
      exact this
abbrev MetEq (F : Fun) (i : Nat) : Prop := ∀ {p : Pat} {c : List Int} {h : Hs}, PatOk c.length p → wfH h = true → F i [.d (patD p), .d (intsD c)] h = .ok (.d (.bl (met p c))) h
theorem law_is_met_eq {i : Nat} (hF : F i = run F 3 Lb.law_is_met) : MetEq F i := by
  intro p c h o wf
  rw [hF]
  refine eq_run wf ?_
  obtain ⟨bs, e, hal, _⟩ := ev_mapB (F := F) (x := (.prim .in_ [(.prim .item [(.var 1), (.var 2)]), (.prim .item [(.var 0), (.var 2)])])) (t := .nm 2) (k := .seq) (its := [(.var 0)]) (cs := []) (e := [some (.d (patD p)), some (.d (intsD c)), none]) (h := h) (xs := p) (r := fun q => [.d (.int q.1)]) (fun q => q.2.contains (c.getD q.1.toNat 0)) (by simp [rowsOf, patD]) (limE (by have := o.l; omega)) fun q hq => by
    have hr := o.r q hq
    have ha : atI c q.1 = some (c.getD q.1.toNat 0) := by
      rw [atI_nat hr.1 hr.2, List.getD_eq_getElem?_getD, List.getElem?_eq_getElem (by omega)]
      rfl
    have e2 := in_intsU' (i := c.getD q.1.toNat 0) (is := q.2) (h := h)
    have e3 := getK_at (f := fun _ => D.non) (g := intsD) o.d hq
    generalize c.getD q.1.toNat 0 = u at ha e2 ⊢
    generalize intsD q.2 = ws at e2 e3
    have hpD : patD p = .dic (p.map fun q => (D.int q.1, intsD q.2)) := rfl
    have hcD : intsD c = .tup (c.map .int) := rfl
    rw [hpD, hcD]
    generalize p.map (fun q => (D.int q.1, intsD q.2)) = kvs at e3 ⊢
    simp -implicitDefEqProofs [ha, e2, e3, keyS]
  simp -implicitDefEqProofs [Lb.law_is_met, e, met, -p_allM, p_allB, hal]
/-! ### some of a pool -/
abbrev SomeOk (F : Fun) (i : Nat) : Prop := ∀ {pool : List D} {most : Int} {h : Hs} {p : Nat} {c : Cell} {b : Int} {Q : Vl → Hs → Prop} {E : D → Hs → Prop}, pool.length ≤ 1000 → 0 ≤ most → most ≤ 1000000 → h[p]? = some c → PenC b c → b < 800000000 → wfH h = true → (∀ (xs rest : List D) c', (xs ++ rest).Perm pool → (xs.length : Int) ≤ most → PenC (b + 1 + pool.length) c' → Q (.d (.lst xs)) (h.set p c')) → Wp (F i [.r p, .d (.lst pool), .d (.int most)] h) Q E
theorem erase_map {α β : Type} {f : α → β} : ∀ (l : List α) (k : Nat), (l.map f).eraseIdx k = (l.eraseIdx k).map f
  | [], _ => by simp
  | a :: r, 0 => by simp
  | a :: r, k + 1 => by
    rw [List.map_cons, List.eraseIdx_cons_succ, List.eraseIdx_cons_succ, List.map_cons, erase_map r k]
theorem erase_perm : ∀ {l : List D} {k : Nat} {v : D}, l[k]? = some v → (v :: l.eraseIdx k).Perm l
  | [], k, v, e => by simp at e
  | a :: r, 0, v, e => by
    simp at e
    subst e
    simp
  | a :: r, k + 1, v, e => by
    have := erase_perm (l := r) (k := k) (v := v) (by simpa using e)
    rw [List.eraseIdx_cons_succ]
    exact (List.Perm.swap a v _).trans (this.cons a)
theorem perm_pop {xs rest pool : List D} {k : Nat} {v : D} (hp : (xs ++ rest).Perm pool) (e : rest[k]? = some v) : (xs ++ [v] ++ rest.eraseIdx k).Perm pool := by
  obtain ⟨hk, hv⟩ := List.getElem?_eq_some_iff.mp e
  refine List.Perm.trans ?_ hp
  rw [List.append_assoc]
  refine List.Perm.append_left xs ?_
  show (v :: rest.eraseIdx k).Perm rest
  exact erase_perm e
theorem law_some_ok {i iD : Nat} (hd : DrawOk F iD) (hF : F i = run F 5 (Lb.law_some iD)) : SomeOk F i := by
  intro pool most h p c b Q E hl m0 m1 hc pc hb wf k
  have hp : p < h.length := (List.getElem?_eq_some_iff.mp hc).1
  have hl1 : pool.length ≤ LIM := limE hl
  rw [hF, wp_run]
  simp -implicitDefEqProofs [Lb.law_some, hl1, x_comp]
  have wfs : ∀ {c : Cell} {b : Int} {R : List D}, PenC b c → wfH (h.set p c ++ [.lst (R.map .d)]) = true := fun pc => wf_apps (wf_set wf (pc.low _)) (by simp [flatC])
  have hcs : ∀ (c : Cell) (R : Hs), (h.set p c ++ R)[p]? = some c := fun c R => by
    rw [List.getElem?_append_left (by simpa using hp)]
    exact List.getElem?_set_self hp
  have es : ∀ (c c' : Cell) (R : Hs), (h.set p c ++ R).set p c' = h.set p c' ++ R := fun c c' R => by rw [List.set_append_left _ _ (by simpa using hp), List.set_set]
  have hcell : ∀ (c : Cell) (x : Cell), (h.set p c ++ [x])[h.length]? = some x := fun c x => by
    rw [List.getElem?_append_right (by simp), List.length_set, Nat.sub_self]
    rfl
  have es2 : ∀ (c x y : Cell), (h.set p c ++ [x]).set h.length y = h.set p c ++ [y] := fun c x y => by
    rw [List.set_append_right _ _ (by simp), List.length_set, Nat.sub_self]
    rfl
  have e0 : h ++ [.lst (pool.map .d)] = h.set p c ++ [.lst (pool.map .d)] := by
    obtain ⟨h1, h2⟩ := List.getElem?_eq_some_iff.mp hc
    rw [← h2, List.set_getElem_self]
  rw [e0]
  refine hd (u := (if (pool.length : Int) < most then (pool.length : Int) else most) + 1) (hcs _ _) pc (by omega) (wfs pc) (by split <;> omega) (by split <;> omega) fun n c1 n0 n1 p1 => ?_
  rw [es]
  have hn : n ≤ pool.length ∧ n ≤ most := by split at n1 <;> omega
  have er := rowsOf_rng1 (j := n) (bigR_nat (by omega) (by omega))
  simp -implicitDefEqProofs [er, wp_noEx]
  refine comp_wp (fun pre acc h' => ∃ (xs rest : List D) (c' : Cell), acc = xs.map .d ∧ xs.length = pre.length ∧ (xs ++ rest).Perm pool ∧ PenC (b + 1 + pre.length) c' ∧ h' = h.set p c' ++ [.lst (rest.map .d)]) (List.range n.toNat) ⟨[], pool, c1, rfl, rfl, List.Perm.refl _, by simpa using p1, rfl⟩ ?_ ?_
  · rintro pre x post acc h' hk ⟨xs, rest, c', rfl, e2, e3, e4, rfl⟩
    obtain ⟨hpl, hx⟩ := range_pre hk
    have hlen := e3.length_eq
    rw [List.length_append] at hlen
    have hr0 : 0 < rest.length := by omega
    have hrl : rest.length ≤ LIM := limE (by omega)
    simp -implicitDefEqProofs [hcell]
    refine hd (hcs _ _) e4 (by omega) (wfs e4) (by omega) (by omega) fun d c2 d0 d1 p2 => ?_
    obtain ⟨m, rfl⟩ := Int.eq_ofNat_of_zero_le d0
    rw [es]
    have hm : m < rest.length := by omega
    have hat : rest[m]? = some rest[m] := List.getElem?_eq_getElem hm
    have hv : (rest.map Vl.d)[m]? = some (.d rest[m]) := by rw [List.getElem?_map, hat]; rfl
    have ep := popC_at (h := h.set p c2 ++ [.lst (rest.map .d)]) (n := h.length) hv (by rw [List.length_map]; exact hrl)
    have hpp := perm_pop e3 hat
    generalize rest[m] = v at ep hpp
    simp -implicitDefEqProofs [hcell, ep, es2]
    exact ⟨xs ++ [v], by simp, by simp [e2], rest.eraseIdx m, by simpa using hpp, c2, p2.le (by omega), rfl, erase_map _ _⟩
  · rintro vs h' ⟨xs, rest, c', rfl, e2, e3, e4, rfl⟩
    rw [List.length_range] at e2 e4
    have hlen := e3.length_eq
    rw [List.length_append] at hlen
    have hxl : xs.length ≤ LIM := limE (by omega)
    have := k xs rest c' e3 (by omega) (e4.le (by omega))
    simp -implicitDefEqProofs [hxl, wp_done_d, lo_set (lo_self wf) (e4.low _)]
    exact this
end
end L3
/-! L3 library: drawn patterns. -/
namespace L3
open PySem
theorem nodup_ofmap {α β : Type} {f : α → β} {l : List α} (h : (l.map f).Nodup) : l.Nodup := (List.pairwise_map.mp h).imp fun q z => q (by rw [z])
theorem nodup_tomap {α β : Type} {f : α → β} (hf : ∀ a b, f a = f b → a = b) {l : List α} (h : l.Nodup) : (l.map f).Nodup := List.pairwise_map.mpr (h.imp fun q z => q (hf _ _ z))
def unN : D → Nat
  | .int i => i.toNat
  | _ => 0
/-- some of the numbers below n -/
theorem some_range {n : Nat} {xs rest : List D} (h : (xs ++ rest).Perm ((List.range n).map fun k : Nat => D.int (k : Int))) : ∃ ks : List Nat, xs = ks.map (fun k : Nat => D.int (k : Int)) ∧ ks.Nodup ∧ ∀ k ∈ ks, k < n := by
  have hx : ∀ x ∈ xs, ∃ k < n, x = .int (k : Nat) := fun x hx => by
    have := h.mem_iff.mp (List.mem_append.mpr (.inl hx))
    obtain ⟨k, hk, rfl⟩ := List.mem_map.mp this
    exact ⟨k, List.mem_range.mp hk, rfl⟩
  have e : xs = (xs.map unN).map (fun k : Nat => D.int (k : Int)) := by
    rw [List.map_map]
    conv => lhs; rw [← List.map_id xs]
    refine List.map_congr_left fun x hq => ?_
    obtain ⟨k, _, rfl⟩ := hx x hq
    simp [unN]
  refine ⟨xs.map unN, e, ?_, fun k hk => ?_⟩
  · have hn : (xs ++ rest).Nodup := h.nodup_iff.mpr (nodup_tomap (fun a b q => by cases q; rfl) List.nodup_range)
    have h1 := (List.nodup_append.mp hn).1
    rw [e] at h1
    exact nodup_ofmap h1
  · obtain ⟨x, hq, rfl⟩ := List.mem_map.mp hk
    obtain ⟨k, hk, rfl⟩ := hx x hq
    show (k : Int).toNat < n
    omega
theorem k_listRange {n : Nat} {h : Hs} : mk false .listRange [.d (.int (n : Int))] h = if n ≤ LIM then .ok (.d (.lst ((List.range n).map fun k : Nat => D.int (k : Int)))) h else .bad := by
  have e : ((rngI 0 (n : Int)).map fun i => Vl.d (.int i)) = ((List.range n).map fun k : Nat => D.int (k : Int)).map .d := by
    simp [rngI, Function.comp_def]
  simp only [mk]
  rw [if_pos (by omega), e, mkLF, List.length_map, List.length_range]
/-- a dict of True -/
def truD (ks : List Int) : List (D × D) := ks.map fun k => (.int k, .bl true)
def addK (ks : List Int) (d : Int) : List Int := if d ∈ ks then ks else ks ++ [d]
theorem putK_tru (ks : List Int) (d : Int) : putK (truD ks) (.int d) (.bl true) = truD (addK ks d) := by
  unfold addK
  by_cases h : d ∈ ks
  · rw [if_pos h]
    unfold putK
    rw [if_pos]
    · unfold truD
      rw [List.map_map]
      refine List.map_congr_left fun k _ => ?_
      simp only [Function.comp]
      split <;> rfl
    · rw [List.any_eq_true]
      exact ⟨(.int d, .bl true), List.mem_map.mpr ⟨d, h, rfl⟩, by simp [eqvD]⟩
  · rw [if_neg h, putK_new]
    · simp [truD]
    · intro p hp
      obtain ⟨k, hk, rfl⟩ := List.mem_map.mp hp
      exact ⟨k, rfl, fun z => h (z ▸ hk)⟩
theorem addK_nodup {ks : List Int} {d : Int} (h : ks.Nodup) : (addK ks d).Nodup := by
  unfold addK
  split
  · exact h
  · rename_i hd
    refine List.nodup_append.mpr ⟨h, by simp, fun a ha b hb => ?_⟩
    rw [List.mem_singleton.mp hb]
    intro z
    exact hd (z ▸ ha)
theorem addK_worth {ks : List Int} {d : Int} (h : ∀ w ∈ ks, worth w) (hd : worth d) : ∀ w ∈ addK ks d, worth w := by
  unfold addK
  split
  · exact h
  · intro w hw
    rcases List.mem_append.mp hw with q | q
    · exact h w q
    · rw [List.mem_singleton.mp q]; exact hd
theorem addK_len {ks : List Int} {d : Int} : ks.length ≤ (addK ks d).length ∧ (addK ks d).length ≤ ks.length + 1 := by
  unfold addK
  split
  · omega
  · rw [List.length_append, List.length_singleton]; omega
theorem k_sortedD {n : Nat} {h : Hs} {ks : List Int} (e : h[n]? = some (.dic (truD ks))) (hl : ks.length < 64) : mk false .sorted [.r n] h = .ok (.d (.lst ((sortI ks).map .int))) h := by
  have e1 : lview (.r n) h = none := by simp [lvC, e]
  have e2 : kview (.r n) h = some (truD ks) := by simp only [kview, e]
  have e3 : allI ((truD ks).map fun p => .d p.1) = some ks := by
    have := allI_ints ks
    simpa [truD, Function.comp_def] using this
  have e4 : ((sortI ks).map fun i => Vl.d (.int i)) = ((sortI ks).map D.int).map .d := by simp
  simp only [mk, e1, Option.bind_none, e2, Option.bind_some, e3, if_pos hl]
  rw [e4, mkLF, List.length_map, sortI_len, if_pos (limE (by omega))]
theorem choice_sortI {ks : List Int} (h : ks.Nodup) : choiceI (sortI ks) = true := by
  unfold choiceI
  rw [sortU_id (sortI_asc h)]
  simp
def patK (p : Pat) : List (D × D) := p.map fun q => (.int q.1, intsD q.2)
/-- a pattern in the making -/
structure PatP (n : Nat) (p : Pat) (ks : List Nat) : Prop where
  k : p.map (·.1) = ks.map fun k : Nat => (k : Int)
  w0 : ∀ q ∈ p, q.2 ≠ []
  ww : ∀ q ∈ p, ∀ w ∈ q.2, worth w
  wc : ∀ q ∈ p, choiceI q.2 = true
  wl : ∀ q ∈ p, q.2.length ≤ 8
theorem PatP.len {n : Nat} {p : Pat} {ks : List Nat} (o : PatP n p ks) : p.length = ks.length := by
  have := congrArg List.length o.k
  rw [List.length_map, List.length_map] at this
  exact this
theorem PatP.snoc {n : Nat} {p : Pat} {ks : List Nat} (o : PatP n p ks) {k : Nat} {ws : List Int} (h0 : ws.length ≠ 0) (hl : ws.length ≤ 8) (hw : ∀ w ∈ ws, worth w) (hn : ws.Nodup) : PatP n (p ++ [((k : Int), sortI ws)]) (ks ++ [k]) := by
  have key : ∀ {P : Int × List Int → Prop}, (∀ q ∈ p, P q) → P ((k : Int), sortI ws) → ∀ q ∈ p ++ [((k : Int), sortI ws)], P q := fun h1 h2 q hq => by
    rcases List.mem_append.mp hq with z | z
    · exact h1 q z
    · rw [List.mem_singleton.mp z]; exact h2
  refine ⟨by rw [List.map_append, List.map_append, o.k]; rfl, key o.w0 fun z => h0 ?_, key o.ww fun w hq => hw w (sortI_mem.mp hq), key o.wc (choice_sortI hn), key o.wl ?_⟩
  · have := congrArg List.length z
    rw [sortI_len] at this
    exact this
  · rw [sortI_len]; exact hl
theorem PatP.ok {n : Nat} {p : Pat} {ks : List Nat} (o : PatP n p ks) (hn : ks.Nodup) (hk : ∀ k ∈ ks, k < n) (hl : ks.length ≤ 24) : PatOk n p := by
  refine ⟨fun q hq => ?_, o.w0, o.ww, o.wc, o.wl, by rw [o.len]; exact hl, ?_⟩
  · have : q.1 ∈ ks.map fun k : Nat => (k : Int) := by rw [← o.k]; exact List.mem_map.mpr ⟨q, hq, rfl⟩
    obtain ⟨k, h1, h2⟩ := List.mem_map.mp this
    have := hk k h1
    omega
  · rw [o.k]
    exact nodup_tomap (fun a b q => by omega) hn
section
variable {F : Fun}
abbrev PatternOk (F : Fun) (i : Nat) : Prop := ∀ {t : PlanT}, t.ok → total t.steps ≤ 500 → ∀ {h : Hs} {p : Nat} {c : Cell} {b : Int} {Q : Vl → Hs → Prop} {E : D → Hs → Prop}, h[p]? = some c → PenC b c → b < 700000000 → wfH h = true → (∀ pat c', PatOk t.cells.length pat → PenC (b + 150) c' → Q (.d (patD pat)) (h.set p c')) → Wp (F i [.r p, .d t.toD] h) Q E
theorem law_pattern_ok {i iL iF iS iD : Nat} (hL : LeftEq F iL) (hFa : FallOk F iF) (hS : SomeOk F iS) (hd : DrawOk F iD) (hF : F i = run F 7 (Lb.law_pattern iL iF iS iD)) : PatternOk F i := by
  intro t ok ht h p c b Q E hc pc hb wf k
  have hp : p < h.length := (List.getElem?_eq_some_iff.mp hc).1
  have c24 := ok.c1
  rw [hF, wp_run]
  simp -implicitDefEqProofs [Lb.law_pattern]
  refine hFa ok ht hc pc (by omega) wf fun is c1 fr p1 => ?_
  have wf1 : wfH (h.set p c1) = true := wf_set wf (p1.low _)
  have e1 := hL ok ht fr.rp wf1
  have hll := left_len t is
  have hlw : ∀ w ∈ t.left is, worth w := overs_worth ok fr.rp ok.cw
  generalize t.left is = cont at e1 hll hlw
  simp -implicitDefEqProofs [e1, zipK, mkK, y_for, intsD]
  have wfs : ∀ {c : Cell} {b : Int} {R : Hs}, PenC b c → (∀ a ∈ R, flatC a = true) → wfH (h.set p c ++ R) = true := fun pc f => wf_apps (wf_set wf (pc.low _)) f
  have hcs : ∀ (c : Cell) (R : Hs), (h.set p c ++ R)[p]? = some c := fun c R => by
    rw [List.getElem?_append_left (by simpa using hp)]
    exact List.getElem?_set_self hp
  have es : ∀ (c c' : Cell) (R : Hs), (h.set p c ++ R).set p c' = h.set p c' ++ R := fun c c' R => by rw [List.set_append_left _ _ (by simpa using hp), List.set_set]
  have lr : cont.length ≤ LIM := limE (by omega)
  simp -implicitDefEqProofs [k_listRange, lr]
  refine hS (pool := (List.range cont.length).map fun k : Nat => D.int (k : Int)) (most := 4) (by rw [List.length_map, List.length_range]; omega) (by omega) (by omega) (hcs _ _) p1 (by omega) (wfs p1 (by simp [flatC])) fun xs rest c2 hperm hx4 p2 => ?_
  rw [List.length_map, List.length_range] at p2
  obtain ⟨ks, rfl, hkn, hkl⟩ := some_range hperm
  rw [List.length_map] at hx4
  rw [es]
  have hr : rowsOf .seq [.d (.lst (ks.map fun k : Nat => D.int (k : Int)))] = some (ks.map fun k => [.d (.int (k : Int))]) := by simp [rowsOf]
  simp -implicitDefEqProofs [hr]
  have cellB : ∀ (c x y : Cell) (B : Hs), (h.set p c ++ (x :: (B ++ [y])))[h.length + (B.length + 1)]? = some y := fun c x y B => by simp
  have setB : ∀ (c x y z : Cell) (B : Hs), (h.set p c ++ (x :: (B ++ [y]))).set (h.length + (B.length + 1)) z = h.set p c ++ (x :: (B ++ [z])) := fun c x y z B => by simp
  have cell0 : ∀ (c x : Cell) (B : Hs), (h.set p c ++ (x :: B))[h.length]? = some x := fun c x B => by simp
  have set0 : ∀ (c x z : Cell) (B : Hs), (h.set p c ++ (x :: B)).set h.length z = h.set p c ++ (z :: B) := fun c x z B => by simp
  refine for_inv (fun pre e h' => ∃ (pat : Pat) (A : Hs) (c' : Cell) (u v w : Option Vl), PatP cont.length pat pre ∧ (∀ a ∈ A, flatC a = true) ∧ PenC (b + 80 + 6 * pre.length) c' ∧ e = [some (.r p), some (.d t.toD), some (.d (.tup (cont.map .int))), some (.r h.length), u, v, w] ∧ h' = h.set p c' ++ (.dic (patK pat) :: A)) ks ⟨[], [], c2, _, _, _, ⟨rfl, by simp, by simp, by simp, by simp⟩, by simp, p2.le (by simp; omega), rfl, rfl⟩ ?_ ?_
  · rintro pre x post e h' hk ⟨pat, A, c3, u, v, w, pp, hA, p3, rfl, rfl⟩
    have hxm : x ∈ ks := hk ▸ (by simp)
    have hxl := hkl x hxm
    have hxn : x ∉ pre := fun z => by
      rw [hk] at hkn
      exact (List.nodup_append.mp hkn).2.2 x z x (by simp) rfl
    have hpl : pre.length < 4 := by
      have := congrArg List.length hk
      rw [List.length_append, List.length_cons] at this
      omega
    obtain ⟨w0, hat⟩ : ∃ w0, cont[x]? = some w0 := ⟨_, List.getElem?_eq_getElem hxl⟩
    have hw0 := hlw w0 (List.mem_of_getElem? hat)
    have hat2 := atI_k hat
    simp -implicitDefEqProofs [hat2, zipK, keyS, putK, mkK]
    have fl1 : ∀ a ∈ (.dic (patK pat) : Cell) :: (A ++ [.dic (truD [w0])]), flatC a = true := fun a ha => by
      rcases List.mem_cons.mp ha with z | z
      · rw [z]; rfl
      · rcases List.mem_append.mp z with z | z
        · exact hA a z
        · rw [List.mem_singleton.mp z]; rfl
    refine hd (hcs _ _) p3 (by omega) (wfs p3 fl1) (by omega) (by omega) fun d c4 d0 d1 p4 => ?_
    rw [es]
    simp -implicitDefEqProofs
    refine Wp.mono (Q := fun fl h' => ∃ (B : Hs) (w1 : Int) (c5 : Cell), worth w1 ∧ (∀ a ∈ B, flatC a = true) ∧ PenC (b + 80 + 6 * pre.length + 2) c5 ∧ fl = .nx [some (.r p), some (.d t.toD), some (.d (.tup (cont.map .int))), some (.r h.length), some (.d (.int (x : Int))), some (.r (h.length + (B.length + 1))), w] ∧ h' = h.set p c5 ++ (.dic (patK pat) :: (B ++ [.dic (truD [w1])]))) ?_ ?_
    · by_cases q : d = 0
      · simp -implicitDefEqProofs [q, wp_noEx]
        refine hd (hcs _ _) p4 (by omega) (wfs p4 fl1) (by omega) (by omega) fun d2 c5 e0 e1 p5 => ?_
        rw [es]
        simp -implicitDefEqProofs [zipK, keyS, putK, mkK]
        refine ⟨A ++ [.dic (truD [w0])], d2, ⟨e0, e1⟩, fun a ha => ?_, c5, p5.le (by omega), ?_, ?_⟩
        · rcases List.mem_append.mp ha with z | z
          · exact hA a z
          · rw [List.mem_singleton.mp z]; rfl
        · simp [Nat.add_assoc]
        · simp [truD]
      · simp -implicitDefEqProofs [q]
        exact ⟨A, w0, hw0, hA, c4, p4.le (by omega), by simp [Nat.add_assoc], rfl⟩
    · rintro fl h' ⟨B, w1, c5, hw1, hB, p5, rfl, rfl⟩
      have fl2 : ∀ zs : List Int, ∀ a ∈ (.dic (patK pat) : Cell) :: (B ++ [.dic (truD zs)]), flatC a = true := fun zs a ha => by
        rcases List.mem_cons.mp ha with z | z
        · rw [z]; rfl
        · rcases List.mem_append.mp z with z | z
          · exact hB a z
          · rw [List.mem_singleton.mp z]; rfl
      simp -implicitDefEqProofs [y_for]
      refine hd (hcs _ _) p5 (by omega) (wfs p5 (fl2 _)) (by omega) (by omega) fun n c6 n0 n1 p6 => ?_
      rw [es]
      have er := rowsOf_rng1 (j := n) (bigR_nat (by omega) (by omega))
      simp -implicitDefEqProofs [er]
      refine for_inv (fun pre2 e h' => ∃ (zs : List Int) (c' : Cell) (w : Option Vl), zs.Nodup ∧ (∀ w ∈ zs, worth w) ∧ zs.length ≠ 0 ∧ zs.length ≤ 1 + pre2.length ∧ PenC (b + 80 + 6 * pre.length + 3 + pre2.length) c' ∧ e = [some (.r p), some (.d t.toD), some (.d (.tup (cont.map .int))), some (.r h.length), some (.d (.int (x : Int))), some (.r (h.length + (B.length + 1))), w] ∧ h' = h.set p c' ++ (.dic (patK pat) :: (B ++ [.dic (truD zs)]))) (List.range n.toNat) ⟨[w1], c6, w, by simp, fun y hy => by rw [List.mem_singleton.mp hy]; exact hw1, by simp, by simp, p6.le (by simp; omega), rfl, rfl⟩ ?_ ?_
      · rintro pre2 j post2 e h' hk2 ⟨zs, c7, w, z1, z2, z3, z4, p7, rfl, rfl⟩
        obtain ⟨hj1, hj2⟩ := range_pre hk2
        simp -implicitDefEqProofs
        refine hd (hcs _ _) p7 (by omega) (wfs p7 (fl2 _)) (by omega) (by omega) fun d3 c8 e0 e1 p8 => ?_
        rw [es]
        have eput := setV_dic (h := h.set p c8 ++ (.dic (patK pat) :: (B ++ [.dic (truD zs)]))) (n := h.length + (B.length + 1)) (kvs := truD zs) (k := .int d3) (x := .bl true) (cellB _ _ _ _) rfl (limL (by simp [truD]; omega))
        rw [setB, putK_tru] at eput
        simp -implicitDefEqProofs [eput]
        have := @addK_len zs d3
        exact ⟨addK zs d3, addK_nodup z1, addK_worth z2 ⟨e0, e1⟩, fun z => by rw [z] at this; simp at this; exact z3 (by simp [this]), by omega, c8, p8.le (by omega), rfl⟩
      · rintro e h' ⟨zs, c7, w, z1, z2, z3, z4, p7, rfl, rfl⟩
        rw [List.length_range] at z4 p7
        have esort := k_sortedD (h := h.set p c7 ++ (.dic (patK pat) :: (B ++ [.dic (truD zs)]))) (n := h.length + (B.length + 1)) (ks := zs) (cellB _ _ _ _) (by omega)
        have eput := setV_dic (h := h.set p c7 ++ (.dic (patK pat) :: (B ++ [.dic (truD zs)]))) (n := h.length) (kvs := patK pat) (k := .int (x : Int)) (x := intsD (sortI zs)) (cell0 _ _ _) rfl (limL (by simp [patK, pp.len]; omega))
        have eput2 : putK (patK pat) (.int (x : Int)) (intsD (sortI zs)) = patK (pat ++ [((x : Int), sortI zs)]) := by
          rw [putK_new]
          · simp [patK]
          · intro r hr
            obtain ⟨q, hq, rfl⟩ := List.mem_map.mp hr
            refine ⟨q.1, rfl, fun z => hxn ?_⟩
            have : q.1 ∈ pre.map fun k : Nat => (k : Int) := by rw [← pp.k]; exact List.mem_map.mpr ⟨q, hq, rfl⟩
            obtain ⟨k, h1, h2⟩ := List.mem_map.mp this
            have : k = x := by omega
            rw [← this]; exact h1
        rw [set0, eput2] at eput
        unfold intsD at eput
        simp -implicitDefEqProofs [esort, eput]
        refine ⟨pat ++ [((x : Int), sortI zs)], pp.snoc z3 (by omega) z2 z1, B ++ [.dic (truD zs)], fun a ha => ?_, c7, p7.le (by omega), rfl⟩
        rcases List.mem_append.mp ha with z | z
        · exact hB a z
        · rw [List.mem_singleton.mp z]; rfl
  · rintro e h' ⟨pat, A, c3, u, v, w, pp, hA, p3, rfl, rfl⟩
    have hpo := pp.ok hkn hkl (by omega)
    rw [hll] at hpo
    have := k pat c3 hpo (p3.le (by omega))
    have e5 : patD pat = .dic (patK pat) := rfl
    rw [e5] at this
    simp -implicitDefEqProofs [wp_done_d, lo_set (lo_self wf) (p3.low _)]
    exact this
end
end L3
/-! law k12 -/
namespace L3
open PySem
namespace Lb
def k12great (iD : Nat) : List Sm := [
  .asg (.nm 2) (.mk true .lst []),
  .for_ (.nm 3) .rng [(.cst (.int 20))] [.app (.var 2) (.prim .tup [(.prim .mod [(.prim .int [(.prim .mul [(.var 3), (.cst (.int 7))])]), (.cst (.int 23))]), (.prim .tup [(.call iD [(.var 0), (.cst (.int 8))]), (.call iD [(.var 0), (.cst (.int 8))])])]), .asg (.nm 2) (.mk true .cat [(.var 2), (.mk false .mulL [(.mk false .lst [(.cst .non)]), (.prim .int [(.and (.prim .eq [(.var 1), (.cst (.int 1))]) (.prim .lt [(.var 3), (.cst (.int 19))]))])])])],
  .ret (.prim .tup [(.prim .mul [(.prim .tup [(.cst (.int 0))]), (.cst (.int 24))]), (.cst (.int 1)), (.frz (.var 2))])]
def k12right (iL iR ia ie jf im : Nat) : List Sm := [
  .asg (.tup [4, 5]) (.prim .tup [(.call iL [(.var 1), (.var 2)]), (.call iR [(.var 1)])]),
  .for_ (.nm 6) .rng [(.cst (.int 2))] [.ite (.prim .ne [(.prim .repr [(.call ia [(.var 0), (.var 2)])]), (.prim .repr [(.var 4)])]) [.ret (.cst (.bl false))] [], .ite (.prim .ne [(.prim .repr [(.call ie [(.var 0), (.var 2)])]), (.prim .repr [(.prim .maxL [(.mk false .cat [(.mk false .lst [(.cst (.int 0))]), (.comp false (.prim .item [(.var 5), (.var 7)]) (.nm 7) .seq [(.var 2)] [])])])])]) [.ret (.cst (.bl false))] [], .ite (.prim .ne [(.prim .repr [(.call jf [(.var 0), (.var 2), (.var 3)])]), (.prim .repr [(.call im [(.var 3), (.var 4)])])]) [.ret (.cst (.bl false))] []],
  .ret (.cst (.bl true))]
def k12again (iFa iPa iR iN iRi : Nat) : List Sm := [
  .par [7, 8] [(.call iFa [(.var 1), (.var 3)]), (.call iPa [(.var 1), (.var 3)])], .while_ (.and (.prim .eq [(.var 5), (.cst (.int 0))]) (.prim .lt [(.prim .len [(.var 7)]), (.prim .len [(.call iR [(.var 3)])])])) [.asg (.nm 7) (.mk false .cat [(.var 7), (.mk false .slL [(.call iN [(.call iR [(.var 3)]), (.var 7)]), (.prim .neg [(.cst (.int 1))])])])], .asg (.nm 9) (.prim .repr [(.mk false .lst [(.var 7), (.var 8)])]), .ite (.or (.not (.call iRi [(.var 4), (.var 3), (.var 7), (.var 8)])) (.prim .ne [(.prim .repr [(.mk false .lst [(.var 7), (.var 8)])]), (.var 9)])) [.ret (.cst (.bl false))] []]
def k12turn (iOf iEq iFa iPa iR iN iRi : Nat) : List Sm := [
  .asg (.nm 4) (.call iOf [(.var 3)]), .for_ (.nm 5) .rng [(.cst (.int 4))] (k12again iFa iPa iR iN iRi), .ite (.eqO 0 iEq true (.var 4) (.call iOf [(.var 3)])) [.ret (.cst (.bl false))] []]
def k12law (iPen iPlan iD iG iOf iEq iFa iPa iR iN iRi iC iE iI : Nat) : List Sm := [
  .asg (.nm 1) (.call iPen [(.var 0)]),
  .for_ (.nm 2) .rng [(.cst (.int 20))] (.asg (.nm 3) (.call iPlan [(.var 1), (.cst (.int 8))]) :: .ite (.prim .eq [(.var 2), (.cst (.int 0))]) [.asg (.nm 6) (.prim .tuple [(.comp false (.call iD [(.var 1), (.cst (.int 8))]) (.nm 10) .rng [(.cst (.int 24))] [])]), .asg (.nm 3) (.prim .tup [(.var 6), (.cst (.int 24)), (.mk false .lst [(.prim .tup [(.cst (.int 0)), (.prim .revT [(.var 6)])]), (.cst .non), (.prim .tup [(.cst (.int 23)), (.prim .tup [(.cst (.int 7))])]), (.prim .tup [(.cst (.int 12)), (.prim .mul [(.prim .tup [(.cst (.int 0))]), (.cst (.int 12))])])])])] [.ite (.prim .lt [(.var 2), (.cst (.int 3))]) [.asg (.nm 3) (.call iG [(.var 1), (.var 2)])] []] :: k12turn iOf iEq iFa iPa iR iN iRi),
  .ret (.and (.prim .eq [(.call iC [(.new false 0 iI [(.prim .tup [(.cst (.int 3))]), (.cst (.int 1)), (.mk false .lst [])]), (.mk false .lst [])]), (.prim .tup [(.cst (.int 3))])]) (.prim .eq [(.call iE [(.new false 0 iI [(.prim .tup [(.cst (.int 3))]), (.cst (.int 1)), (.mk false .lst [(.cst .non)])]), (.mk false .lst [])]), (.cst (.int 0))]))]
end Lb
def Good (t : PlanT) : Prop := t.ok ∧ total t.steps ≤ 500
theorem th_ints {c : List Int} (h : ∀ w ∈ c, worth w) (hl : c.length ≤ 24) : Th (intsD c) := by
  refine th_tup (fun x hx => ?_) (by rw [List.length_map]; omega)
  obtain ⟨w, hw, rfl⟩ := List.mem_map.mp hx
  have := h w hw
  exact at_int (by have := this.1; omega) (by have := this.2; omega)
theorem th_int {i : Int} (h0 : -1 ≤ i) (h1 : i ≤ 1000) : Th (.int i) := th_at (at_int h0 h1) (fun _ z => by cases z)
theorem th_bl {b : Bool} : Th (.bl b) := th_at at_bl (fun _ z => by cases z)
/-! ### the text of a pattern -/
theorem sz_ints : ∀ {is : List Int}, (∀ i ∈ is, -1000 ≤ i ∧ i ≤ 1000) → reprSzs (is.map .int) = some (15 * is.length) ∧ depthDs (is.map .int) = 0
  | [], _ => ⟨by rw [List.map_nil, reprSzs]; rfl, by rw [List.map_nil, depthDs]⟩
  | i :: r, h => by
    obtain ⟨e1, e2⟩ := sz_ints (is := r) fun j hj => h j (List.mem_cons_of_mem _ hj)
    have hi := h i List.mem_cons_self
    constructor
    · rw [List.map_cons, reprSzs, e1, reprSz, if_pos (by omega)]
      show some (13 + 15 * r.length + 2) = _
      rw [List.length_cons]
      congr 1
      omega
    · rw [List.map_cons, depthDs, e2, depthD]
      rfl
theorem sz_patK : ∀ {p : Pat}, (∀ q ∈ p, (-1000 ≤ q.1 ∧ q.1 ≤ 1000) ∧ (∀ w ∈ q.2, worth w) ∧ q.2.length ≤ 8) → ∃ n, reprSzk (patK p) = some n ∧ n ≤ 200 * p.length ∧ depthDk (patK p) ≤ 1
  | [], _ => ⟨0, by rw [patK, List.map_nil, reprSzk], by simp, by rw [patK, List.map_nil, depthDk]; omega⟩
  | q :: r, h => by
    obtain ⟨n, e1, e2, e3⟩ := sz_patK (p := r) fun x hx => h x (List.mem_cons_of_mem _ hx)
    obtain ⟨h1, h2, h3⟩ := h q List.mem_cons_self
    obtain ⟨s1, s2⟩ := sz_ints (is := q.2) fun i hi => by have := h2 i hi; unfold worth at this; omega
    have e4 : patK (q :: r) = (.int q.1, intsD q.2) :: patK r := rfl
    refine ⟨13 + (15 * q.2.length + 3) + n + 4, ?_, ?_, ?_⟩
    · rw [e4, reprSzk, e1, reprSz, if_pos (by omega), intsD, reprSz, s1]
      rfl
    · rw [List.length_cons]; omega
    · rw [e4, depthDk, depthD, intsD, depthD, s2]
      omega
theorem th_pair {is : List Int} {p : Pat} {n m : Nat} (hi : ∀ i ∈ is, 0 ≤ i ∧ i < n) (hn : n ≤ 100) (hl : is.length ≤ 100) (hp : PatOk m p) (hm : m ≤ 24) : Th (.lst [.lst (is.map .int), patD p]) := by
  obtain ⟨k, e1, e2, e3⟩ := sz_patK (p := p) fun q hq => ⟨by have := hp.r q hq; omega, hp.ww q hq, hp.wl q hq⟩
  obtain ⟨s1, s2⟩ := sz_ints (is := is) fun i hi' => by have := hi i hi'; omega
  have hpl := hp.l
  have ep : patD p = .dic (patK p) := rfl
  refine ⟨rfl, ⟨(15 * is.length + 3) + ((k + 3) + 0 + 2) + 2 + 3, ?_, ?_⟩, ?_⟩
  · rw [ep, reprSz, reprSzs, reprSzs, reprSzs, reprSz, reprSz, s1, e1]
    rfl
  · unfold LIM; omega
  · rw [ep, depthD, depthDs, depthDs, depthDs, depthD, depthD, s2]
    omega
section
variable {F : Fun}
/-! ### the great plans -/
abbrev GreatOk (F : Fun) (i : Nat) : Prop := ∀ {j : Int} {h : Hs} {p : Nat} {c : Cell} {b : Int} {Q : Vl → Hs → Prop} {E : D → Hs → Prop}, h[p]? = some c → PenC b c → b < 700000000 → wfH h = true → (∀ t c', Good t → PenC (b + 50) c' → Q (.d t.toD) (h.set p c')) → Wp (F i [.r p, .d (.int j)] h) Q E
theorem great_ok {i iD : Nat} (hd : DrawOk F iD) (hF : F i = run F 4 (Lb.k12great iD)) : GreatOk F i := by
  intro j h p c b Q E hc pc hb wf k
  have hp : p < h.length := (List.getElem?_eq_some_iff.mp hc).1
  rw [hF, wp_run]
  have er := rowsOf_rng1 (j := 20) (by decide)
  simp -implicitDefEqProofs [Lb.k12great, y_for, er]
  have wfs : ∀ {c : Cell} {b : Int} {R : Hs}, PenC b c → (∀ a ∈ R, flatC a = true) → wfH (h.set p c ++ R) = true := fun pc f => wf_apps (wf_set wf (pc.low _)) f
  have hcs : ∀ (c : Cell) (R : Hs), (h.set p c ++ R)[p]? = some c := fun c R => by
    rw [List.getElem?_append_left (by simpa using hp)]
    exact List.getElem?_set_self hp
  have es : ∀ (c c' : Cell) (R : Hs), (h.set p c ++ R).set p c' = h.set p c' ++ R := fun c c' R => by rw [List.set_append_left _ _ (by simpa using hp), List.set_set]
  have e0 : h ++ [.lst []] = h.set p c ++ [.lst []] := by
    obtain ⟨h1, h2⟩ := List.getElem?_eq_some_iff.mp hc
    rw [← h2, List.set_getElem_self]
  rw [e0]
  have cellB : ∀ (c y : Cell) (B : Hs), (h.set p c ++ (B ++ [y]))[h.length + B.length]? = some y := fun c y B => by simp
  have setB : ∀ (c y z : Cell) (B : Hs), (h.set p c ++ (B ++ [y])).set (h.length + B.length) z = h.set p c ++ (B ++ [z]) := fun c y z B => by simp
  refine for_inv (fun pre e h' => ∃ (st : List Stp) (A : Hs) (c' : Cell) (w : Option Vl), (∀ s ∈ st, okStep 24 s) ∧ st.length ≤ 2 * pre.length ∧ total st = 2 * pre.length ∧ (∀ a ∈ A, flatC a = true) ∧ PenC (b + 2 * pre.length) c' ∧ e = [some (.r p), some (.d (.int j)), some (.r (h.length + A.length)), w] ∧ h' = h.set p c' ++ (A ++ [.lst ((st.map stepD).map .d)])) (List.range 20) ⟨[], [], c, _, by simp, by simp, by simp [total], by simp, by simpa using pc, rfl, rfl⟩ ?_ ?_
  · rintro pre x post e h' hk ⟨st, A, c2, w, s1, s2, s3, hA, p2, rfl, rfl⟩
    obtain ⟨hx1, hx2⟩ := range_pre hk
    have s7 : smallI 7 = true := by decide
    have fl : ∀ a ∈ A ++ [.lst ((st.map stepD).map .d)], flatC a = true := fun a ha => (List.mem_append.mp ha).elim (hA a) fun z => by rw [List.mem_singleton.mp z]; exact flat_ds
    simp -implicitDefEqProofs [cellB, s7]
    refine hd (hcs _ _) p2 (by omega) (wfs p2 (by simpa using fl)) (by omega) (by omega) fun d1 c3 d10 d11 p3 => ?_
    rw [es]
    refine hd (hcs _ _) p3 (by omega) (wfs p3 (by simpa using fl)) (by omega) (by omega) fun d2 c4 d20 d21 p4 => ?_
    rw [es]
    have l1 : st.length < LIM := limL (by omega)
    have l2 : st.length + 1 ≤ LIM := limE (by omega)
    have l3 : st.length + 1 + 1 ≤ LIM := limE (by omega)
    have hst : okStep 24 (some ((x : Int) * 7 % 23, [d1, d2])) := by
      refine ⟨by omega, by simp, ?_, fun w hw => ?_⟩
      · show (x : Int) * 7 % 23 + 2 ≤ 24
        omega
      · simp only [List.mem_cons, List.not_mem_nil, or_false] at hw
        rcases hw with rfl | rfl
        · exact ⟨d10, d11⟩
        · exact ⟨d20, d21⟩
    have ht2 := total_snoc st (some ((x : Int) * 7 % 23, [d1, d2]))
    have hw2 : wsLen (some ((x : Int) * 7 % 23, [d1, d2])) = 2 := rfl
    have hA2 : ∀ a ∈ A ++ [.lst ((st ++ [some ((x : Int) * 7 % 23, [d1, d2])]).map fun s => .d (stepD s))], flatC a = true := fun a ha => (List.mem_append.mp ha).elim (hA a) fun z => by rw [List.mem_singleton.mp z]; simp [flatC]
    have hs1 : ∀ s ∈ st ++ [some ((x : Int) * 7 % 23, [d1, d2])], okStep 24 s := fun s hs => (List.mem_append.mp hs).elim (s1 s) fun z => by rw [List.mem_singleton.mp z]; exact hst
    have hs2 : ∀ s ∈ st ++ [some ((x : Int) * 7 % 23, [d1, d2])] ++ [none], okStep 24 s := fun s hs => (List.mem_append.mp hs).elim (hs1 s) fun z => by rw [List.mem_singleton.mp z]; trivial
    have ht3 := total_snoc (st ++ [some ((x : Int) * 7 % 23, [d1, d2])]) none
    have hw3 : wsLen none = 0 := rfl
    by_cases q1 : j = 1
    · by_cases q2 : (x : Int) < 19
      · simp -implicitDefEqProofs [cellB, setB, l1, l2, l3, q1, q2, b2i]
        exact ⟨_, hs2, by simp; omega, by omega, _, hA2, c4, p4.le (by omega), by simp, by simp [stepD, intsD]⟩
      · simp -implicitDefEqProofs [cellB, setB, l1, l2, l3, q1, q2, b2i]
        exact ⟨_, hs1, by simp; omega, by omega, _, hA2, c4, p4.le (by omega), by simp, by simp [stepD, intsD]⟩
    · simp -implicitDefEqProofs [cellB, setB, l1, l2, l3, q1, b2i]
      exact ⟨_, hs1, by simp; omega, by omega, _, hA2, c4, p4.le (by omega), by simp, by simp [stepD, intsD]⟩
  · rintro e h' ⟨st, A, c2, w, s1, s2, s3, hA, p2, rfl, rfl⟩
    rw [List.length_range] at s2 s3 p2
    have hg : Good ⟨List.replicate 24 0, 1, st⟩ := by
      refine ⟨⟨by simp, by simp, fun w hw => ?_, by show (1 : Int) ≤ 1; omega, by show (1 : Int) ≤ 24; omega, by simpa using s2, fun s hs => by simpa using s1 s hs, ?_⟩, by show total st ≤ 500; omega⟩
      · rw [List.eq_of_mem_replicate hw]; exact ⟨by decide, by decide⟩
      · have := pcs_len st 1
        show (pcs st 1).length ≤ 40
        omega
    have := k _ c2 hg (p2.le (by omega))
    simp -implicitDefEqProofs [cellB, setB, wp_done_d, lo_set (lo_self wf) (p2.low _)]
    exact this
/-! ### what is found is right -/
abbrev RightOk (F : Fun) (i : Nat) : Prop := ∀ {t : PlanT} {is : List Int} {p : Pat} {h : Hs}, Good t → FallR t.ranks is → PatOk t.cells.length p → wfH h = true → F i [.d t.obj, .d t.toD, .d (.lst (is.map .int)), .d (patD p)] h = .ok (.d (.bl true)) h
theorem ranks_le {t : PlanT} (ok : t.ok) : ∀ r ∈ t.ranks, 0 ≤ r ∧ r ≤ 40 := fun r hr => by
  obtain ⟨p, _, rfl⟩ := List.mem_map.mp hr
  unfold rankOf nones
  have h1 := List.length_filter_le (fun s : Stp => s.isNone) (t.steps.take p.1.toNat)
  rw [List.length_take] at h1
  have := ok.n1
  omega
theorem foldl_max_le {m : Int} : ∀ {l : List Int} {i : Int}, i ≤ m → (∀ x ∈ l, x ≤ m) → l.foldl max i ≤ m ∧ i ≤ l.foldl max i
  | [], i, h, _ => ⟨h, Int.le_refl _⟩
  | x :: r, i, h, hx => by
    have h1 := hx x List.mem_cons_self
    have := foldl_max_le (l := r) (i := max i x) (by omega) fun y hy => hx y (List.mem_cons_of_mem _ hy)
    rw [List.foldl_cons]
    omega
theorem epI_le {t : PlanT} {is : List Int} (ok : t.ok) (f : FallR t.ranks is) : 0 ≤ epI t.ranks is ∧ epI t.ranks is ≤ 40 := by
  have := foldl_max_le (m := 40) (l := is.map fun i => t.ranks.getD i.toNat 0) (i := 0) (by omega) fun x hx => by
    obtain ⟨i, hi, rfl⟩ := List.mem_map.mp hx
    have h1 := f.r i hi
    have hg : t.ranks.getD i.toNat 0 ∈ t.ranks := by
      rw [List.getD_eq_getElem?_getD, List.getElem?_eq_getElem (by omega)]
      exact List.getElem_mem _
    exact (ranks_le ok _ hg).2
  exact ⟨this.2, this.1⟩
theorem right_ok {i iL iR ia ie jf im : Nat} (hL : LeftEq F iL) (hR : RanksEq F iR) (ha : AfterEq F ia) (he : EpochEq F ie) (hf : FoundEq F jf) (hm : MetEq F im) (hF : F i = run F 8 (Lb.k12right iL iR ia ie jf im)) : RightOk F i := by
  intro t is p h g f po wf
  have e1 := hL g.1 g.2 f.rp wf
  have e2 := hR g.1 g.2 wf
  have e3 := ha g.1 f wf
  have e4 := he g.1 f wf
  have e5 := hf g.1 f po wf
  have hll := left_len t is
  have e6 := hm (p := p) (c := t.left is) (by rw [hll]; exact po) wf
  have r40 : t.ranks.length ≤ 40 := by rw [ranks_len]; exact g.1.p1
  have hlen := f.toFallI.len
  have hlw : ∀ w ∈ t.left is, worth w := overs_worth g.1 f.rp g.1.cw
  have s1 := p_repr (h := h) (th_ints hlw (by rw [hll]; exact g.1.c1))
  have hep := epI_le g.1 f
  have s2 := p_repr (h := h) (th_int (i := epI t.ranks is) (by omega) (by omega))
  have s3 := p_repr (h := h) (th_bl (b := met p (t.left is)))
  have e7 := fun o0 o1 o3 o4 o6 o7 => rank_map (F := F) (o := none) (x := (.prim .item [(.var 5), (.var 7)])) (ix := 0) (iy := 7) (ez := 2) (e := [o0, o1, some (.d (.lst (is.map .int))), o3, o4, some (.d (.lst (t.ranks.map .int))), o6, o7]) (h := h) f.r (by omega) (fun i hi => by
    have ha := ranks_at (f.r i hi)
    generalize t.ranks.getD i.toNat 0 = u at ha ⊢
    simp -implicitDefEqProofs [ha]) (by simp)
  have hl : (is.map fun i => t.ranks.getD i.toNat 0).length = is.length := List.length_map ..
  have hu : epI t.ranks is = (is.map fun i => t.ranks.getD i.toNat 0).foldl max 0 := rfl
  rw [hu] at e4 s2
  generalize (is.map fun i => t.ranks.getD i.toNat 0) = rs at e7 hl e4 s2
  have l1 : 1 + rs.length ≤ LIM := limE (by omega)
  have e8 := p_maxL (is := rs) (j := 0) (h := h)
  generalize intsD (t.left is) = c at e1 e3 e6 s1
  generalize met p (t.left is) = b at e5 e6 s3
  generalize patD p = pd at e5 e6 ⊢
  generalize t.toD = td at e1 e2 ⊢
  generalize t.obj = ob at e3 e4 e5 ⊢
  rw [hF]
  refine eq_of_wp ?_
  rw [wp_run]
  have er := rowsOf_rng1 (j := 2) (by decide)
  simp -implicitDefEqProofs [Lb.k12right, y_for, er, e1, e2]
  refine for_inv (fun pre e h' => ∃ u v : Option Vl, e = [some (.d ob), some (.d td), some (.d (.lst (is.map .int))), some (.d pd), some (.d c), some (.d (.lst (t.ranks.map .int))), u, v] ∧ h' = h) (List.range 2) ⟨_, _, rfl, rfl⟩ ?_ ?_
  · rintro pre x post e h' hk ⟨u, v, rfl, rfl⟩
    simp -implicitDefEqProofs [e3, s1, e4, s2, e7, e5, s3, e6, l1, e8, Function.comp_def]
  · rintro e h' ⟨u, v, rfl, rfl⟩
    simp -implicitDefEqProofs [wp_done_d, lo_self wf]
/-! ### the law -/
theorem cut_last {xs : List D} (h : xs ≠ []) : ∃ x ∈ xs, cutD xs (slOf xs.length (-1)) xs.length = [x] := by
  have hl : 0 < xs.length := List.length_pos_iff.mpr h
  have e : slOf xs.length (-1) = xs.length - 1 := by
    unfold slOf
    rw [if_neg (by omega)]
    omega
  refine ⟨xs[xs.length - 1], List.getElem_mem _, ?_⟩
  rw [e]
  unfold cutD
  rw [List.take_of_length_le (Nat.le_refl _), List.drop_eq_getElem_cons (by omega)]
  congr 1
  exact List.drop_eq_nil_of_le (by omega)
theorem in_fall {is : List Int} {h : Hs} (k : Int) : inV (.d (.int k)) (.d (.lst (is.map .int))) h = some (decide (k ∈ is)) := by
  rw [in_ints, List.contains_eq_mem]
theorem k12_again {iFa iPa iR iN iRi : Nat} (hFa : FallOk F iFa) (hPa : PatternOk F iPa) (hR : RanksEq F iR) (hN : NextsEq F iN) (hRi : RightOk F iRi) {t : PlanT} (g : Good t) {s j : D} {a : Int} {x6 x7 x8 x9 x10 : Option Vl} {c1 : Cell} {b : Int} (p1 : PenC b c1) (hb : b < 100000000) {Q : Fl → Hs → Prop} {E : D → Hs → Prop}
    (kk : ∀ y7 y8 y9 c2, PenC (b + 200) c2 → Q (.nx [some (.d s), some (.r 0), some (.d j), some (.d t.toD), some (.d t.obj), some (.d (.int a)), x6, y7, y8, y9, x10]) [c2]) : Wp (execs F (Lb.k12again iFa iPa iR iN iRi) [some (.d s), some (.r 0), some (.d j), some (.d t.toD), some (.d t.obj), some (.d (.int a)), x6, x7, x8, x9, x10] [c1]) Q E := by
  have wf : ∀ {b c}, PenC b c → wfH [c] = true := fun p => by simp [wfH, p.low]
  simp -implicitDefEqProofs [Lb.k12again, y_while]
  refine hFa g.1 g.2 (h := [c1]) (p := 0) rfl p1 (by omega) (wf p1) fun is c2 fr p2 => ?_
  rw [List.set_cons_zero]
  refine hPa g.1 g.2 (h := [c2]) (p := 0) rfl p2 (by omega) (wf p2) fun pat c3 po p3 => ?_
  rw [List.set_cons_zero]
  have r40 : t.ranks.length ≤ 40 := by rw [ranks_len]; exact g.1.p1
  have e2 := hR g.1 g.2 (wf p3)
  have hw : WMAX = 100000 := rfl
  have hL : ∀ is, FallR t.ranks is → is.length ≤ t.ranks.length := fun is f => f.toFallI.len
  refine while_wp (fun m e h' => ∃ is : List Int, FallR t.ranks is ∧ m = t.ranks.length - is.length ∧ e = [some (.d s), some (.r 0), some (.d j), some (.d t.toD), some (.d t.obj), some (.d (.int a)), x6, some (.d (.lst (is.map .int))), some (.d (patD pat)), x9, x10] ∧ h' = [c3]) ?_ WMAX (t.ranks.length - is.length) (by omega) ⟨is, fr, rfl, rfl, rfl⟩
  rintro m e h' ⟨is, fr, rfl, rfl, rfl⟩
  have hlen := hL is fr
  have lr : t.ranks.length = (t.ranks.map D.int).length := by simp
  by_cases q : a = 0 ∧ is.length < t.ranks.length
  · have eN := hN (ranks := t.ranks) (is := is) (v := .d (.lst (is.map .int))) (wf p3) (by omega) in_fall
    have hne : ((nextsI t.ranks is).map fun k => D.int (k : Nat)) ≠ [] := fun z => nexts_ne q.2 (List.map_eq_nil_iff.mp z)
    obtain ⟨x, hx, hcut⟩ := cut_last hne
    obtain ⟨k, hk, rfl⟩ := List.mem_map.mp hx
    generalize ((nextsI t.ranks is).map fun k => D.int (k : Nat)) = nx at eN hcut
    have l1 : is.length + 1 ≤ LIM := limE (by omega)
    have qq : ((is.length : Int) < (t.ranks.length : Int)) := by omega
    simp -implicitDefEqProofs [q.1, qq, e2, eN, hcut, l1]
    exact ⟨_, by rw [List.length_append, List.length_singleton]; omega, is ++ [(k : Int)], fr.snoc hk, rfl, by simp⟩
  · have hcond : (decide (a = 0) && decide ((is.length : Int) < (t.ranks.length : Int))) = false := by
      rw [Bool.and_eq_false_iff]
      by_cases q1 : a = 0
      · exact .inr (decide_eq_false fun z => q ⟨q1, by omega⟩)
      · exact .inl (decide_eq_false q1)
    have e5 := hRi (p := pat) g fr po (wf p3)
    have s1 := p_repr (h := [c3]) (th_pair (n := t.ranks.length) fr.r (by omega) (by omega) po g.1.c1)
    have kk2 := fun w => kk (some (.d (.lst (is.map .int)))) (some (.d (patD pat))) w c3 (p3.le (by omega))
    by_cases q1 : a = 0
    · have q2 : ¬ ((is.length : Int) < (t.ranks.length : Int)) := fun z => q ⟨q1, by omega⟩
      simp -implicitDefEqProofs [q1, q2, e2, e5, s1]
      subst q1
      exact kk2 _
    · simp -implicitDefEqProofs [q1, e2, e5, s1]
      exact kk2 _
theorem k12_turn {iOf iEq iFa iPa iR iN iRi : Nat} (hOf : OfEq F iOf) (hEq : F iEq = run F 2 Lb.plan_eq) (hFa : FallOk F iFa) (hPa : PatternOk F iPa) (hR : RanksEq F iR) (hN : NextsEq F iN) (hRi : RightOk F iRi) {t : PlanT} (g : Good t) {s j : D} {x4 x5 x6 x7 x8 x9 x10 : Option Vl} {c1 : Cell} {b : Int} (p1 : PenC b c1) (hb : b < 90000000) {Q : Fl → Hs → Prop} {E : D → Hs → Prop}
    (kk : ∀ y4 y5 y6 y7 y8 y9 c2, PenC (b + 800) c2 → Q (.nx [some (.d s), some (.r 0), some (.d j), some (.d t.toD), y4, y5, y6, y7, y8, y9, x10]) [c2]) : Wp (execs F (Lb.k12turn iOf iEq iFa iPa iR iN iRi) [some (.d s), some (.r 0), some (.d j), some (.d t.toD), x4, x5, x6, x7, x8, x9, x10] [c1]) Q E := by
  have wf : ∀ {b c}, PenC b c → wfH [c] = true := fun p => by simp [wfH, p.low]
  have e1 := hOf g.1 (wf p1)
  have er := rowsOf_rng1 (j := 4) (by decide)
  simp -implicitDefEqProofs [Lb.k12turn, e1, y_for, er]
  refine for_inv (fun pre e h' => ∃ (y5 y7 y8 y9 : Option Vl) (c' : Cell), PenC (b + 200 * pre.length) c' ∧ e = [some (.d s), some (.r 0), some (.d j), some (.d t.toD), some (.d t.obj), y5, x6, y7, y8, y9, x10] ∧ h' = [c']) (List.range 4) ⟨_, _, _, _, c1, by simpa using p1, rfl, rfl⟩ ?_ ?_
  · rintro pre x post e h' hk ⟨y5, y7, y8, y9, c2, p2, rfl, rfl⟩
    obtain ⟨hx1, hx2⟩ := range_pre hk
    simp -implicitDefEqProofs
    refine k12_again hFa hPa hR hN hRi g p2 (by omega) fun z7 z8 z9 c3 p3 => ?_
    exact ⟨_, _, _, _, c3, p3.le (by omega), rfl, rfl⟩
  · rintro e h' ⟨y5, y7, y8, y9, c2, p2, rfl, rfl⟩
    rw [List.length_range] at p2
    have e3 := hOf g.1 (wf p2)
    have q1 := plan_eq_eq (t := t) (u := t) hEq (wf p2)
    have rfl1 : eqvD t.toD t.toD = true := eqvD_refl (dep_ok (dep_plan t)).1
    rw [rfl1] at q1
    have := kk (some (.d t.obj)) y5 x6 y7 y8 y9 c2 (p2.le (by omega))
    simp -implicitDefEqProofs [e3, isObj_plan, isCV_plan, q1]
    exact this
def k12w (ws : List Int) : PlanT := ⟨ws, 24, [some (0, ws.reverse), none, some (23, [7]), some (12, List.replicate 12 0)]⟩
theorem k12w_good {ws : List Int} (hl : ws.length = 24) (hw : ∀ w ∈ ws, worth w) : Good (k12w ws) := by
  have ht : total (k12w ws).steps = 37 := by simp [k12w, total, wsLen, hl]
  refine ⟨⟨fun z => ?_, by show ws.length ≤ 24; omega, hw, by show (1 : Int) ≤ 24; omega, by show (24 : Int) ≤ 24; omega, by show 4 ≤ 40; omega, fun s hs => ?_, ?_⟩, by omega⟩
  · have : ws = [] := z
    rw [this] at hl
    cases hl
  · have e : (k12w ws).cells.length = 24 := hl
    rw [e]
    have : s = some (0, ws.reverse) ∨ s = none ∨ s = some (23, [7]) ∨ s = some (12, List.replicate 12 0) := by
      simpa [k12w] using hs
    rcases this with rfl | rfl | rfl | rfl
    · refine ⟨by omega, fun z => ?_, by rw [List.length_reverse, hl]; omega, fun w h => hw w (List.mem_reverse.mp h)⟩
      rw [List.reverse_eq_nil_iff.mp z] at hl
      cases hl
    · trivial
    · refine ⟨by omega, by simp, by simp, fun w h => ?_⟩
      rw [List.mem_singleton.mp h]
      exact ⟨by decide, by decide⟩
    · refine ⟨by omega, by simp, by simp, fun w h => ?_⟩
      rw [List.eq_of_mem_replicate h]
      exact ⟨by decide, by decide⟩
  · have := pcs_len (k12w ws).steps (k12w ws).span
    show (pcs (k12w ws).steps (k12w ws).span).length ≤ 40
    omega
def k12e (ss : List Stp) : PlanT := ⟨[3], 1, ss⟩
theorem k12e_ok {ss : List Stp} (h : ss = [] ∨ ss = [none]) : (k12e ss).ok ∧ (k12e ss).parts = [] := by
  rcases h with rfl | rfl
  · refine ⟨⟨by decide, by decide, fun w hw => ?_, by decide, by decide, by decide, fun s hs => (by cases hs), by decide⟩, rfl⟩
    rw [List.mem_singleton.mp hw]
    exact ⟨by decide, by decide⟩
  · refine ⟨⟨by decide, by decide, fun w hw => ?_, by decide, by decide, by decide, fun s hs => ?_, by decide⟩, rfl⟩
    · rw [List.mem_singleton.mp hw]
      exact ⟨by decide, by decide⟩
    · rw [List.mem_singleton.mp hs]; trivial
theorem k12_ok {i iPen iPlan iD iG iOf iEq iFa iPa iR iN iRi iC iE iI : Nat} (hPen : F iPen = run F 1 Lb.pen) (hPlan : GenOk F iPlan 8) (hd : DrawOk F iD) (hG : GreatOk F iG) (hOf : OfEq F iOf) (hEq : F iEq = run F 2 Lb.plan_eq) (hFa : FallOk F iFa) (hPa : PatternOk F iPa) (hR : RanksEq F iR) (hN : NextsEq F iN) (hRi : RightOk F iRi) (hC : AfterEq F iC) (hE : EpochEq F iE) (hIn : InitEq F iI)
    (hF : F i = run F 11 (Lb.k12law iPen iPlan iD iG iOf iEq iFa iPa iR iN iRi iC iE iI)) {ns : List Int} (hn : ns.length ≤ 63) : ∃ h', F i [.d (.ro ns)] [] = .ok (.d (.bl true)) h' := by
  refine law_of ?_
  obtain ⟨c0, pc0, epen⟩ := pen_eq hPen hn
  rw [hF, wp_run]
  have er := rowsOf_rng1 (j := 20) (by decide)
  simp -implicitDefEqProofs [Lb.k12law, epen, y_for, er]
  have wf : ∀ {b c}, PenC b c → wfH [c] = true := fun p => by simp [wfH, p.low]
  refine for_inv (fun pre e h' => ∃ (a b d f g u v w : Option Vl) (c' : Cell), PenC (3000 * (pre.length : Int)) c' ∧ e = [some (.d (.ro ns)), some (.r 0), a, b, d, f, g, u, v, w, none] ∧ h' = [c']) _ ⟨_, _, _, _, _, _, _, _, c0, by simpa using pc0, rfl, rfl⟩ ?_ ?_
  · rintro pre j post e h' hk ⟨a, b, d, f, g, u, v, w, c1, p1, rfl, rfl⟩
    obtain ⟨hj, hjn⟩ := range_pre hk
    have hjn' : j < 20 := hjn
    simp -implicitDefEqProofs
    refine hPlan (h := [c1]) (p := 0) rfl p1 (by omega) (wf p1) fun t c2 dt p2 => ?_
    rw [List.set_cons_zero]
    have gt : Good t := ⟨dt.ok (by decide), by have := dt.tt; omega⟩
    refine Wp.mono (Q := fun fl h' => ∃ (t' : PlanT) (g' : Option Vl) (c3 : Cell), Good t' ∧ PenC (3000 * (pre.length : Int) + 1200) c3 ∧ fl = .nx [some (.d (.ro ns)), some (.r 0), some (.d (.int j)), some (.d t'.toD), d, f, g', u, v, w, none] ∧ h' = [c3]) ?_ ?_
    · have er24 := rowsOf_rng1 (j := 24) (by decide)
      by_cases q : j = 0
      · simp -implicitDefEqProofs [q, x_comp, er24, wp_noEx]
        refine draws_wp hd (p := 0) (u := 8) (List.range 24) (fun x h => by simp) (h := [c2]) rfl p2 (by rw [List.length_range]; omega) (wf p2) (by omega) (by omega) fun ws c3 l3 r3 p3 => ?_
        rw [List.length_range] at l3 p3
        rw [List.set_cons_zero]
        have gw := k12w_good l3 fun w hw => r3 w hw
        have l4 : ws.length ≤ LIM := limE (by omega)
        simp -implicitDefEqProofs [l4]
        refine ⟨k12w ws, gw, p3.le (by omega), ?_⟩
        simp only [k12w, PlanT.toD, intsD, stepD, List.map_cons, List.map_nil, List.map_reverse]
        rfl
      · by_cases q2 : j < 3
        · have q3 : (j : Int) < 3 := by omega
          simp -implicitDefEqProofs [q, q3]
          refine hG (h := [c2]) (p := 0) rfl p2 (by omega) (wf p2) fun t2 c3 g2 p3 => ?_
          rw [List.set_cons_zero]
          exact ⟨t2, g2, _, c3, p3.le (by omega), ⟨rfl, rfl⟩, rfl⟩
        · have q3 : ¬ (j : Int) < 3 := by omega
          simp -implicitDefEqProofs [q, q3]
          exact ⟨t, gt, p2.le (by omega), rfl⟩
    · rintro fl h' ⟨t', g', c3, gt', p3, rfl, rfl⟩
      simp -implicitDefEqProofs
      refine k12_turn hOf hEq hFa hPa hR hN hRi gt' p3 (by omega) fun y4 y5 y6 y7 y8 y9 c4 p4 => ?_
      exact ⟨_, _, _, _, _, _, _, _, c4, p4.le (by omega), rfl, rfl⟩
  · rintro e h' ⟨a, b, d, f, g, u, v, w, c1, p1, rfl, rfl⟩
    have w1 := wf p1
    obtain ⟨ok1, pa1⟩ := k12e_ok (ss := []) (.inl rfl)
    obtain ⟨ok2, pa2⟩ := k12e_ok (ss := [none]) (.inr rfl)
    have e1 := hIn (t := k12e []) (h := [c1]) ok1 w1
    have w2 : wfH [c1, .dead] = true := wf_app (h := [c1]) (t := [.dead]) w1 rfl
    have e2 := hC (is := []) ok1 .nil w2
    have e3 := hIn (t := k12e [none]) (h := [c1, .dead]) ok2 w2
    have w3 : wfH [c1, .dead, .dead] = true := wf_app (h := [c1]) (t := [.dead, .dead]) w1 rfl
    have e4 := hE (is := []) ok2 .nil w3
    have e5 : (k12e []).left [] = [3] := rfl
    have e6 : epI (k12e [none]).ranks [] = 0 := rfl
    rw [e5] at e2
    rw [e6] at e4
    have e7 : eqV (.d (.tup [.int 3])) (.d (.tup [.int 3])) [c1, .dead] = some true := by rw [eqV_d (by simp [dep, deps]) (by simp [dep, deps])]; simp [eqvD, eqvDs]
    have pr1 : (k12e []).parts = [] := pa1
    have pr2 : (k12e [none]).parts = [] := pa2
    have ra1 : (k12e []).ranks = [] := by unfold PlanT.ranks; rw [pr1]; rfl
    have ra2 : (k12e [none]).ranks = [] := by unfold PlanT.ranks; rw [pr2]; rfl
    simp -implicitDefEqProofs [k12e, intsD, stepD, PlanT.obj, PlanT.flds] at e1 e2 e3 e4
    simp -implicitDefEqProofs [e1, e2, e3, e4, e7, wp_done_d, lo, p1.low]
end
end L3
namespace L3
open PySem PySem.Spec PyProof.Rows L2
def top (i : Nat) : Stmt := PySem.Challenge.pw_afterfall_k12_what_is_found.main.body.getD i (.Pass ⟨0, 0, 0, 0⟩)
/-- 0 is_integer: 0 thing -/
def b_is_integer : List Sm := [
  .ret (.and (.prim (.isi .int) [(.var 0)]) (.not (.prim (.isi .bool) [(.var 0)])))]
/-- 1 is_below: 0 thing, 1 count -/
def b_is_below : List Sm := [
  .ret (.and (.call 0 [(.var 0)]) (.chain .le .lt (.cst (.int 0)) (.var 0) (.var 1)))]
/-- 2 are_worths: 0 thing, 1 worth -/
def b_are_worths : List Sm := [
  .ret (.and (.prim (.isi .tuple) [(.var 0)]) (.and (.prim .ne [(.var 0), (.prim .tup [])]) (.prim .all [(.comp false (.call 1 [(.var 1), (.glb "WORTHS" (.int 8))]) (.nm 1) .seq [(.var 0)] [])])))]
/-- 3 is_content: 0 thing -/
def b_is_content : List Sm := [
  .ret (.and (.call 2 [(.var 0)]) (.prim .le [(.prim .len [(.var 0)]), (.glb "MAX_CELLS" (.int 24))]))]
/-- 4 is_choice: 0 thing -/
def b_is_choice : List Sm := [
  .ret (.and (.call 2 [(.var 0)]) (.prim .eq [(.mk false .list [(.var 0)]), (.mk false .sortedSet [(.var 0)])]))]
/-- 5 is_pattern: 0 cells, 1 thing, 2 cell, 3 choice -/
def b_is_pattern : List Sm := [
  .ite (.not (.prim (.isi .dict) [(.var 1)])) [.ret (.cst (.bl false))] [],
  .ret (.prim .all [(.comp false (.and (.call 1 [(.var 2), (.var 0)]) (.call 4 [(.var 3)])) (.tup [2, 3]) .items [(.var 1)] [])])]
/-- 6 check_pattern: 0 cells, 1 thing -/
def b_check_pattern : List Sm := [
  .ite (.not (.call 5 [(.var 0), (.var 1)])) [.wall] []]
/-- 7 is_matched: 0 pattern, 1 content, 2 cell, 3 choice -/
def b_is_matched : List Sm := [
  .ret (.prim .all [(.comp false (.prim .in_ [(.prim .item [(.var 1), (.var 2)]), (.var 3)]) (.tup [2, 3]) .items [(.var 0)] [])])]
/-- 8 is_step: 0 cells, 1 thing -/
def b_is_step : List Sm := [
  .ite (.prim .is_ [(.var 1), (.cst .non)]) [.ret (.cst (.bl true))] [],
  .ite (.or (.not (.prim (.isi .tuple) [(.var 1)])) (.or (.prim .ne [(.prim .len [(.var 1)]), (.cst (.int 2))]) (.or (.not (.call 1 [(.prim .item [(.var 1), (.cst (.int 0))]), (.var 0)])) (.not (.call 2 [(.prim .item [(.var 1), (.cst (.int 1))])]))))) [.ret (.cst (.bl false))] [],
  .ret (.prim .le [(.prim .add [(.prim .item [(.var 1), (.cst (.int 0))]), (.prim .len [(.prim .item [(.var 1), (.cst (.int 1))])])]), (.var 0)])]
/-- 9 broken: 0 index, 1 step, 2 width, 3 first, 4 worths, 5 found, 6 start, 7 place -/
def b_broken : List Sm := [
  .asg (.tup [3, 4]) (.var 1),
  .asg (.nm 5) (.mk true .lst []),
  .asg (.nm 6) (.cst (.int 0)),
  .for_ (.nm 7) .rng [(.cst (.int 1)), (.prim .add [(.prim .len [(.var 4)]), (.cst (.int 1))])] [.ite (.or (.prim .eq [(.var 7), (.prim .len [(.var 4)])]) (.prim .eq [(.prim .mod [(.prim .add [(.var 3), (.var 7)]), (.var 2)]), (.cst (.int 0))])) [.app (.var 5) (.prim .tup [(.var 0), (.prim .add [(.var 3), (.var 6)]), (.prim .slLU [(.var 4), (.var 6), (.var 7)])]), .asg (.nm 6) (.var 7)] []],
  .ret (.frz (.var 5))]
/-- 10 pieces_of: 0 steps, 1 width, 2 found, 3 index, 4 step -/
def b_pieces_of : List Sm := [
  .asg (.nm 2) (.mk true .lst []),
  .for_ (.tup [3, 4]) .enum [(.var 0)] [.ite (.prim .isnot [(.var 4), (.cst .non)]) [.ext (.var 2) (.call 9 [(.var 3), (.var 4), (.var 1)])] []],
  .ret (.frz (.var 2))]
/-- 11 Plan.__init__: 0 self, 1 base, 2 width, 3 steps, 4 part, 5 step -/
def b_Plan_init : List Sm := [
  .ite (.or (.not (.call 3 [(.var 1)])) (.or (.not (.call 0 [(.var 2)])) (.not (.chain .le .le (.cst (.int 1)) (.var 2) (.glb "MAX_CELLS" (.int 24)))))) [.wall] [],
  .ite (.or (.not (.prim (.isi .list) [(.var 3)])) (.prim .gt [(.prim .len [(.var 3)]), (.glb "MAX_STEPS" (.int 40))])) [.wall] [],
  .ite (.not (.prim .all [(.comp false (.call 8 [(.prim .len [(.var 1)]), (.var 5)]) (.nm 5) .seq [(.var 3)] [])])) [.wall] [],
  .fld 0 0 "start" (.var 0) (.var 1),
  .fld 0 1 "span" (.var 0) (.var 2),
  .fld 0 2 "deeds" (.var 0) (.mk false .list [(.var 3)]),
  .fld 0 3 "parts" (.var 0) (.call 10 [(.var 3), (.var 2)]),
  .ite (.prim .gt [(.prim .len [(.attr 0 3 "parts" (.var 0))]), (.glb "MAX_PIECES" (.int 40))]) [.wall] [],
  .fld 0 4 "ranks" (.var 0) (.comp false (.prim .count [(.mk false .slU [(.var 3), (.prim .item [(.var 4), (.cst (.int 0))])]), (.cst .non)]) (.nm 4) .seq [(.attr 0 3 "parts" (.var 0))] [])]
/-- 12 Plan.base: 0 self -/
def b_Plan_base : List Sm := [
  .ret (.attr 0 0 "start" (.var 0))]
/-- 13 Plan.__eq__: 0 self, 1 other -/
def b_Plan_eq : List Sm := [
  .ite (.not (.prim (.isc [0]) [(.var 1)])) [.ret (.cst (.bl false))] [],
  .ret (.prim .eq [(.prim .tup [(.attr 0 0 "start" (.var 0)), (.attr 0 1 "span" (.var 0)), (.attr 0 2 "deeds" (.var 0))]), (.prim .tup [(.attr 0 0 "start" (.var 1)), (.attr 0 1 "span" (.var 1)), (.attr 0 2 "deeds" (.var 1))])])]
/-- 14 cells_in: 0 plan, 1 piece, 2 index, 3 first, 4 worths, 5 place, 6 worth -/
def b_cells_in : List Sm := [
  .asg (.tup [2, 3, 4]) (.prim .item [(.attr 0 3 "parts" (.var 0)), (.var 1)]),
  .ret (.dcomp false (.prim .add [(.var 3), (.var 5)]) (.var 6) (.tup [5, 6]) .enum [(.var 4)] [])]
/-- 15 are_pieces: 0 plan, 1 thing, 2 piece -/
def b_are_pieces : List Sm := [
  .ite (.or (.not (.prim (.isi .list) [(.var 1)])) (.not (.prim .all [(.comp false (.call 1 [(.var 2), (.prim .len [(.attr 0 3 "parts" (.var 0))])]) (.nm 2) .seq [(.var 1)] [])]))) [.ret (.cst (.bl false))] [],
  .ret (.prim .eq [(.prim .lenset [(.var 1)]), (.prim .len [(.var 1)])])]
/-- 16 lower_pieces: 0 plan, 1 epoch, 2 piece, 3 rank -/
def b_lower_pieces : List Sm := [
  .ret (.comp false (.var 2) (.tup [2, 3]) .enum [(.attr 0 4 "ranks" (.var 0))] [(.prim .lt [(.var 3), (.var 1)])])]
/-- 17 is_fall: 0 plan, 1 thing, 2 place, 3 piece, 4 other -/
def b_is_fall : List Sm := [
  .ite (.not (.call 15 [(.var 0), (.var 1)])) [.ret (.cst (.bl false))] [],
  .for_ (.tup [2, 3]) .enum [(.var 1)] [.ite (.not (.prim .all [(.comp false (.prim .in_ [(.var 4), (.mk false .slU [(.var 1), (.var 2)])]) (.nm 4) .seq [(.call 16 [(.var 0), (.prim .item [(.attr 0 4 "ranks" (.var 0)), (.var 3)])])] [])])) [.ret (.cst (.bl false))] []],
  .ret (.cst (.bl true))]
/-- 18 check_fall: 0 plan, 1 thing -/
def b_check_fall : List Sm := [
  .ite (.not (.call 17 [(.var 0), (.var 1)])) [.wall] []]
/-- 19 overwritten: 0 plan, 1 content, 2 pieces, 3 found, 4 piece, 5 cell, 6 worth -/
def b_overwritten : List Sm := [
  .asg (.nm 3) (.mk true .list [(.var 1)]),
  .for_ (.nm 4) .seq [(.var 2)] [.for_ (.tup [5, 6]) .items [(.call 14 [(.var 0), (.var 4)])] [.sub (.var 3) (.var 5) (.var 6)]],
  .ret (.prim .tuple [(.var 3)])]
/-- 20 content_after: 0 plan, 1 fall -/
def b_content_after : List Sm := [
  .expr (.call 18 [(.var 0), (.var 1)]),
  .ret (.call 19 [(.var 0), (.pro 0 "base" 12 (.var 0)), (.var 1)])]
/-- 21 epoch_in: 0 plan, 1 fall, 2 piece -/
def b_epoch_in : List Sm := [
  .expr (.call 18 [(.var 0), (.var 1)]),
  .ret (.prim .maxL [(.star 0 [false, true] [(.cst (.int 0)), (.comp false (.prim .item [(.attr 0 4 "ranks" (.var 0)), (.var 2)]) (.nm 2) .seq [(.var 1)] [])])])]
/-- 22 is_found: 0 plan, 1 fall, 2 pattern, 3 content -/
def b_is_found : List Sm := [
  .asg (.nm 3) (.call 20 [(.var 0), (.var 1)]),
  .expr (.call 6 [(.prim .len [(.var 3)]), (.var 2)]),
  .ret (.call 7 [(.var 2), (.var 3)])]
/-- 23 _law_pen: 0 _law_script -/
def b__law_pen : List Sm := [
  .ret (.mk true .lst [(.mk false .list [(.mk false .slU [(.var 0), (.cst (.int 60))])]), (.cst (.int 0)), (.cst (.int 0))])]
/-- 24 _law_next: 0 _law_pen_here, 1 _law_index, 2 _law_cell_here, 3 _law_some_here, 4 _law_more, 5 _law_high -/
def b__law_next : List Sm := [
  .asg (.nm 1) (.prim .item [(.var 0), (.cst (.int 1))]),
  .sub (.var 0) (.cst (.int 1)) (.prim .add [(.var 1), (.cst (.int 1))]),
  .asg (.nm 2) (.prim .add [(.prim .mul [(.var 1), (.cst (.int 1069))]), (.cst (.int 61))]),
  .ite (.prim .ne [(.prim .item [(.var 0), (.cst (.int 0))]), (.mk false .lst [])]) [.asg (.nm 2) (.prim .item [(.prim .item [(.var 0), (.cst (.int 0))]), (.prim .mod [(.prim .int [(.var 1)]), (.prim .len [(.prim .item [(.var 0), (.cst (.int 0))])])])])] [],
  .ite (.and (.prim .lt [(.var 1), (.prim .len [(.prim .item [(.var 0), (.cst (.int 0))])])]) (.prim .ge [(.var 2), (.prim .pow [(.cst (.int 10)), (.cst (.int 18))])])) [.ret (.var 2)] [],
  .asg (.nm 3) (.prim .mod [(.prim .int [(.prim .add [(.prim .add [(.prim .mod [(.prim .int [(.var 2)]), (.cst (.int 2147483587))]), (.prim .mul [(.var 1), (.cst (.int 30119))])]), (.cst (.int 89))])]), (.cst (.int 2147483587))]),
  .asg (.nm 4) (.prim .mod [(.prim .int [(.prim .add [(.prim .add [(.prim .mul [(.var 3), (.var 3)]), (.prim .mul [(.var 1), (.cst (.int 70061))])]), (.cst (.int 71))])]), (.cst (.int 2147483563))]),
  .asg (.nm 5) (.prim .mod [(.prim .int [(.prim .add [(.prim .add [(.prim .mul [(.var 4), (.var 4)]), (.var 3)]), (.prim .mul [(.prim .mul [(.var 1), (.var 1)]), (.cst (.int 47))])])]), (.cst (.int 2147483549))]),
  .ret (.prim .add [(.prim .mul [(.prim .add [(.prim .mul [(.var 5), (.cst (.int 2147483587))]), (.var 4)]), (.cst (.int 2147483563))]), (.var 3)])]
/-- 25 _law_draw: 0 _law_pen_here, 1 _law_under, 2 _law_digit -/
def b__law_draw : List Sm := [
  .ite (.prim .lt [(.prim .item [(.var 0), (.cst (.int 2))]), (.var 1)]) [.sub (.var 0) (.cst (.int 2)) (.call 24 [(.var 0)])] [],
  .asg (.nm 2) (.prim .mod [(.prim .int [(.prim .item [(.var 0), (.cst (.int 2))])]), (.var 1)]),
  .sub (.var 0) (.cst (.int 2)) (.prim .fdiv [(.prim .item [(.var 0), (.cst (.int 2))]), (.var 1)]),
  .ret (.var 2)]
/-- 26 _law_some: 0 _law_pen_here, 1 _law_pool, 2 _law_most, 3 _law_rest, 4 _law_turn -/
def b__law_some : List Sm := [
  .asg (.nm 3) (.mk true .list [(.var 1)]),
  .ret (.comp false (.popc (.var 3) [(.call 25 [(.var 0), (.prim .len [(.var 3)])])]) (.nm 4) .rng [(.call 25 [(.var 0), (.prim .add [(.prim .min2 [(.var 2), (.prim .len [(.var 3)])]), (.cst (.int 1))])])] [])]
/-- 27 _law_split: 0 _law_index, 1 _law_step_here, 2 _law_span_here, 3 _law_first, 4 _law_worths_here, 5 _law_found, 6 _law_some_here, 7 _law_k -/
def b__law_split : List Sm := [
  .asg (.tup [3, 4]) (.var 1),
  .par [5, 6] [(.mk true .lst []), (.mk true .lst [])],
  .for_ (.nm 7) .rng [(.prim .len [(.var 4)])] [.ite (.and (.prim .ne [(.var 6), (.mk false .lst [])]) (.prim .eq [(.prim .mod [(.prim .int [(.prim .add [(.var 3), (.var 7)])]), (.var 2)]), (.cst (.int 0))])) [.app (.var 5) (.prim .tup [(.var 0), (.prim .sub [(.prim .add [(.var 3), (.var 7)]), (.prim .len [(.var 6)])]), (.prim .tuple [(.var 6)])]), .asg (.nm 6) (.mk true .lst [])] [], .app (.var 6) (.prim .item [(.var 4), (.var 7)])],
  .ret (.mk false .cat [(.var 5), (.mk false .lst [(.prim .tup [(.var 0), (.prim .sub [(.prim .add [(.var 3), (.prim .len [(.var 4)])]), (.prim .len [(.var 6)])]), (.prim .tuple [(.var 6)])])])])]
/-- 28 _law_parts: 0 _law_plan_here, 1 _law_found, 2 _law_index -/
def b__law_parts : List Sm := [
  .asg (.nm 1) (.mk false .lst []),
  .for_ (.nm 2) .rng [(.prim .len [(.prim .item [(.var 0), (.cst (.int 2))])])] [.ite (.prim .isnot [(.prim .item [(.prim .item [(.var 0), (.cst (.int 2))]), (.var 2)]), (.cst .non)]) [.asg (.nm 1) (.mk false .cat [(.var 1), (.call 27 [(.var 2), (.prim .item [(.prim .item [(.var 0), (.cst (.int 2))]), (.var 2)]), (.prim .item [(.var 0), (.cst (.int 1))])])])] []],
  .ret (.var 1)]
/-- 29 _law_ranks: 0 _law_plan_here, 1 _law_part -/
def b__law_ranks : List Sm := [
  .ret (.comp false (.prim .count [(.mk false .slU [(.prim .item [(.var 0), (.cst (.int 2))]), (.prim .item [(.var 1), (.cst (.int 0))])]), (.cst .non)]) (.nm 1) .seq [(.call 28 [(.var 0)])] [])]
/-- 30 _law_write: 0 _law_pen_here, 1 _law_many, 2 _law_kinds, 3 _law_longest_row, 4 _law_first, 5 _law_more, 6 _law_k -/
def b__law_write : List Sm := [
  .asg (.nm 4) (.call 25 [(.var 0), (.var 1)]),
  .asg (.nm 5) (.prim .min2 [(.var 3), (.prim .sub [(.var 1), (.var 4)])]),
  .ret (.prim .tup [(.var 4), (.prim .tuple [(.comp false (.call 25 [(.var 0), (.var 2)]) (.nm 6) .rng [(.prim .add [(.cst (.int 1)), (.call 25 [(.var 0), (.var 5)])])] [])])])]
/-- 31 _law_drawn: 0 _law_pen_here, 1 _law_many, 2 _law_most, 3 _law_kinds, 4 _law_cells_here, 5 _law_plan_here, 6 _law_turn, 7 _law_longer, 8 _law_k -/
def b__law_drawn : List Sm := [
  .asg (.nm 4) (.prim .tuple [(.comp false (.call 25 [(.var 0), (.var 3)]) (.nm 8) .rng [(.var 1)] [])]),
  .asg (.nm 5) (.prim .tup [(.var 4), (.prim .add [(.cst (.int 1)), (.call 25 [(.var 0), (.cst (.int 3))])]), (.mk false .lst [])]),
  .for_ (.nm 6) .rng [(.call 25 [(.var 0), (.prim .add [(.var 2), (.cst (.int 1))])])] [.asg (.nm 7) (.mk false .cat [(.prim .item [(.var 5), (.cst (.int 2))]), (.mk false .lst [(.call 30 [(.var 0), (.var 1), (.var 3), (.cst (.int 3))])])]), .ite (.prim .le [(.prim .len [(.call 28 [(.prim .tup [(.var 4), (.prim .item [(.var 5), (.cst (.int 1))]), (.var 7)])])]), (.var 2)]) [.asg (.nm 5) (.prim .tup [(.var 4), (.prim .item [(.var 5), (.cst (.int 1))]), (.var 7)])] [], .ite (.prim .eq [(.call 25 [(.var 0), (.cst (.int 3))]), (.cst (.int 0))]) [.asg (.nm 5) (.prim .tup [(.var 4), (.prim .item [(.var 5), (.cst (.int 1))]), (.mk false .cat [(.prim .item [(.var 5), (.cst (.int 2))]), (.mk false .lst [(.cst .non)])])])] []],
  .ret (.var 5)]
/-- 32 _law_log: 0 _law_pen_here, 1 _law_kinds, 2 _law_news, 3 _law_steps_here, 4 _law_step_here -/
def b__law_log : List Sm := [
  .asg (.nm 2) (.prim .tup [(.call 25 [(.var 0), (.var 1)]), (.call 25 [(.var 0), (.var 1)])]),
  .asg (.nm 3) (.mk false .lst [(.prim .tup [(.cst (.int 0)), (.var 2)])]),
  .for_ (.nm 4) .seq [(.prim .tup [(.prim .tup [(.cst (.int 2)), (.prim .tup [(.cst (.int 1))])]), (.prim .tup [(.cst (.int 3)), (.var 2)]), (.prim .tup [(.cst (.int 2)), (.prim .tup [(.cst (.int 0))])])])] [.asg (.nm 3) (.mk false .cat [(.mk false .cat [(.var 3), (.mk false .mulL [(.mk false .lst [(.cst .non)]), (.prim .int [(.prim .gt [(.call 25 [(.var 0), (.cst (.int 3))]), (.cst (.int 0))])])])]), (.mk false .lst [(.var 4)])])],
  .ret (.prim .tup [(.prim .tup [(.cst (.int 0)), (.cst (.int 0)), (.cst (.int 0)), (.call 25 [(.var 0), (.var 1)]), (.call 25 [(.var 0), (.var 1)])]), (.prim .add [(.cst (.int 1)), (.call 25 [(.var 0), (.cst (.int 2))])]), (.var 3)])]
/-- 33 _law_copy: 0 _law_pen_here, 1 _law_kinds, 2 _law_news, 3 _law_steps_here -/
def b__law_copy : List Sm := [
  .asg (.nm 2) (.prim .tup [(.call 25 [(.var 0), (.var 1)]), (.call 25 [(.var 0), (.var 1)])]),
  .asg (.nm 3) (.mk false .cat [(.mk false .cat [(.mk false .lst [(.prim .tup [(.cst (.int 2)), (.var 2)])]), (.mk false .mulL [(.mk false .lst [(.cst .non)]), (.prim .int [(.prim .gt [(.call 25 [(.var 0), (.cst (.int 3))]), (.cst (.int 0))])])])]), (.mk false .lst [(.prim .tup [(.cst (.int 4)), (.prim .tup [(.cst (.int 1))])])])]),
  .ret (.prim .tup [(.prim .tup [(.call 25 [(.var 0), (.var 1)]), (.call 25 [(.var 0), (.var 1)]), (.cst (.int 0)), (.cst (.int 0)), (.cst (.int 0))]), (.prim .add [(.cst (.int 1)), (.call 25 [(.var 0), (.cst (.int 2))])]), (.var 3)])]
/-- 34 _law_plan: 0 _law_pen_here, 1 _law_most, 2 _law_road -/
def b__law_plan : List Sm := [
  .asg (.nm 2) (.call 25 [(.var 0), (.cst (.int 6))]),
  .ite (.and (.prim .eq [(.var 2), (.cst (.int 0))]) (.prim .gt [(.var 1), (.cst (.int 5))])) [.ret (.call 32 [(.var 0), (.cst (.int 3))])] [],
  .ite (.and (.prim .eq [(.var 2), (.cst (.int 1))]) (.prim .gt [(.var 1), (.cst (.int 2))])) [.ret (.call 33 [(.var 0), (.cst (.int 3))])] [],
  .ret (.call 31 [(.var 0), (.prim .add [(.cst (.int 1)), (.call 25 [(.var 0), (.cst (.int 4))])]), (.var 1), (.prim .item [(.mk false .lst [(.cst (.int 2)), (.cst (.int 3)), (.cst (.int 8))]), (.call 25 [(.var 0), (.cst (.int 3))])])])]
/-- 35 _law_plan_of: 0 _law_plan_here -/
def b__law_plan_of : List Sm := [
  .ret (.new false 0 11 [(.prim .item [(.var 0), (.cst (.int 0))]), (.prim .item [(.var 0), (.cst (.int 1))]), (.prim .item [(.var 0), (.cst (.int 2))])])]
/-- 36 _law_left: 0 _law_plan_here, 1 _law_some_here, 2 _law_parts_here, 3 _law_found, 4 _law_one, 5 _law_index, 6 _law_first, 7 _law_worths_here, 8 _law_k -/
def b__law_left : List Sm := [
  .par [2, 3] [(.call 28 [(.var 0)]), (.mk true .list [(.prim .item [(.var 0), (.cst (.int 0))])])],
  .for_ (.nm 4) .seq [(.var 1)] [.asg (.tup [5, 6, 7]) (.prim .item [(.var 2), (.var 4)]), .for_ (.nm 8) .rng [(.prim .len [(.var 7)])] [.sub (.var 3) (.prim .add [(.var 6), (.var 8)]) (.prim .item [(.var 7), (.var 8)])]],
  .ret (.prim .tuple [(.var 3)])]
/-- 37 _law_nexts: 0 _law_ranks_here, 1 _law_some_here, 2 _law_rest, 3 _law_k, 4 _law_j -/
def b__law_nexts : List Sm := [
  .asg (.nm 2) (.comp false (.var 3) (.nm 3) .rng [(.prim .len [(.var 0)])] [(.prim .notin [(.var 3), (.var 1)])]),
  .ret (.comp false (.var 3) (.nm 3) .seq [(.var 2)] [(.prim .eq [(.prim .item [(.var 0), (.var 3)]), (.prim .minL [(.comp false (.prim .item [(.var 0), (.var 4)]) (.nm 4) .seq [(.var 2)] [])])])])]
/-- 38 _law_fall: 0 _law_pen_here, 1 _law_plan_here, 2 _law_ranks_here, 3 _law_found, 4 _law_turn, 5 _law_some_here -/
def b__law_fall : List Sm := [
  .par [2, 3] [(.call 29 [(.var 1)]), (.mk true .lst [])],
  .for_ (.nm 4) .rng [(.call 25 [(.var 0), (.prim .add [(.prim .len [(.var 2)]), (.cst (.int 1))])])] [.asg (.nm 5) (.call 37 [(.var 2), (.var 3)]), .app (.var 3) (.prim .item [(.var 5), (.call 25 [(.var 0), (.prim .len [(.var 5)])])])],
  .ret (.frz (.var 3))]
/-- 39 _law_is_met: 0 _law_pattern_here, 1 _law_content_here, 2 _law_one -/
def b__law_is_met : List Sm := [
  .ret (.prim .all [(.comp false (.prim .in_ [(.prim .item [(.var 1), (.var 2)]), (.prim .item [(.var 0), (.var 2)])]) (.nm 2) .seq [(.var 0)] [])])]
/-- 40 _law_pattern: 0 _law_pen_here, 1 _law_plan_here, 2 _law_content_here, 3 _law_found, 4 _law_one, 5 _law_worths_here, 6 _law_turn -/
def b__law_pattern : List Sm := [
  .par [2, 3] [(.call 36 [(.var 1), (.call 38 [(.var 0), (.var 1)])]), (.dict true [] [])],
  .for_ (.nm 4) .seq [(.call 26 [(.var 0), (.mk false .listRange [(.prim .len [(.var 2)])]), (.cst (.int 4))])] [.asg (.nm 5) (.dict true [(.prim .item [(.var 2), (.var 4)])] [(.cst (.bl true))]), .ite (.prim .eq [(.call 25 [(.var 0), (.cst (.int 3))]), (.cst (.int 0))]) [.asg (.nm 5) (.dict true [(.call 25 [(.var 0), (.cst (.int 8))])] [(.cst (.bl true))])] [], .for_ (.nm 6) .rng [(.call 25 [(.var 0), (.cst (.int 3))])] [.sub (.var 5) (.call 25 [(.var 0), (.cst (.int 8))]) (.cst (.bl true))], .sub (.var 3) (.var 4) (.prim .tuple [(.mk false .sorted [(.var 5)])])],
  .ret (.frz (.var 3))]
/-- 41 _law_great: 0 _law_pen_here, 1 _law_turn, 2 _law_steps_here, 3 _law_k -/
def b__law_great : List Sm := [
  .asg (.nm 2) (.mk true .lst []),
  .for_ (.nm 3) .rng [(.cst (.int 20))] [.app (.var 2) (.prim .tup [(.prim .mod [(.prim .int [(.prim .mul [(.var 3), (.cst (.int 7))])]), (.cst (.int 23))]), (.prim .tup [(.call 25 [(.var 0), (.cst (.int 8))]), (.call 25 [(.var 0), (.cst (.int 8))])])]), .asg (.nm 2) (.mk true .cat [(.var 2), (.mk false .mulL [(.mk false .lst [(.cst .non)]), (.prim .int [(.and (.prim .eq [(.var 1), (.cst (.int 1))]) (.prim .lt [(.var 3), (.cst (.int 19))]))])])])],
  .ret (.prim .tup [(.prim .mul [(.prim .tup [(.cst (.int 0))]), (.cst (.int 24))]), (.cst (.int 1)), (.frz (.var 2))])]
/-- 42 _law_right: 0 _law_made, 1 _law_plan_here, 2 _law_some_here, 3 _law_pattern_here, 4 _law_content_here, 5 _law_ranks_here, 6 _law_again, 7 _law_one -/
def b__law_right : List Sm := [
  .asg (.tup [4, 5]) (.prim .tup [(.call 36 [(.var 1), (.var 2)]), (.call 29 [(.var 1)])]),
  .for_ (.nm 6) .rng [(.cst (.int 2))] [.ite (.prim .ne [(.prim .repr [(.call 20 [(.var 0), (.var 2)])]), (.prim .repr [(.var 4)])]) [.ret (.cst (.bl false))] [], .ite (.prim .ne [(.prim .repr [(.call 21 [(.var 0), (.var 2)])]), (.prim .repr [(.prim .maxL [(.mk false .cat [(.mk false .lst [(.cst (.int 0))]), (.comp false (.prim .item [(.var 5), (.var 7)]) (.nm 7) .seq [(.var 2)] [])])])])]) [.ret (.cst (.bl false))] [], .ite (.prim .ne [(.prim .repr [(.call 22 [(.var 0), (.var 2), (.var 3)])]), (.prim .repr [(.call 39 [(.var 3), (.var 4)])])]) [.ret (.cst (.bl false))] []],
  .ret (.cst (.bl true))]
/-- 43 law: 0 _law_script, 1 _law_pen_here, 2 _law_turn, 3 _law_plan_here, 4 _law_made, 5 _law_again, 6 _law_wide, 7 _law_some_here, 8 _law_pattern_here, 9 _law_seen, 10 _law_k -/
def b_law : List Sm := [
  .asg (.nm 1) (.call 23 [(.var 0)]),
  .for_ (.nm 2) .rng [(.cst (.int 20))] [.asg (.nm 3) (.call 34 [(.var 1), (.cst (.int 8))]), .ite (.prim .eq [(.var 2), (.cst (.int 0))]) [.asg (.nm 6) (.prim .tuple [(.comp false (.call 25 [(.var 1), (.cst (.int 8))]) (.nm 10) .rng [(.cst (.int 24))] [])]), .asg (.nm 3) (.prim .tup [(.var 6), (.cst (.int 24)), (.mk false .lst [(.prim .tup [(.cst (.int 0)), (.prim .revT [(.var 6)])]), (.cst .non), (.prim .tup [(.cst (.int 23)), (.prim .tup [(.cst (.int 7))])]), (.prim .tup [(.cst (.int 12)), (.prim .mul [(.prim .tup [(.cst (.int 0))]), (.cst (.int 12))])])])])] [.ite (.prim .lt [(.var 2), (.cst (.int 3))]) [.asg (.nm 3) (.call 41 [(.var 1), (.var 2)])] []], .asg (.nm 4) (.call 35 [(.var 3)]), .for_ (.nm 5) .rng [(.cst (.int 4))] [.par [7, 8] [(.call 38 [(.var 1), (.var 3)]), (.call 40 [(.var 1), (.var 3)])], .while_ (.and (.prim .eq [(.var 5), (.cst (.int 0))]) (.prim .lt [(.prim .len [(.var 7)]), (.prim .len [(.call 29 [(.var 3)])])])) [.asg (.nm 7) (.mk false .cat [(.var 7), (.mk false .slL [(.call 37 [(.call 29 [(.var 3)]), (.var 7)]), (.prim .neg [(.cst (.int 1))])])])], .asg (.nm 9) (.prim .repr [(.mk false .lst [(.var 7), (.var 8)])]), .ite (.or (.not (.call 42 [(.var 4), (.var 3), (.var 7), (.var 8)])) (.prim .ne [(.prim .repr [(.mk false .lst [(.var 7), (.var 8)])]), (.var 9)])) [.ret (.cst (.bl false))] []], .ite (.eqO 0 13 true (.var 4) (.call 35 [(.var 3)])) [.ret (.cst (.bl false))] []],
  .ret (.and (.prim .eq [(.call 20 [(.new false 0 11 [(.prim .tup [(.cst (.int 3))]), (.cst (.int 1)), (.mk false .lst [])]), (.mk false .lst [])]), (.prim .tup [(.cst (.int 3))])]) (.prim .eq [(.call 21 [(.new false 0 11 [(.prim .tup [(.cst (.int 3))]), (.cst (.int 1)), (.mk false .lst [(.cst .non)])]), (.mk false .lst [])]), (.cst (.int 0))]))]
def lay : Lay where
  fns := [
    ⟨("is_integer", none), ["thing"], 1, ["thing"], b_is_integer, false⟩,
    ⟨("is_below", none), ["thing", "count"], 2, ["thing", "count"], b_is_below, false⟩,
    ⟨("are_worths", none), ["thing"], 3, ["thing", "worth"], b_are_worths, false⟩,
    ⟨("is_content", none), ["thing"], 4, ["thing"], b_is_content, false⟩,
    ⟨("is_choice", none), ["thing"], 4, ["thing"], b_is_choice, false⟩,
    ⟨("is_pattern", none), ["cells", "thing"], 5, ["cells", "thing", "cell", "choice"], b_is_pattern, false⟩,
    ⟨("check_pattern", none), ["cells", "thing"], 6, ["cells", "thing"], b_check_pattern, false⟩,
    ⟨("is_matched", none), ["pattern", "content"], 1, ["pattern", "content", "cell", "choice"], b_is_matched, false⟩,
    ⟨("is_step", none), ["cells", "thing"], 4, ["cells", "thing"], b_is_step, false⟩,
    ⟨("broken", none), ["index", "step", "width"], 3, ["index", "step", "width", "first", "worths", "found", "start", "place"], b_broken, false⟩,
    ⟨("pieces_of", none), ["steps", "width"], 4, ["steps", "width", "found", "index", "step"], b_pieces_of, false⟩,
    ⟨("Plan", some "__init__"), ["self", "base", "width", "steps"], 5, ["self", "base", "width", "steps", "part", "step"], b_Plan_init, false⟩,
    ⟨("Plan", some "base"), ["self"], 1, ["self"], b_Plan_base, true⟩,
    ⟨("Plan", some "__eq__"), ["self", "other"], 1, ["self", "other"], b_Plan_eq, false⟩,
    ⟨("cells_in", none), ["plan", "piece"], 1, ["plan", "piece", "index", "first", "worths", "place", "worth"], b_cells_in, false⟩,
    ⟨("are_pieces", none), ["plan", "thing"], 3, ["plan", "thing", "piece"], b_are_pieces, false⟩,
    ⟨("lower_pieces", none), ["plan", "epoch"], 1, ["plan", "epoch", "piece", "rank"], b_lower_pieces, false⟩,
    ⟨("is_fall", none), ["plan", "thing"], 4, ["plan", "thing", "place", "piece", "other"], b_is_fall, false⟩,
    ⟨("check_fall", none), ["plan", "thing"], 5, ["plan", "thing"], b_check_fall, false⟩,
    ⟨("overwritten", none), ["plan", "content", "pieces"], 2, ["plan", "content", "pieces", "found", "piece", "cell", "worth"], b_overwritten, false⟩,
    ⟨("content_after", none), ["plan", "fall"], 6, ["plan", "fall"], b_content_after, false⟩,
    ⟨("epoch_in", none), ["plan", "fall"], 6, ["plan", "fall", "piece"], b_epoch_in, false⟩,
    ⟨("is_found", none), ["plan", "fall", "pattern"], 7, ["plan", "fall", "pattern", "content"], b_is_found, false⟩,
    ⟨("_law_pen", none), ["_law_script"], 1, ["_law_script"], b__law_pen, false⟩,
    ⟨("_law_next", none), ["_law_pen_here"], 3, ["_law_pen_here", "_law_index", "_law_cell_here", "_law_some_here", "_law_more", "_law_high"], b__law_next, false⟩,
    ⟨("_law_draw", none), ["_law_pen_here", "_law_under"], 4, ["_law_pen_here", "_law_under", "_law_digit"], b__law_draw, false⟩,
    ⟨("_law_some", none), ["_law_pen_here", "_law_pool", "_law_most"], 5, ["_law_pen_here", "_law_pool", "_law_most", "_law_rest", "_law_turn"], b__law_some, false⟩,
    ⟨("_law_split", none), ["_law_index", "_law_step_here", "_law_span_here"], 3, ["_law_index", "_law_step_here", "_law_span_here", "_law_first", "_law_worths_here", "_law_found", "_law_some_here", "_law_k"], b__law_split, false⟩,
    ⟨("_law_parts", none), ["_law_plan_here"], 4, ["_law_plan_here", "_law_found", "_law_index"], b__law_parts, false⟩,
    ⟨("_law_ranks", none), ["_law_plan_here"], 5, ["_law_plan_here", "_law_part"], b__law_ranks, false⟩,
    ⟨("_law_write", none), ["_law_pen_here", "_law_many", "_law_kinds", "_law_longest_row"], 5, ["_law_pen_here", "_law_many", "_law_kinds", "_law_longest_row", "_law_first", "_law_more", "_law_k"], b__law_write, false⟩,
    ⟨("_law_drawn", none), ["_law_pen_here", "_law_many", "_law_most", "_law_kinds"], 6, ["_law_pen_here", "_law_many", "_law_most", "_law_kinds", "_law_cells_here", "_law_plan_here", "_law_turn", "_law_longer", "_law_k"], b__law_drawn, false⟩,
    ⟨("_law_log", none), ["_law_pen_here", "_law_kinds"], 5, ["_law_pen_here", "_law_kinds", "_law_news", "_law_steps_here", "_law_step_here"], b__law_log, false⟩,
    ⟨("_law_copy", none), ["_law_pen_here", "_law_kinds"], 5, ["_law_pen_here", "_law_kinds", "_law_news", "_law_steps_here"], b__law_copy, false⟩,
    ⟨("_law_plan", none), ["_law_pen_here", "_law_most"], 7, ["_law_pen_here", "_law_most", "_law_road"], b__law_plan, false⟩,
    ⟨("_law_plan_of", none), ["_law_plan_here"], 7, ["_law_plan_here"], b__law_plan_of, false⟩,
    ⟨("_law_left", none), ["_law_plan_here", "_law_some_here"], 5, ["_law_plan_here", "_law_some_here", "_law_parts_here", "_law_found", "_law_one", "_law_index", "_law_first", "_law_worths_here", "_law_k"], b__law_left, false⟩,
    ⟨("_law_nexts", none), ["_law_ranks_here", "_law_some_here"], 3, ["_law_ranks_here", "_law_some_here", "_law_rest", "_law_k", "_law_j"], b__law_nexts, false⟩,
    ⟨("_law_fall", none), ["_law_pen_here", "_law_plan_here"], 6, ["_law_pen_here", "_law_plan_here", "_law_ranks_here", "_law_found", "_law_turn", "_law_some_here"], b__law_fall, false⟩,
    ⟨("_law_is_met", none), ["_law_pattern_here", "_law_content_here"], 1, ["_law_pattern_here", "_law_content_here", "_law_one"], b__law_is_met, false⟩,
    ⟨("_law_pattern", none), ["_law_pen_here", "_law_plan_here"], 7, ["_law_pen_here", "_law_plan_here", "_law_content_here", "_law_found", "_law_one", "_law_worths_here", "_law_turn"], b__law_pattern, false⟩,
    ⟨("_law_great", none), ["_law_pen_here", "_law_turn"], 5, ["_law_pen_here", "_law_turn", "_law_steps_here", "_law_k"], b__law_great, false⟩,
    ⟨("_law_right", none), ["_law_made", "_law_plan_here", "_law_some_here", "_law_pattern_here"], 8, ["_law_made", "_law_plan_here", "_law_some_here", "_law_pattern_here", "_law_content_here", "_law_ranks_here", "_law_again", "_law_one"], b__law_right, false⟩,
    ⟨("law", none), ["_law_script"], 9, ["_law_script", "_law_pen_here", "_law_turn", "_law_plan_here", "_law_made", "_law_again", "_law_wide", "_law_some_here", "_law_pattern_here", "_law_seen", "_law_k"], b_law, false⟩]
  cls := [⟨"Plan", ["start", "span", "deeds", "parts", "ranks"], 11, [], [("base", 12)], some 13⟩]
  glo := [("MAX_CELLS", .int 24), ("MAX_PIECES", .int 40), ("MAX_STEPS", .int 40), ("WORTHS", .int 8)]
  free := ["all", "bool", "dict", "enumerate", "int", "isinstance", "len", "list", "max", "min", "range", "repr", "set", "sorted", "tuple"]
def fnD : List He.DefD := [
  ⟨("is_integer", none), "is_integer", "is_integer", defArgs (top 9), defBody (top 9), defScope (top 9), [], []⟩,
  ⟨("is_below", none), "is_below", "is_below", defArgs (top 10), defBody (top 10), defScope (top 10), [], []⟩,
  ⟨("are_worths", none), "are_worths", "are_worths", defArgs (top 11), defBody (top 11), defScope (top 11), [], []⟩,
  ⟨("is_content", none), "is_content", "is_content", defArgs (top 12), defBody (top 12), defScope (top 12), [], []⟩,
  ⟨("is_choice", none), "is_choice", "is_choice", defArgs (top 13), defBody (top 13), defScope (top 13), [], []⟩,
  ⟨("is_pattern", none), "is_pattern", "is_pattern", defArgs (top 14), defBody (top 14), defScope (top 14), [], []⟩,
  ⟨("check_pattern", none), "check_pattern", "check_pattern", defArgs (top 15), defBody (top 15), defScope (top 15), [], []⟩,
  ⟨("is_matched", none), "is_matched", "is_matched", defArgs (top 16), defBody (top 16), defScope (top 16), [], []⟩,
  ⟨("is_step", none), "is_step", "is_step", defArgs (top 20), defBody (top 20), defScope (top 20), [], []⟩,
  ⟨("broken", none), "broken", "broken", defArgs (top 21), defBody (top 21), defScope (top 21), [], []⟩,
  ⟨("pieces_of", none), "pieces_of", "pieces_of", defArgs (top 22), defBody (top 22), defScope (top 22), [], []⟩,
  ⟨("Plan", some "__init__"), "__init__", "Plan.__init__", defArgs (inClass (top 23) 0), defBody (inClass (top 23) 0), defScope (inClass (top 23) 0), [], []⟩,
  ⟨("Plan", some "base"), "base", "Plan.base", defArgs (inClass (top 23) 1), defBody (inClass (top 23) 1), defScope (inClass (top 23) 1), [], []⟩,
  ⟨("Plan", some "__eq__"), "__eq__", "Plan.__eq__", defArgs (inClass (top 23) 9), defBody (inClass (top 23) 9), defScope (inClass (top 23) 9), [], []⟩,
  ⟨("cells_in", none), "cells_in", "cells_in", defArgs (top 24), defBody (top 24), defScope (top 24), [], []⟩,
  ⟨("are_pieces", none), "are_pieces", "are_pieces", defArgs (top 26), defBody (top 26), defScope (top 26), [], []⟩,
  ⟨("lower_pieces", none), "lower_pieces", "lower_pieces", defArgs (top 27), defBody (top 27), defScope (top 27), [], []⟩,
  ⟨("is_fall", none), "is_fall", "is_fall", defArgs (top 28), defBody (top 28), defScope (top 28), [], []⟩,
  ⟨("check_fall", none), "check_fall", "check_fall", defArgs (top 29), defBody (top 29), defScope (top 29), [], []⟩,
  ⟨("overwritten", none), "overwritten", "overwritten", defArgs (top 30), defBody (top 30), defScope (top 30), [], []⟩,
  ⟨("content_after", none), "content_after", "content_after", defArgs (top 31), defBody (top 31), defScope (top 31), [], []⟩,
  ⟨("epoch_in", none), "epoch_in", "epoch_in", defArgs (top 32), defBody (top 32), defScope (top 32), [], []⟩,
  ⟨("is_found", none), "is_found", "is_found", defArgs (top 33), defBody (top 33), defScope (top 33), [], []⟩,
  ⟨("_law_pen", none), "_law_pen", "_law_pen", defArgs (top 35), defBody (top 35), defScope (top 35), [], []⟩,
  ⟨("_law_next", none), "_law_next", "_law_next", defArgs (top 36), defBody (top 36), defScope (top 36), [], []⟩,
  ⟨("_law_draw", none), "_law_draw", "_law_draw", defArgs (top 37), defBody (top 37), defScope (top 37), [], []⟩,
  ⟨("_law_some", none), "_law_some", "_law_some", defArgs (top 38), defBody (top 38), defScope (top 38), [], []⟩,
  ⟨("_law_split", none), "_law_split", "_law_split", defArgs (top 39), defBody (top 39), defScope (top 39), [], []⟩,
  ⟨("_law_parts", none), "_law_parts", "_law_parts", defArgs (top 40), defBody (top 40), defScope (top 40), [], []⟩,
  ⟨("_law_ranks", none), "_law_ranks", "_law_ranks", defArgs (top 41), defBody (top 41), defScope (top 41), [], []⟩,
  ⟨("_law_write", none), "_law_write", "_law_write", defArgs (top 42), defBody (top 42), defScope (top 42), [], []⟩,
  ⟨("_law_drawn", none), "_law_drawn", "_law_drawn", defArgs (top 43), defBody (top 43), defScope (top 43), [], []⟩,
  ⟨("_law_log", none), "_law_log", "_law_log", defArgs (top 44), defBody (top 44), defScope (top 44), [], []⟩,
  ⟨("_law_copy", none), "_law_copy", "_law_copy", defArgs (top 45), defBody (top 45), defScope (top 45), [], []⟩,
  ⟨("_law_plan", none), "_law_plan", "_law_plan", defArgs (top 46), defBody (top 46), defScope (top 46), [], []⟩,
  ⟨("_law_plan_of", none), "_law_plan_of", "_law_plan_of", defArgs (top 47), defBody (top 47), defScope (top 47), [], []⟩,
  ⟨("_law_left", none), "_law_left", "_law_left", defArgs (top 48), defBody (top 48), defScope (top 48), [], []⟩,
  ⟨("_law_nexts", none), "_law_nexts", "_law_nexts", defArgs (top 49), defBody (top 49), defScope (top 49), [], []⟩,
  ⟨("_law_fall", none), "_law_fall", "_law_fall", defArgs (top 50), defBody (top 50), defScope (top 50), [], []⟩,
  ⟨("_law_is_met", none), "_law_is_met", "_law_is_met", defArgs (top 51), defBody (top 51), defScope (top 51), [], []⟩,
  ⟨("_law_pattern", none), "_law_pattern", "_law_pattern", defArgs (top 52), defBody (top 52), defScope (top 52), [], []⟩,
  ⟨("_law_great", none), "_law_great", "_law_great", defArgs (top 53), defBody (top 53), defScope (top 53), [], []⟩,
  ⟨("_law_right", none), "_law_right", "_law_right", defArgs (top 54), defBody (top 54), defScope (top 54), [], []⟩,
  ⟨("law", none), "law", "law", defArgs (top 55), defBody (top 55), defScope (top 55), [], []⟩]
theorem lay_ok : lay.ok = true := by decide +kernel
theorem lay_chk (K : PySem.W.Frag) : (lay.fns.zip fnD).all (chk (tbOf K lay)) = true := by kernel_rfl
end L3
namespace L3
theorem k12_law (ns : List Int) (hn : ns.length ≤ 63) : ∃ h', FL lay 43 [.d (.ro ns)] [] = .ok (.d (.bl true)) h' := by
  have f0 : FL lay 0 = run (FL lay) 1 Lb.is_integer := FL_at _ _ _ _ rfl
  have f1 : FL lay 1 = run (FL lay) 2 (Lb.is_below 0) := FL_at _ _ _ _ rfl
  have f2 : FL lay 2 = run (FL lay) 2 (Lb.are_worths 1) := FL_at _ _ _ _ rfl
  have f3 : FL lay 3 = run (FL lay) 1 (Lb.is_content 2) := FL_at _ _ _ _ rfl
  have f4 : FL lay 4 = run (FL lay) 1 (Lb.is_choice 2) := FL_at _ _ _ _ rfl
  have f5 : FL lay 5 = run (FL lay) 4 (Lb.is_pattern 1 4) := FL_at _ _ _ _ rfl
  have f6 : FL lay 6 = run (FL lay) 2 (Lb.check2 5 .wall) := FL_at _ _ _ _ rfl
  have f7 : FL lay 7 = run (FL lay) 4 Lb.is_matched := FL_at _ _ _ _ rfl
  have f8 : FL lay 8 = run (FL lay) 2 (Lb.is_step 1 2) := FL_at _ _ _ _ rfl
  have f9 : FL lay 9 = run (FL lay) 8 Lb.broken := FL_at _ _ _ _ rfl
  have f10 : FL lay 10 = run (FL lay) 5 (Lb.pieces_of 9) := FL_at _ _ _ _ rfl
  have f11 : FL lay 11 = run (FL lay) 6 (Lb.plan_init 3 0 8 10) := FL_at _ _ _ _ rfl
  have f12 : FL lay 12 = run (FL lay) 1 Lb.plan_base := FL_at _ _ _ _ rfl
  have f13 : FL lay 13 = run (FL lay) 2 Lb.plan_eq := FL_at _ _ _ _ rfl
  have f14 : FL lay 14 = run (FL lay) 7 Lb.cells_in := FL_at _ _ _ _ rfl
  have f15 : FL lay 15 = run (FL lay) 3 (Lb.are_pieces 1) := FL_at _ _ _ _ rfl
  have f16 : FL lay 16 = run (FL lay) 4 Lb.lower_pieces := FL_at _ _ _ _ rfl
  have f17 : FL lay 17 = run (FL lay) 5 (Lb.is_fall 15 16) := FL_at _ _ _ _ rfl
  have f18 : FL lay 18 = run (FL lay) 2 (Lb.check2 17 .wall) := FL_at _ _ _ _ rfl
  have f19 : FL lay 19 = run (FL lay) 7 (Lb.overwritten 14) := FL_at _ _ _ _ rfl
  have f20 : FL lay 20 = run (FL lay) 2 (Lb.content_after 18 12 19) := FL_at _ _ _ _ rfl
  have f21 : FL lay 21 = run (FL lay) 3 (Lb.epoch_in 18) := FL_at _ _ _ _ rfl
  have f22 : FL lay 22 = run (FL lay) 4 (Lb.is_found 20 6 7) := FL_at _ _ _ _ rfl
  have f23 : FL lay 23 = run (FL lay) 1 Lb.pen := FL_at _ _ _ _ rfl
  have f24 : FL lay 24 = run (FL lay) 6 Lb.next := FL_at _ _ _ _ rfl
  have f25 : FL lay 25 = run (FL lay) 3 (Lb.draw 24) := FL_at _ _ _ _ rfl
  have f26 : FL lay 26 = run (FL lay) 5 (Lb.law_some 25) := FL_at _ _ _ _ rfl
  have f27 : FL lay 27 = run (FL lay) 8 Lb.split := FL_at _ _ _ _ rfl
  have f28 : FL lay 28 = run (FL lay) 3 (Lb.parts 27) := FL_at _ _ _ _ rfl
  have f29 : FL lay 29 = run (FL lay) 2 (Lb.law_ranks 28) := FL_at _ _ _ _ rfl
  have f30 : FL lay 30 = run (FL lay) 7 (Lb.write 25) := FL_at _ _ _ _ rfl
  have f31 : FL lay 31 = run (FL lay) 9 (Lb.drawn 25 30 28) := FL_at _ _ _ _ rfl
  have f32 : FL lay 32 = run (FL lay) 5 (Lb.log 25) := FL_at _ _ _ _ rfl
  have f33 : FL lay 33 = run (FL lay) 4 (Lb.copy 25) := FL_at _ _ _ _ rfl
  have f34 : FL lay 34 = run (FL lay) 3 (Lb.plan 25 31 32 33) := FL_at _ _ _ _ rfl
  have f35 : FL lay 35 = run (FL lay) 1 (Lb.plan_of 11) := FL_at _ _ _ _ rfl
  have f36 : FL lay 36 = run (FL lay) 9 (Lb.law_left 28) := FL_at _ _ _ _ rfl
  have f37 : FL lay 37 = run (FL lay) 5 Lb.law_nexts := FL_at _ _ _ _ rfl
  have f38 : FL lay 38 = run (FL lay) 6 (Lb.law_fall 25 29 37) := FL_at _ _ _ _ rfl
  have f39 : FL lay 39 = run (FL lay) 3 Lb.law_is_met := FL_at _ _ _ _ rfl
  have f40 : FL lay 40 = run (FL lay) 7 (Lb.law_pattern 36 38 26 25) := FL_at _ _ _ _ rfl
  have f41 : FL lay 41 = run (FL lay) 4 (Lb.k12great 25) := FL_at _ _ _ _ rfl
  have f42 : FL lay 42 = run (FL lay) 8 (Lb.k12right 36 29 20 21 22 39) := FL_at _ _ _ _ rfl
  have f43 : FL lay 43 = run (FL lay) 11 (Lb.k12law 23 34 25 41 35 13 38 40 29 37 42 20 21 11) := FL_at _ _ _ _ rfl
  have g0 : IntEq (FL lay) 0 := is_integer_eq f0
  have g1 : BelowEq (FL lay) 1 := is_below_eq f0 f1
  have g2 : WorthsEq (FL lay) 2 := are_worths_eq g1 f2
  have g3 : ContEq (FL lay) 3 := is_content_eq g2 f3
  have g4 : ChoiceEq (FL lay) 4 := is_choice_eq g2 f4
  have g5 : PatEq (FL lay) 5 := is_pattern_eq g1 g4 f5
  have g8 : StepEq (FL lay) 8 := is_step_eq g1 g2 f8
  have g10 : PiecesEq (FL lay) 10 := pieces_eq (broken_eq f9) f10
  have g11 : InitEq (FL lay) 11 := fun ok wf => plan_init_eq g3 g0 g8 g10 f11 ok wf
  have g14 : CellsEq (FL lay) 14 := cells_in_eq f14
  have g17 : IsEq (FL lay) 17 := fun {t} ok {x h} w hx => is_fall_eq (fun w hx => are_pieces_eq g1 f15 w hx) (fun w => lower_eq f16 (by have := ok.p1; omega) w) f17 (by have := ok.p1; omega) w hx
  have g18 : CheckOk (FL lay) 18 := check_fall_ok g17 f18
  have g19 : OverEq (FL lay) 19 := over_eq g14 f19
  have g20 : AfterEq (FL lay) 20 := content_after_eq g18 f12 g19 f20
  have g21 : EpochEq (FL lay) 21 := epoch_in_eq g18 f21
  have g22 : FoundEq (FL lay) 22 := is_found_eq g20 g5 f6 f7 f22
  have g25 : DrawOk (FL lay) 25 := fun hc pc hb w u0 u1 k => draw_wp f24 f25 hc pc hb w u0 u1 k
  have g26 : SomeOk (FL lay) 26 := law_some_ok g25 f26
  have g28 : PartsEq (FL lay) 28 := parts_eq (split_eq f27) f28
  have g29 : RanksEq (FL lay) 29 := law_ranks_eq g28 f29
  have g30 : WriteOk (FL lay) 30 := write_ok g25 f30
  have g34 : GenOk (FL lay) 34 8 := plan_ok g25 g30 g28 f31 (log_ok g25 f32) (copy_ok g25 f33) f34 (by decide) (by decide)
  have g35 : OfEq (FL lay) 35 := fun ok wf => plan_of_eq g11 f35 ok wf
  have g36 : LeftEq (FL lay) 36 := law_left_eq g28 f36
  have g37 : NextsEq (FL lay) 37 := nexts_eq f37
  have g38 : FallOk (FL lay) 38 := fall_ok g25 g29 g37 f38
  have g39 : MetEq (FL lay) 39 := law_is_met_eq f39
  have g40 : PatternOk (FL lay) 40 := law_pattern_ok g36 g38 g26 g25 f40
  have g41 : GreatOk (FL lay) 41 := great_ok g25 f41
  have g42 : RightOk (FL lay) 42 := right_ok g36 g29 g20 g21 g22 g39 f42
  exact k12_ok f23 g34 g25 g41 g35 f13 g38 g40 g29 g37 g42 g20 g21 g11 f43 hn
end L3
namespace L3
open PySem PySem.Spec PyProof.Rows L2
abbrev R : PySem.W.OpenRow := PySem.W.OpenLaw.row PySem.Challenge.rw_afterfall_k12_what_is_found
def names : List PySem.Str := (["_wall", "FallError", "InvalidPattern", "InvalidPlan", "InvalidFall", "MAX_CELLS", "WORTHS", "is_integer", "is_below", "are_worths", "is_content", "is_choice", "is_pattern", "check_pattern", "is_matched", "MAX_STEPS", "MAX_PIECES", "is_step", "broken", "pieces_of", "Plan", "cells_in", "are_pieces", "lower_pieces", "is_fall"] : List PySem.Str) ++ (["check_fall", "overwritten", "content_after", "epoch_in", "is_found", "_law_pen", "_law_next", "_law_draw", "_law_some", "_law_split", "_law_parts", "_law_ranks", "_law_write", "_law_drawn", "_law_log", "_law_copy", "_law_plan", "_law_plan_of", "_law_left", "_law_nexts", "_law_fall", "_law_is_met", "_law_pattern", "_law_great", "_law_right"] : List PySem.Str)
theorem hrun (w : World) : HandSHeadRun.RunEq R (PySem.W.view R.prog [55]) (hook3 lay fnD) (fun s => obs3G lay fnD (HandSHeadRun.getT s)) 16000 names w := by
  intro os
  kernel_rfl
end L3
open PySem PySem.W PySem.Calls PyProof.Rows
theorem L3.k12_of {F : Nat → List L3.Vl → L3.Hs → L3.Out L3.Vl} (hr : L3.RunsAll F L3.lay) (hlaw : ∀ ns : List Int, ns.length ≤ 63 → ∃ h', F 43 [.d (.ro ns)] [] = .ok (.d (.bl true)) h') : PySem.Challenge.rw_afterfall_k12_what_is_found.Holds := by
  w_on; o_law
  refine HandSHeadRun.head_any (r := L3.R) (q := view L3.R.prog [55]) (H := L3.hook3 L3.lay L3.fnD) (ob := fun s => L3.obs3G L3.lay L3.fnD (HandSHeadRun.getT s)) (M := 16000) (loose := L3.names) (d := HandSHeadRun.topDef L3.R.prog 55) (kwd := []) (L3.obs3_eq L3.lay L3.fnD)
    (by kernel_rfl) (fun s => by kernel_rfl) L3.hrun (by kernel_rfl) (by kernel_rfl) (by kernel_rfl) (by rfl) (by first | assumption | decide +kernel) (by decide +kernel) ⟨rfl, rfl, rfl, rfl, rfl, by decide +kernel⟩ ?hw ?hc
  case hw => w_witness2
  case hc =>
    exact L3.law_walk (l := PySem.Challenge.rw_afterfall_k12_what_is_found) (L := L3.lay) (fn := L3.fnD) (F := F) (il := 43) (f := L3.lay.fns.getD 43 ⟨("", none), [], 0, [], [], false⟩) (n := 63) (x := "_law_script") (by kernel_rfl) (by kernel_rfl) (by kernel_rfl) rfl (by decide) (by kernel_rfl) ⟨rfl, by decide, by decide⟩ L3.lay_ok (by kernel_rfl) L3.lay_chk hr hlaw
theorem PySem.Challenge.cw_afterfall_k12_what_is_found_holds : PySem.Challenge.rw_afterfall_k12_what_is_found.Holds := by
  exact L3.k12_of (L3.FL_runs L3.lay) L3.k12_law
